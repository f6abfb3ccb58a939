/- The two RenamePerm functions. -/
import Derived.Test.YtlohmpgbjgidpabWMore
import Derived.Test.YtlohmpgbjgidpabPx95
import Derived.Test.YtlohmpgbjgidpabPx96
import Derived.Test.YtlohmpgbjgidpabPx97
import Derived.Test.YtlohmpgbjgidpabQBase
import Derived.Test.YtlohmpgbjgidpabQLists
import Derived.Test.YtlohmpgbjgidpabQPerm
import Derived.Test.YtlohmpgbjgidpabQMaps
import Derived.Test.YtlohmpgbjgidpabQFill
namespace Go.Proofs.Ytlohmpgbjgidpab.Q
open Go.RowKit Go.Proofs.Ytlohmpgbjgidpab.P Go.Proofs.YtlohmpgbjgidpabW.PrintWords Go.Proofs.YtlohmpgbjgidpabW.PrintLast
set_option linter.unusedVariables false
set_option linter.unusedSimpArgs false

theorem spec_ren_loop (p q : List Int) (hp : IsPerm p) (hq : IsPerm q) (hl : p.length = q.length) (hn : p.length ≤ 24) : ∀ (d i : Nat), i + d = p.length →
    Ev (fun k => spec_l02Rename.l0 k q (fillAt q (fun i => rd q (rd p (i : Int))) i) p (p.length : Int) i) (renL p q) := by
  intro d
  induction d with
  | zero =>
    intro i h
    refine Ev.step (fun k => by rw [spec_l02Rename.l0]) (Ev.neg (by omega) ?_)
    rw [show i = q.length by omega, fill_ren hq hl]
    exact Ev.now _
  | succ d ih =>
    intro i h
    have a := hp.get_lo (i := i) (by omega)
    have b := hp.get_hi (i := i) (by omega)
    have a' := hq.get_lo (i := i) (by omega)
    have b' := hq.get_hi (i := i) (by omega)
    refine Ev.step (fun k => by rw [spec_l02Rename.l0]) ?_
    have s := fillAt_set hq (fun i => rd q (rd p (i : Int))) (i := i) (by omega)
    rw [rdg (xs := p) (by omega)] at s
    rw [rdg (xs := p) (by omega), rdg (xs := q) (i := i) (by omega), w64n (by omega), fillAt_length, s]
    refine Ev.pos (by omega) (Ev.pos (by omega) (Ev.pos (by omega) (Ev.pos (by omega) (Ev.pos (by omega) (Ev.pos (by omega) (Ev.pos (by omega) (Ev.pos (by omega) ?_)))))))
    exact ih (i + 1) (by omega)
theorem spec_l02Rename_ev (p q : List Int) (hp : IsPerm p) (hq : IsPerm q) (hl : p.length = q.length) (hn : p.length ≤ 24) : Ev (fun k => spec_l02Rename.f k p q) (renL p q) := by
  refine Ev.same (fun k => by rw [spec_l02Rename.f]) (Ev.pos (by omega) (Ev.pos (by omega) ?_))
  have := spec_ren_loop p q hp hq hl hn p.length 0 (by omega)
  rw [fillAt_zero, ← hl] at this
  simpa using this
/-- What RenamePerm returns. -/
def renB (p q : List Int) : List Int := if permB p = true ∧ permB q = true ∧ p.length = q.length then renL p q else []
theorem renB_length (p q : List Int) : (renB p q).length ≤ 24 := by
  unfold renB
  split
  · rename_i h
    rw [renL_length]; exact ((permB_iff q).1 h.2.1).1
  · simp
theorem spec_RenamePerm_ev (p q : List Int) (hl : p.length < 9223372036854775807) (hl' : q.length < 9223372036854775807) : Ev (fun k => spec_RenamePerm.f k p q) (renB p q) := by
  refine Ev.same (fun k => by rw [spec_RenamePerm.f]) (Ev.bind (spec_PermOk_ev p hl) ?_)
  unfold renB
  by_cases h : permB p = true
  · refine Ev.pos h (Ev.bind (spec_PermOk_ev q hl') ?_)
    by_cases h' : permB q = true
    · refine Ev.pos h' ?_
      by_cases e : p.length = q.length
      · rw [if_pos ⟨h, h', e⟩]
        exact Ev.pos (by omega) (Ev.bind (spec_l02Rename_ev p q ((permB_iff p).1 h).2 ((permB_iff q).1 h').2 e ((permB_iff p).1 h).1) (Ev.now _))
      · rw [if_neg (fun z => e z.2.2)]
        exact Ev.neg (by omega) (Ev.now _)
    · rw [if_neg (fun z => h' z.2.1)]
      exact Ev.neg h' (Ev.now _)
  · rw [if_neg (fun z => h z.1)]
    exact Ev.neg h (Ev.now _)
theorem impl_ren_loop (p q : List Int) (hp : IsPerm p) (hq : IsPerm q) (hl : p.length = q.length) (hn : p.length ≤ 24) : ∀ (d i : Nat), i + d = p.length →
    Ev (fun k => impl_RenamePerm.l0 k q (fillAt q (fun i => rd q (rd p (i : Int))) i) p (p.length : Int) i) (renL p q) := by
  intro d
  induction d with
  | zero =>
    intro i h
    refine Ev.step (fun k => by rw [impl_RenamePerm.l0]) (Ev.neg (by omega) ?_)
    rw [show i = q.length by omega, fill_ren hq hl]
    exact Ev.now _
  | succ d ih =>
    intro i h
    have a := hp.get_lo (i := i) (by omega)
    have b := hp.get_hi (i := i) (by omega)
    have a' := hq.get_lo (i := i) (by omega)
    have b' := hq.get_hi (i := i) (by omega)
    refine Ev.step (fun k => by rw [impl_RenamePerm.l0]) ?_
    have s := fillAt_set hq (fun i => rd q (rd p (i : Int))) (i := i) (by omega)
    rw [rdg (xs := p) (by omega)] at s
    rw [rdg (xs := p) (by omega), rdg (xs := q) (i := i) (by omega), w64n (by omega), fillAt_length, s]
    refine Ev.pos (by omega) (Ev.pos (by omega) (Ev.pos (by omega) (Ev.pos (by omega) (Ev.pos (by omega) (Ev.pos (by omega) (Ev.pos (by omega) (Ev.pos (by omega) ?_)))))))
    exact ih (i + 1) (by omega)
theorem impl_RenamePerm_ev (p q : List Int) : Ev (fun k => impl_RenamePerm.f k p q) (renB p q) := by
  have no : Ev (fun k => impl_RenamePerm.j0 k p q true) [] := Ev.step (fun k => by rw [impl_RenamePerm.j0]) (Ev.pos rfl (Ev.now _))
  refine Ev.same (fun k => by rw [impl_RenamePerm.f]) (Ev.plain (impl_PermOk_some p) ?_)
  unfold renB
  by_cases h : permB p = true
  · refine Ev.pos h (Ev.plain (impl_PermOk_some q) ?_)
    by_cases h' : permB q = true
    · refine Ev.pos h' ?_
      by_cases e : p.length = q.length
      · rw [if_pos ⟨h, h', e⟩, show ((p.length : Int) != (q.length : Int)) = false by simp [e]]
        have hp := (permB_iff p).1 h
        refine Ev.step (fun k => by rw [impl_RenamePerm.j0]) (Ev.neg (by simp) (Ev.pos (by omega) (Ev.pos (by omega) ?_)))
        have := impl_ren_loop p q hp.2 ((permB_iff q).1 h').2 e hp.1 p.length 0 (by omega)
        rw [fillAt_zero, ← e] at this
        simpa using this
      · rw [if_neg (fun z => e z.2.2), show ((p.length : Int) != (q.length : Int)) = true by simp; omega]
        exact no
    · rw [if_neg (fun z => h' z.2.1)]
      exact Ev.neg h' no
  · rw [if_neg (fun z => h z.1)]
    exact Ev.neg h no

end Go.Proofs.Ytlohmpgbjgidpab.Q
