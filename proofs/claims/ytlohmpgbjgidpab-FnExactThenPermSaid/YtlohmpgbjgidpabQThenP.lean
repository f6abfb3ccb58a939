/- The two ThenPerm functions. -/
import Derived.Test.YtlohmpgbjgidpabWMore
import Derived.Test.YtlohmpgbjgidpabPx57
import Derived.Test.YtlohmpgbjgidpabPx63
import Derived.Test.YtlohmpgbjgidpabPx99
import Derived.Test.YtlohmpgbjgidpabQBase
import Derived.Test.YtlohmpgbjgidpabQLists
import Derived.Test.YtlohmpgbjgidpabQPerm
import Derived.Test.YtlohmpgbjgidpabQMaps
namespace Go.Proofs.Ytlohmpgbjgidpab.Q
open Go.RowKit Go.Proofs.Ytlohmpgbjgidpab.P Go.Proofs.YtlohmpgbjgidpabW.PrintWords Go.Proofs.YtlohmpgbjgidpabW.PrintLast
set_option linter.unusedVariables false
set_option linter.unusedSimpArgs false

theorem spec_then_loop (p q : List Int) (h0 : ∀ (i : Nat) (hi : i < p.length), 0 ≤ p[i] ∧ p[i] < (q.length : Int)) (hn : p.length ≤ 24) : ∀ (d i : Nat), i + d = p.length →
    Ev (fun k => spec_l02Then.l0 k q ((thenL p q).take i) p (p.length : Int) i) (thenL p q) := by
  intro d
  induction d with
  | zero =>
    intro i h
    refine Ev.step (fun k => by rw [spec_l02Then.l0]) (Ev.neg (by omega) ?_)
    rw [List.take_of_length_le (by rw [thenL_length]; omega)]
    exact Ev.now _
  | succ d ih =>
    intro i h
    have a := h0 i (by omega)
    refine Ev.step (fun k => by rw [spec_l02Then.l0]) ?_
    rw [rdg (by omega), w64n (by omega)]
    refine Ev.pos (by omega) (Ev.pos (by omega) (Ev.pos (by omega) (Ev.pos (by omega) (Ev.pos (by omega) (Ev.pos (by rw [List.length_take]; omega) ?_)))))
    rw [← thenL_get p q (by omega), ← List.take_succ_eq_append_getElem (by rw [thenL_length]; omega)]
    exact ih (i + 1) (by omega)
theorem spec_l02Then_ev (p q : List Int) (h0 : ∀ (i : Nat) (hi : i < p.length), 0 ≤ p[i] ∧ p[i] < (q.length : Int)) (hn : p.length ≤ 24) : Ev (fun k => spec_l02Then.f k p q) (thenL p q) :=
  Ev.same (fun k => by rw [spec_l02Then.f]; rfl) (spec_then_loop p q h0 hn p.length 0 (by omega))
/-- What ThenPerm returns. -/
def thenB (p q : List Int) : List Int := if permB p = true ∧ permB q = true ∧ p.length = q.length then thenL p q else []
theorem thenB_length (p q : List Int) : (thenB p q).length ≤ 24 := by
  unfold thenB
  split
  · rename_i h
    rw [thenL_length]; exact ((permB_iff p).1 h.1).1
  · simp
theorem then_in {p q : List Int} (h : permB p = true) (hl : p.length = q.length) : ∀ (i : Nat) (hi : i < p.length), 0 ≤ p[i] ∧ p[i] < (q.length : Int) := fun i hi => by
  have := ((permB_iff p).1 h).2
  exact ⟨this.get_lo hi, by have := this.get_hi hi; omega⟩
theorem spec_ThenPerm_ev (p q : List Int) (hl : p.length < 9223372036854775807) (hl' : q.length < 9223372036854775807) : Ev (fun k => spec_ThenPerm.f k p q) (thenB p q) := by
  refine Ev.same (fun k => by rw [spec_ThenPerm.f]) (Ev.bind (spec_PermOk_ev p hl) ?_)
  unfold thenB
  by_cases h : permB p = true
  · refine Ev.pos h (Ev.bind (spec_PermOk_ev q hl') ?_)
    by_cases h' : permB q = true
    · refine Ev.pos h' ?_
      by_cases e : p.length = q.length
      · rw [if_pos ⟨h, h', e⟩]
        exact Ev.pos (by omega) (Ev.bind (spec_l02Then_ev p q (then_in h e) ((permB_iff p).1 h).1) (Ev.now _))
      · rw [if_neg (fun z => e z.2.2)]
        exact Ev.neg (by omega) (Ev.now _)
    · rw [if_neg (fun z => h' z.2.1)]
      exact Ev.neg h' (Ev.now _)
  · rw [if_neg (fun z => h z.1)]
    exact Ev.neg h (Ev.now _)
theorem impl_then_loop (p q : List Int) (h0 : ∀ (i : Nat) (hi : i < p.length), 0 ≤ p[i] ∧ p[i] < (q.length : Int)) (hn : p.length ≤ 24) : ∀ (d i : Nat) (ys : List Int), i + d = p.length → ys.length = p.length → ys.take i = (thenL p q).take i →
    Ev (fun k => impl_ThenPerm.l0 k q ys p (p.length : Int) i) (thenL p q) := by
  intro d
  induction d with
  | zero =>
    intro i ys h hl hy
    refine Ev.step (fun k => by rw [impl_ThenPerm.l0]) (Ev.neg (by omega) ?_)
    rw [List.take_of_length_le (by omega), List.take_of_length_le (by rw [thenL_length]; omega)] at hy
    rw [hy]
    exact Ev.now _
  | succ d ih =>
    intro i ys h hl hy
    have a := h0 i (by omega)
    refine Ev.step (fun k => by rw [impl_ThenPerm.l0]) ?_
    rw [rdg (by omega), w64n (by omega)]
    refine Ev.pos (by omega) (Ev.pos (by omega) (Ev.pos (by omega) (Ev.pos (by omega) (Ev.pos (by omega) (Ev.pos (by omega) ?_)))))
    rw [Int.toNat_natCast]
    refine ih (i + 1) _ (by omega) (by rw [List.length_set, hl]) ?_
    rw [List.take_succ_eq_append_getElem (by simp; omega), List.getElem_set_self, List.take_set_of_le (by omega), hy, List.take_succ_eq_append_getElem (l := thenL p q) (by rw [thenL_length]; omega), thenL_get p q (by omega)]
theorem impl_ThenPerm_ev (p q : List Int) : Ev (fun k => impl_ThenPerm.f k p q) (thenB p q) := by
  have no : Ev (fun k => impl_ThenPerm.j0 k p q true) [] := Ev.step (fun k => by rw [impl_ThenPerm.j0]) (Ev.pos rfl (Ev.now _))
  refine Ev.same (fun k => by rw [impl_ThenPerm.f]) (Ev.plain (impl_PermOk_some p) ?_)
  unfold thenB
  by_cases h : permB p = true
  · refine Ev.pos h (Ev.plain (impl_PermOk_some q) ?_)
    by_cases h' : permB q = true
    · refine Ev.pos h' ?_
      by_cases e : p.length = q.length
      · rw [if_pos ⟨h, h', e⟩, show ((p.length : Int) != (q.length : Int)) = false by simp [e]]
        have hp := (permB_iff p).1 h
        refine Ev.step (fun k => by rw [impl_ThenPerm.j0]) (Ev.neg (by simp) (Ev.pos (by omega) (Ev.pos (by omega) ?_)))
        exact impl_then_loop p q (then_in h e) hp.1 p.length 0 _ (by omega) (by simp) (by simp)
      · rw [if_neg (fun z => e z.2.2), show ((p.length : Int) != (q.length : Int)) = true by simp; omega]
        exact no
    · rw [if_neg (fun z => h' z.2.1)]
      exact Ev.neg h' no
  · rw [if_neg (fun z => h z.1)]
    exact Ev.neg h no

end Go.Proofs.Ytlohmpgbjgidpab.Q
