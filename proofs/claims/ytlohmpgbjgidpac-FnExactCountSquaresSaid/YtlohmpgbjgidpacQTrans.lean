/- The two IsTransitive functions tell whether every square is met from the first one. -/
import Derived.Test.YtlohmpgbjgidpacWMore
import Derived.Test.YtlohmpgbjgidpacPx13
import Derived.Test.YtlohmpgbjgidpacPx7
import Derived.Test.YtlohmpgbjgidpacQBase
import Derived.Test.YtlohmpgbjgidpacQLists
import Derived.Test.YtlohmpgbjgidpacQPerm
import Derived.Test.YtlohmpgbjgidpacQMaps
import Derived.Test.YtlohmpgbjgidpacQReach
namespace Go.Proofs.Ytlohmpgbjgidpac.Q
open Go.RowKit Go.Proofs.Ytlohmpgbjgidpac.P Go.Proofs.YtlohmpgbjgidpacW.PrintWords Go.Proofs.YtlohmpgbjgidpacW.PrintLast
set_option linter.unusedVariables false
set_option linter.unusedSimpArgs false

theorem seen_set {seen : List Bool} {out : List Int} {n : Nat} (hl : seen.length = n) (hs : ∀ x : Int, 0 ≤ x → x < (n : Int) → rdOf false seen x = out.contains x) {y : Int} (h0 : 0 ≤ y) (h1 : y < (n : Int)) :
    ∀ x : Int, 0 ≤ x → x < (n : Int) → rdOf false (seen.set y.toNat true) x = (out ++ [y]).contains x := by
  intro x x0 x1
  have := hs x x0 x1
  simp only [rdOf] at this ⊢
  by_cases e : x = y
  · subst e
    have hlt : x.toNat < seen.length := by omega
    simp [List.getD, hlt]
  · have hne : y.toNat ≠ x.toNat := by omega
    have h4 : (out ++ [y]).contains x = out.contains x := by simp [e]
    rw [h4, ← this]
    simp [List.getD, List.getElem?_set_ne hne]
theorem impl_trans_loop (p q : List Int) (hp : IsPerm p) (hq : IsPerm q) (hl : p.length = q.length) (hn : p.length ≤ 24) : ∀ (d a : Nat) (out : List Int) (seen : List Bool), p.length + 1 ≤ a + d → a ≤ out.length → Few p.length out →
    seen.length = p.length → (∀ x : Int, 0 ≤ x → x < (p.length : Int) → rdOf false seen x = out.contains x) →
    Ev (fun k => impl_IsTransitive.l0 k p q seen out (a : Int)) (decide ((reachF p q d out a).length = p.length)) := by
  intro d
  induction d with
  | zero => intro a out seen h ha hf; have := hf.len; omega
  | succ d ih =>
    intro a out seen h ha hf sl hs
    have len := hf.len
    refine Ev.step (fun k => by rw [impl_IsTransitive.l0]) ?_
    rw [reachF]
    by_cases c : a < out.length
    · rw [if_pos c]
      have m := rd_mem c
      have x0 := hf.lo _ m
      have x1 := hf.hi _ m
      have bp := rd_perm hp x0 x1
      have bq := rd_perm hq x0 (by omega)
      have f1 := hf.add bp.1 bp.2
      have f2 := f1.add bq.1 (by omega)
      have l1 := addNew_length out (rd p (rd out (a : Int)))
      have l2 := addNew_length (addNew out (rd p (rd out (a : Int)))) (rd q (rd out (a : Int)))
      have n1 := f1.len
      have n2 := f2.len
      have next := fun s => ih (a + 1) _ s (by omega) (by omega) f2
      refine Ev.pos (by omega) (Ev.pos (by omega) (Ev.pos x0 (Ev.pos x1 (Ev.pos (by omega) (Ev.plain rfl ?_)))))
      rw [← hl] at bq
      generalize rd p (rd out (a : Int)) = x at *
      generalize rd q (rd out (a : Int)) = y at *
      have r0 : rd [x, y] 0 = x := rfl
      have r1 : rd [x, y] 1 = y := rfl
      have tail : ∀ (o : List Int) (s : List Bool), o.length ≤ 24 → addNew o y = addNew (addNew out x) y → s.length = p.length → (∀ x : Int, 0 ≤ x → x < (p.length : Int) → rdOf false s x = o.contains x) →
          Ev (fun k => impl_IsTransitive.l1 k p q s o (a : Int) [x, y] 2 1) (decide ((reachF p q d (addNew (addNew out x) y) (a + 1)).length = p.length)) := by
        intro o s ho e hsl hso
        refine Ev.step (fun k => by rw [impl_IsTransitive.l1]) (Ev.pos (by omega) (Ev.pos (by omega) (Ev.pos (by simp) ?_)))
        rw [r1]
        refine Ev.pos (by omega) (Ev.pos (by omega) ?_)
        rw [hso y bq.1 bq.2]
        by_cases b : o.contains y = true
        · refine Ev.pos b (Ev.step (fun k => by rw [impl_IsTransitive.l1]) (Ev.neg (by rw [wr2]; omega) ?_))
          rw [w64n (by omega)]
          rw [addNew, if_pos b] at e
          rw [← e] at next
          rw [← e]
          exact next s hsl hso
        · refine Ev.neg b (Ev.pos (by omega) (Ev.step (fun k => by rw [impl_IsTransitive.l1]) (Ev.neg (by rw [wr2]; omega) ?_)))
          rw [w64n (by omega)]
          rw [addNew, if_neg b] at e
          rw [← e] at next
          rw [← e]
          exact next _ (by rw [List.length_set, hsl]) (seen_set hsl hso bq.1 bq.2)
      refine Ev.step (fun k => by rw [impl_IsTransitive.l1]) (Ev.pos (by simp) (Ev.pos (by omega) (Ev.pos (by simp) ?_)))
      rw [r0, wr1]
      refine Ev.pos (by omega) (Ev.pos (by omega) ?_)
      rw [hs x bp.1 bp.2]
      by_cases b : out.contains x = true
      · refine Ev.pos b ?_
        exact tail out seen (by omega) (by rw [show addNew out x = out by rw [addNew, if_pos b]]) sl hs
      · refine Ev.neg b (Ev.pos (by omega) ?_)
        have e : addNew out x = out ++ [x] := by rw [addNew, if_neg b]
        have ss := seen_set sl hs bp.1 bp.2
        rw [← e] at ss ⊢
        exact tail _ _ (by omega) rfl (by rw [List.length_set, sl]) ss
    · rw [if_neg c]
      refine Ev.neg (by omega) ?_
      rw [show ((out.length : Int) == (p.length : Int)) = decide (out.length = p.length) by rw [Bool.eq_iff_iff]; simp; omega]
      exact Ev.now _
/-- What IsTransitive returns. -/
def transB (p q : List Int) : Bool := permB p && (permB q && (decide (p.length = q.length) && (decide (0 < p.length) && decide ((reachL p q 0).length = p.length))))
theorem spec_IsTransitive_ev (p q : List Int) (hp : p.length < 9223372036854775807) (hq : q.length < 9223372036854775807) : Ev (fun k => spec_IsTransitive.f k p q) (transB p q) := by
  refine Ev.same (fun k => by rw [spec_IsTransitive.f]) (Ev.bind (spec_PermOk_ev p hp) ?_)
  unfold transB
  by_cases h : permB p = true
  · refine Ev.pos h (Ev.bind (spec_PermOk_ev q hq) ?_)
    rw [h, Bool.true_and]
    by_cases h' : permB q = true
    · rw [h', Bool.true_and]
      refine Ev.pos rfl ?_
      by_cases e : p.length = q.length
      · rw [decide_eq_true e, Bool.true_and]
        refine Ev.pos (by omega) ?_
        by_cases z : 0 < p.length
        · rw [decide_eq_true z, Bool.true_and]
          have a := (permB_iff p).1 h
          have b := (permB_iff q).1 h'
          refine Ev.pos (by omega) (Ev.bind (spec_l02Reach_ev p q a.2 b.2 e a.1 (s := 0) (by omega) (by omega)) ?_)
          rw [show (((reachL p q 0).length : Int) == (p.length : Int)) = decide ((reachL p q 0).length = p.length) by rw [Bool.eq_iff_iff]; simp; omega]
          exact Ev.now _
        · rw [decide_eq_false z, Bool.false_and]
          exact Ev.neg (by omega) (Ev.now _)
      · rw [decide_eq_false e, Bool.false_and]
        exact Ev.neg (by omega) (Ev.now _)
    · rw [show permB q = false by simpa using h', Bool.false_and]
      exact Ev.neg (by simp) (Ev.now _)
  · rw [show permB p = false by simpa using h, Bool.false_and]
    exact Ev.neg (by simp) (Ev.now _)
theorem impl_IsTransitive_ev (p q : List Int) : Ev (fun k => impl_IsTransitive.f k p q) (transB p q) := by
  have no : Ev (fun k => impl_IsTransitive.j0 k p q true) false := Ev.step (fun k => by rw [impl_IsTransitive.j0]) (Ev.pos rfl (Ev.now _))
  refine Ev.same (fun k => by rw [impl_IsTransitive.f]) (Ev.plain (impl_PermOk_some p) ?_)
  unfold transB
  by_cases h : permB p = true
  · refine Ev.pos h (Ev.plain (impl_PermOk_some q) ?_)
    rw [h, Bool.true_and]
    by_cases h' : permB q = true
    · rw [h', Bool.true_and]
      refine Ev.pos rfl ?_
      by_cases e : p.length = q.length
      · rw [decide_eq_true e, Bool.true_and]
        refine Ev.pos (by omega) ?_
        by_cases z : 0 < p.length
        · rw [decide_eq_true z, Bool.true_and, show ((p.length : Int) == 0) = false by rw [beq_eq_false_iff_ne]; omega]
          have a := (permB_iff p).1 h
          have b := (permB_iff q).1 h'
          refine Ev.step (fun k => by rw [impl_IsTransitive.j0]) (Ev.neg (by simp) (Ev.pos (by omega) (Ev.pos (by omega) (Ev.plain rfl ?_))))
          refine Ev.pos (by simp; omega) ?_
          refine impl_trans_loop p q a.2 b.2 e a.1 (p.length + 1) 0 [0] _ (by omega) (by simp) (few_one (by omega) (by omega)) (by simp) ?_
          have := seen_set (seen := List.replicate p.length false) (out := []) (n := p.length) (by simp) (fun x _ _ => by rw [rd_false]; rfl) (y := 0) (by omega) (by omega)
          simpa using this
        · rw [decide_eq_false z, Bool.false_and, show ((p.length : Int) == 0) = true by rw [beq_iff_eq]; omega]
          exact no
      · rw [decide_eq_false e, Bool.false_and]
        exact Ev.neg (by omega) no
    · rw [show permB q = false by simpa using h', Bool.false_and]
      exact Ev.neg (by simp) no
  · rw [show permB p = false by simpa using h, Bool.false_and]
    exact Ev.neg (by simp) no

end Go.Proofs.Ytlohmpgbjgidpac.Q
