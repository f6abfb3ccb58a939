/- The identity of n elements. -/
import Derived.Test.YtlohmpgbjgidpaaWMore
import Derived.Test.YtlohmpgbjgidpaaPx28
import Derived.Test.YtlohmpgbjgidpaaPx66
import Derived.Test.YtlohmpgbjgidpaaPx67
import Derived.Test.YtlohmpgbjgidpaaQBase
import Derived.Test.YtlohmpgbjgidpaaQLists
import Derived.Test.YtlohmpgbjgidpaaQPerm
namespace Go.Proofs.Ytlohmpgbjgidpaa.Q
open Go.RowKit Go.Proofs.Ytlohmpgbjgidpaa.P Go.Proofs.YtlohmpgbjgidpaaW.PrintWords Go.Proofs.YtlohmpgbjgidpaaW.PrintLast
set_option linter.unusedVariables false
set_option linter.unusedSimpArgs false

def idPerm (n : Nat) : List Int := (List.range n).map fun (j : Nat) => (j : Int)
theorem idPerm_length (n : Nat) : (idPerm n).length = n := by simp [idPerm]
theorem idPerm_succ (n : Nat) : idPerm (n + 1) = idPerm n ++ [(n : Int)] := by simp [idPerm, List.range_succ]
theorem idPerm_get (n i : Nat) (h : i < n) : (idPerm n)[i]'(by simpa [idPerm] using h) = (i : Int) := by simp [idPerm]
theorem spec_id_loop (n : Nat) (hn : n ≤ 17592186044416) : ∀ (d i : Nat), i + d = n → Ev (fun k => spec_l02Identity.l0 k n (idPerm i) i) (idPerm n) := by
  intro d
  induction d with
  | zero =>
    intro i h
    refine Ev.step (fun k => by rw [spec_l02Identity.l0]) (Ev.neg (by omega) ?_)
    rw [show i = n by omega]
    exact Ev.now _
  | succ d ih =>
    intro i h
    refine Ev.step (fun k => by rw [spec_l02Identity.l0]) (Ev.pos (by omega) (Ev.pos (by rw [idPerm_length]; omega) ?_))
    rw [w64n (by omega), ← idPerm_succ]
    exact ih (i + 1) (by omega)
theorem spec_l02Identity_ev (n : Nat) (hn : n ≤ 17592186044416) : Ev (fun k => spec_l02Identity.f k n) (idPerm n) :=
  Ev.same (fun k => by rw [spec_l02Identity.f]; rfl) (spec_id_loop n hn n 0 (by omega))
/-- What IdentityPerm returns. -/
def identB (a : Int) : List Int := if 0 ≤ a ∧ a ≤ 24 then idPerm a.toNat else []
theorem spec_IdentityPerm_ev (a : Int) : Ev (fun k => spec_IdentityPerm.f k a) (identB a) := by
  refine Ev.same (fun k => by rw [spec_IdentityPerm.f]) (Ev.plain (in_some _ _ _) ?_)
  by_cases h : 0 ≤ a ∧ a ≤ 24
  · refine Ev.pos (by simp [h]) ?_
    obtain ⟨n, rfl⟩ := Int.eq_ofNat_of_zero_le h.1
    rw [identB, if_pos h, Int.toNat_natCast]
    exact Ev.bind (spec_l02Identity_ev n (by omega)) (Ev.now _)
  · refine Ev.neg (by simpa using h) ?_
    rw [identB, if_neg h]
    exact Ev.now _
theorem impl_id_loop (n : Nat) (hn : n ≤ 24) : ∀ (d i : Nat) (ys : List Int), i + d = n → ys.length = n → ys.take i = idPerm i → Ev (fun k => impl_IdentityPerm.l0 k ys n i) (idPerm n) := by
  intro d
  induction d with
  | zero =>
    intro i ys h hl hy
    refine Ev.step (fun k => by rw [impl_IdentityPerm.l0]) (Ev.neg (by omega) ?_)
    rw [List.take_of_length_le (by omega)] at hy
    rw [hy, show i = n by omega]
    exact Ev.now _
  | succ d ih =>
    intro i ys h hl hy
    refine Ev.step (fun k => by rw [impl_IdentityPerm.l0]) (Ev.pos (by omega) (Ev.pos (by omega) (Ev.pos (by omega) ?_)))
    rw [w64n (by omega), Int.toNat_natCast]
    refine ih (i + 1) _ (by omega) (by rw [List.length_set, hl]) ?_
    rw [List.take_succ_eq_append_getElem (by simp; omega), List.getElem_set_self, List.take_set_of_le (by omega), hy, idPerm_succ]
theorem impl_IdentityPerm_ev (a : Int) : Ev (fun k => impl_IdentityPerm.f k a) (identB a) := by
  refine Ev.same (fun k => by rw [impl_IdentityPerm.f]) ?_
  by_cases h : 0 ≤ a ∧ a ≤ 24
  · obtain ⟨n, rfl⟩ := Int.eq_ofNat_of_zero_le h.1
    refine Ev.neg (by omega) ?_
    rw [decide_eq_false (by omega)]
    refine Ev.step (fun k => by rw [impl_IdentityPerm.j0]) (Ev.neg (by simp) (Ev.pos (by omega) (Ev.pos (by omega) (Ev.plain rfl ?_))))
    rw [identB, if_pos h, Int.toNat_natCast, List.length_replicate]
    exact impl_id_loop n (by omega) n 0 _ (by omega) (by simp) rfl
  · rw [identB, if_neg h]
    by_cases h0 : a < 0
    · refine Ev.pos h0 ?_
      exact Ev.step (fun k => by rw [impl_IdentityPerm.j0]) (Ev.pos rfl (Ev.now _))
    · refine Ev.neg h0 ?_
      rw [decide_eq_true (by omega)]
      exact Ev.step (fun k => by rw [impl_IdentityPerm.j0]) (Ev.pos rfl (Ev.now _))
theorem identB_length (a : Int) : (identB a).length ≤ 24 := by
  unfold identB
  split
  · rw [idPerm_length]; omega
  · simp

end Go.Proofs.Ytlohmpgbjgidpaa.Q
