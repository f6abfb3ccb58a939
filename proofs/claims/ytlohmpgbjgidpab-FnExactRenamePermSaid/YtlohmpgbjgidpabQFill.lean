/- A list that is filled place by place along a permutation. -/
import Derived.Test.YtlohmpgbjgidpabWMore
import Derived.Test.YtlohmpgbjgidpabQBase
import Derived.Test.YtlohmpgbjgidpabQPerm
import Derived.Test.YtlohmpgbjgidpabQMaps
namespace Go.Proofs.Ytlohmpgbjgidpab.Q
open Go.RowKit Go.Proofs.YtlohmpgbjgidpabW.PrintWords Go.Proofs.YtlohmpgbjgidpabW.PrintLast
set_option linter.unusedVariables false
set_option linter.unusedSimpArgs false

def fillAt (q : List Int) (g : Nat → Int) (i : Nat) : List Int := (List.range q.length).map fun (j : Nat) => if posOf q (j : Int) < i then g (posOf q (j : Int)) else 0
theorem fillAt_length (q : List Int) (g : Nat → Int) (i : Nat) : (fillAt q g i).length = q.length := by simp [fillAt]
theorem fillAt_get (q : List Int) (g : Nat → Int) (i : Nat) {j : Nat} (h : j < q.length) : (fillAt q g i)[j]'(by rw [fillAt_length]; exact h) = if posOf q (j : Int) < i then g (posOf q (j : Int)) else 0 := by simp [fillAt]
theorem fillAt_zero (q : List Int) (g : Nat → Int) : fillAt q g 0 = List.replicate q.length 0 := by
  apply List.ext_getElem (by rw [fillAt_length, List.length_replicate])
  intro j h1 h2
  rw [fillAt_length] at h1
  rw [fillAt_get q g 0 h1]
  simp
theorem fillAt_set {q : List Int} (hq : IsPerm q) (g : Nat → Int) {i : Nat} (hi : i < q.length) : (fillAt q g i).set (q[i]).toNat (g i) = fillAt q g (i + 1) := by
  apply List.ext_getElem (by rw [List.length_set, fillAt_length, fillAt_length])
  intro j h1 h2
  rw [fillAt_length] at h2
  rw [fillAt_get q g (i + 1) h2, List.getElem_set]
  have m := hq.mem (j := (j : Int)) (by omega) (by omega)
  have a := posOf_get m
  have l0 := hq.get_lo hi
  split
  · rename_i e
    have e2 : (j : Int) = q[i] := by omega
    rw [e2, hq.posOf_at hi]
    simp
  · rename_i e
    rw [fillAt_get q g i h2]
    have hne : posOf q (j : Int) ≠ i := by
      intro e2
      simp only [e2] at a
      omega
    by_cases c : posOf q (j : Int) < i
    · rw [if_pos c, if_pos (by omega)]
    · rw [if_neg c, if_neg (by omega)]
theorem fill_inv {p : List Int} (hp : IsPerm p) : fillAt p (fun i => (i : Int)) p.length = invL p := by
  apply List.ext_getElem (by rw [fillAt_length, invL_length])
  intro j h1 h2
  rw [invL_length] at h2
  rw [fillAt_get p _ _ h2, invL_get p h2]
  exact if_pos (posOf_lt (hp.mem (by omega) (by omega)))
theorem fill_ren {p q : List Int} (hq : IsPerm q) (hl : p.length = q.length) : fillAt q (fun i => rd q (rd p (i : Int))) q.length = renL p q := by
  apply List.ext_getElem (by rw [fillAt_length, renL_length])
  intro j h1 h2
  rw [renL_length] at h2
  rw [fillAt_get q _ _ h2]
  have m := hq.mem (j := (j : Int)) (by omega) (by omega)
  have lt := posOf_lt m
  rw [if_pos lt]
  show _ = (thenL (invL q) (thenL p q))[j]'(by rw [thenL_length, invL_length]; exact h2)
  rw [thenL_get _ _ (by rw [invL_length]; exact h2), invL_get q h2, rdg (xs := thenL p q) (by rw [thenL_length]; omega), thenL_get p q (by omega), rdg (xs := p) (by omega)]

end Go.Proofs.Ytlohmpgbjgidpab.Q
