/- Loops over a string's bytes: the functions of digits, names and words. -/
import Derived.Test.YtlohmpgbjgidpabWMore
import Derived.Test.YtlohmpgbjgidpabQBase
namespace Go.Proofs.Ytlohmpgbjgidpab.Q
open Go.RowKit Go.Proofs.YtlohmpgbjgidpabW.PrintWords Go.Proofs.YtlohmpgbjgidpabW.PrintLast
set_option linter.unusedVariables false
set_option linter.unusedSimpArgs false

theorem bytes_loop (s : ByteArray) : ∀ (d i : Nat) (r : List UInt8), i + d = s.size → ByteArray.toList.loop s i r = r.reverse ++ s.data.toList.drop i := by
  intro d
  induction d with
  | zero =>
    intro i r h
    unfold ByteArray.toList.loop
    rw [if_neg (by omega), List.drop_of_length_le (by rw [data_length]; omega), List.append_nil]
  | succ d ih =>
    intro i r h
    unfold ByteArray.toList.loop
    have hl : i < s.data.toList.length := by rw [data_length]; omega
    rw [if_pos (by omega), ih (i + 1) _ (by omega), List.drop_eq_getElem_cons hl, List.reverse_cons, List.append_assoc, List.singleton_append]
    congr 2
    have : s.get! i = s.data[i]! := rfl
    rw [this, getElem!_pos s.data i (by simpa using hl)]
    simp
theorem bytes_toList (s : ByteArray) : s.toList = s.data.toList := by
  have := bytes_loop s s.size 0 [] (by omega)
  simpa [ByteArray.toList] using this
theorem bytes_length (s : ByteArray) : s.toList.length = s.size := by rw [bytes_toList, data_length]
theorem bytes_eq {s t : ByteArray} (h : s.data.toList = t.data.toList) : s = t := by
  cases s; cases t; simp only at h; congr; exact Array.toList_inj.mp h
theorem bytes_ext {s t : ByteArray} (h : s.size = t.size) (hb : ∀ i, i < s.size → bt s (i : Int) = bt t (i : Int)) : s = t := by
  apply bytes_eq
  apply List.ext_getElem (by rw [data_length, data_length, h])
  intro i h1 h2
  rw [data_length] at h1 h2
  have := hb i h1
  rw [bdn _ _ h1, bdn _ _ h2] at this
  have e : s[i].toNat = t[i].toNat := by omega
  exact UInt8.toNat_inj.mp e
/-- Every byte from place i on meets a test. -/
def allFrom (p : Nat → Int → Bool) (s : ByteArray) (i : Nat) : Bool := (List.range' i (s.size - i)).all fun j => p j (bt s (j : Int))
theorem allFrom_end (p : Nat → Int → Bool) (s : ByteArray) (i : Nat) (h : s.size ≤ i) : allFrom p s i = true := by
  rw [allFrom, show s.size - i = 0 by omega]; rfl
theorem allFrom_step (p : Nat → Int → Bool) (s : ByteArray) (i : Nat) (h : i < s.size) : allFrom p s i = (p i (bt s (i : Int)) && allFrom p s (i + 1)) := by
  rw [allFrom, show s.size - i = (s.size - (i + 1)) + 1 by omega, List.range'_succ, List.all_cons]; rfl
def digitP (_ : Nat) (c : Int) : Bool := decide (48 ≤ c) && decide (c ≤ 57)
def nameP (i : Nat) (c : Int) : Bool := (decide (97 ≤ c) && decide (c ≤ 122)) || (decide (i ≠ 0) && (decide (48 ≤ c) && decide (c ≤ 57)))

end Go.Proofs.Ytlohmpgbjgidpab.Q
