/- Loops over a string's bytes: the functions of digits, names and words. -/
import Derived.Test.YtlohmpgbjgidpaaWMore
import Derived.Test.YtlohmpgbjgidpaaPx13
import Derived.Test.YtlohmpgbjgidpaaPx2
import Derived.Test.YtlohmpgbjgidpaaPx3
import Derived.Test.YtlohmpgbjgidpaaPx5
import Derived.Test.YtlohmpgbjgidpaaPx6
import Derived.Test.YtlohmpgbjgidpaaPx7
import Derived.Test.YtlohmpgbjgidpaaPx9
import Derived.Test.YtlohmpgbjgidpaaQBase
namespace Go.Proofs.Ytlohmpgbjgidpaa.Q
open Go.RowKit Go.Proofs.Ytlohmpgbjgidpaa.P Go.Proofs.YtlohmpgbjgidpaaW.PrintWords Go.Proofs.YtlohmpgbjgidpaaW.PrintLast
set_option linter.unusedVariables false
set_option linter.unusedSimpArgs false

theorem bytes_loop (s : ByteArray) : ∀ (d i : Nat) (r : List UInt8), i + d = s.size → ByteArray.toList.loop s i r = r.reverse ++ s.data.toList.drop i := by
  intro d
  induction d with
  | zero =>
    intro i r h
    unfold ByteArray.toList.loop
    rw [if_neg (by omega), List.drop_of_length_le (by rw [data_length]; omega), List.append_nil]
  | succ d ih =>
    intro i r h
    unfold ByteArray.toList.loop
    have hl : i < s.data.toList.length := by rw [data_length]; omega
    rw [if_pos (by omega), ih (i + 1) _ (by omega), List.drop_eq_getElem_cons hl, List.reverse_cons, List.append_assoc, List.singleton_append]
    congr 2
    have : s.get! i = s.data[i]! := rfl
    rw [this, getElem!_pos s.data i (by simpa using hl)]
    simp
theorem bytes_toList (s : ByteArray) : s.toList = s.data.toList := by
  have := bytes_loop s s.size 0 [] (by omega)
  simpa [ByteArray.toList] using this
theorem bytes_length (s : ByteArray) : s.toList.length = s.size := by rw [bytes_toList, data_length]
theorem bytes_eq {s t : ByteArray} (h : s.data.toList = t.data.toList) : s = t := by
  cases s; cases t; simp only at h; congr; exact Array.toList_inj.mp h
theorem bytes_ext {s t : ByteArray} (h : s.size = t.size) (hb : ∀ i, i < s.size → bt s (i : Int) = bt t (i : Int)) : s = t := by
  apply bytes_eq
  apply List.ext_getElem (by rw [data_length, data_length, h])
  intro i h1 h2
  rw [data_length] at h1 h2
  have := hb i h1
  rw [bdn _ _ h1, bdn _ _ h2] at this
  have e : s[i].toNat = t[i].toNat := by omega
  exact UInt8.toNat_inj.mp e
/-- Every byte from place i on meets a test. -/
def allFrom (p : Nat → Int → Bool) (s : ByteArray) (i : Nat) : Bool := (List.range' i (s.size - i)).all fun j => p j (bt s (j : Int))
theorem allFrom_end (p : Nat → Int → Bool) (s : ByteArray) (i : Nat) (h : s.size ≤ i) : allFrom p s i = true := by
  rw [allFrom, show s.size - i = 0 by omega]; rfl
theorem allFrom_step (p : Nat → Int → Bool) (s : ByteArray) (i : Nat) (h : i < s.size) : allFrom p s i = (p i (bt s (i : Int)) && allFrom p s (i + 1)) := by
  rw [allFrom, show s.size - i = (s.size - (i + 1)) + 1 by omega, List.range'_succ, List.all_cons]; rfl
def digitP (_ : Nat) (c : Int) : Bool := decide (48 ≤ c) && decide (c ≤ 57)
def nameP (i : Nat) (c : Int) : Bool := (decide (97 ≤ c) && decide (c ≤ 122)) || (decide (i ≠ 0) && (decide (48 ≤ c) && decide (c ≤ 57)))
theorem spec_IsDigits_loop (s : ByteArray) (hn : s.size < 9223372036854775807) : ∀ (d i : Nat), i + d = s.size →
    Ev (fun k => spec_IsDigits.l0 k s i) (allFrom digitP s i && decide (0 < s.size)) := by
  intro d
  induction d with
  | zero =>
    intro i h
    refine Ev.step (fun k => by rw [spec_IsDigits.l0]) ?_
    refine Ev.neg (by omega) ?_
    rw [allFrom_end _ _ _ (by omega)]
    have : decide ((s.size : Int) > 0) = decide (0 < s.size) := decide_eq_decide.2 (by omega)
    rw [this]
    simpa using Ev.now _
  | succ d ih =>
    intro i h
    refine Ev.step (fun k => by rw [spec_IsDigits.l0]) ?_
    refine Ev.pos (by omega) (Ev.pos (by omega) ?_)
    rw [allFrom_step _ _ _ (by omega), w64n (by omega)]
    generalize bt s (i : Int) = c
    by_cases h1 : c < 48
    · refine Ev.pos h1 ?_
      rw [show digitP i c = false by simp [digitP]; omega]
      exact Ev.now _
    · refine Ev.neg h1 ?_
      by_cases h2 : c > 57
      · refine Ev.pos h2 ?_
        rw [show digitP i c = false by simp [digitP]; omega]
        exact Ev.now _
      · refine Ev.neg h2 ?_
        rw [show digitP i c = true by simp [digitP]; omega, Bool.true_and]
        exact ih (i + 1) (by omega)
theorem impl_IsDigits_loop (s : ByteArray) (hn : s.size < 9223372036854775807) : ∀ (d i : Nat), i + d = s.size →
    Ev (fun k => impl_IsDigits.l0 k s i) (allFrom digitP s i && decide (0 < s.size)) := by
  intro d
  induction d with
  | zero =>
    intro i h
    refine Ev.step (fun k => by rw [impl_IsDigits.l0]) ?_
    refine Ev.neg (by omega) ?_
    rw [allFrom_end _ _ _ (by omega)]
    have : (s.toList != ([] : List UInt8)) = decide (0 < s.size) := by
      rw [Bool.eq_iff_iff]
      simp only [bne_iff_ne, ne_eq, decide_eq_true_eq]
      rw [← List.length_eq_zero_iff, bytes_length]
      omega
    rw [this]
    simpa using Ev.now _
  | succ d ih =>
    intro i h
    refine Ev.step (fun k => by rw [impl_IsDigits.l0]) ?_
    refine Ev.pos (by omega) (Ev.pos (by omega) ?_)
    rw [allFrom_step _ _ _ (by omega), w64n (by omega)]
    generalize bt s (i : Int) = c
    by_cases h1 : c < 48
    · refine Ev.pos h1 ?_
      rw [show digitP i c = false by simp [digitP]; omega]
      exact Ev.now _
    · refine Ev.neg h1 ?_
      by_cases h2 : c > 57
      · refine Ev.pos h2 ?_
        rw [show digitP i c = false by simp [digitP]; omega]
        exact Ev.now _
      · refine Ev.neg h2 ?_
        rw [show digitP i c = true by simp [digitP]; omega, Bool.true_and]
        exact ih (i + 1) (by omega)
def isDigitsB (s : ByteArray) : Bool := allFrom digitP s 0 && decide (0 < s.size)
theorem spec_IsDigits_ev (s : ByteArray) (hn : s.size < 9223372036854775807) : Ev (fun k => spec_IsDigits.f k s) (isDigitsB s) :=
  Ev.same (fun k => by rw [spec_IsDigits.f]; rfl) (spec_IsDigits_loop s hn s.size 0 (by omega))
theorem impl_IsDigits_ev (s : ByteArray) (hn : s.size < 9223372036854775807) : Ev (fun k => impl_IsDigits.f k s) (isDigitsB s) :=
  Ev.same (fun k => by rw [impl_IsDigits.f]; rfl) (impl_IsDigits_loop s hn s.size 0 (by omega))
/-! names -/
theorem spec_IsName_loop (s : ByteArray) (hn : s.size < 9223372036854775807) : ∀ (d i : Nat), i + d = s.size →
    Ev (fun k => spec_IsName.l0 k s i) (allFrom nameP s i && (decide (1 ≤ s.size) && decide (s.size ≤ 8))) := by
  intro d
  induction d with
  | zero =>
    intro i h
    refine Ev.step (fun k => by rw [spec_IsName.l0]) ?_
    refine Ev.neg (by omega) ?_
    rw [allFrom_end _ _ _ (by omega), Bool.true_and]
    unfold spec_l01In.f
    by_cases h1 : (s.size : Int) ≥ 1
    · simp only [if_pos h1, Option.bind_some]
      rw [show decide (1 ≤ s.size) = true by simp; omega, Bool.true_and, show decide ((s.size : Int) ≤ 8) = decide (s.size ≤ 8) from decide_eq_decide.2 (by omega)]
      exact Ev.now _
    · simp only [if_neg h1, Option.bind_some]
      rw [decide_eq_false (show ¬ 1 ≤ s.size by omega), Bool.false_and]
      exact Ev.now _
  | succ d ih =>
    intro i h
    refine Ev.step (fun k => by rw [spec_IsName.l0]) ?_
    refine Ev.pos (by omega) (Ev.pos (by omega) ?_)
    rw [allFrom_step _ _ _ (by omega), w64n (by omega)]
    generalize bt s (i : Int) = c
    have hi := ih (i + 1) (by omega)
    by_cases h0 : nameP i c = true
    · rw [h0, Bool.true_and]
      simp only [nameP, Bool.or_eq_true, Bool.and_eq_true, decide_eq_true_eq] at h0
      repeat (first | exact hi | refine Ev.pos (by omega) ?_ | refine Ev.neg (by omega) ?_)
      by_cases h1 : c ≥ 97
      · refine Ev.pos h1 ?_
        repeat (first | exact hi | refine Ev.pos (by omega) ?_ | refine Ev.neg (by omega) ?_)
      · refine Ev.neg h1 ?_
        repeat (first | exact hi | refine Ev.pos (by omega) ?_ | refine Ev.neg (by omega) ?_)
    · rw [show nameP i c = false by simpa using h0, Bool.false_and]
      simp only [nameP, Bool.or_eq_true, Bool.and_eq_true, decide_eq_true_eq] at h0
      by_cases h1 : c ≥ 97
      · refine Ev.pos h1 ?_
        by_cases h2 : (i : Int) = 0
        · repeat (first | exact Ev.now _ | refine Ev.pos (by omega) ?_ | refine Ev.neg (by omega) ?_)
        · repeat (first | exact Ev.now _ | refine Ev.pos (by omega) ?_ | refine Ev.neg (by omega) ?_)
      · refine Ev.neg h1 ?_
        by_cases h2 : (i : Int) = 0
        · repeat (first | exact Ev.now _ | refine Ev.pos (by omega) ?_ | refine Ev.neg (by omega) ?_)
        · by_cases h3 : c < 48
          · repeat (first | exact Ev.now _ | refine Ev.pos (by omega) ?_ | refine Ev.neg (by omega) ?_)
          · repeat (first | exact Ev.now _ | refine Ev.pos (by omega) ?_ | refine Ev.neg (by omega) ?_)
theorem impl_IsName_loop (s : ByteArray) (hn : s.size < 9223372036854775807) : ∀ (d i : Nat), i + d = s.size →
    Ev (fun k => impl_IsName.l0 k s i) (allFrom nameP s i && (decide (1 ≤ s.size) && decide (s.size ≤ 8))) := by
  intro d
  induction d with
  | zero =>
    intro i h
    refine Ev.step (fun k => by rw [impl_IsName.l0]) ?_
    refine Ev.neg (by omega) ?_
    rw [allFrom_end _ _ _ (by omega), Bool.true_and]
    by_cases h1 : (s.size : Int) ≥ 1
    · refine Ev.pos h1 ?_
      rw [show decide (1 ≤ s.size) = true by simp; omega, Bool.true_and, show decide ((s.size : Int) ≤ 8) = decide (s.size ≤ 8) from decide_eq_decide.2 (by omega)]
      exact Ev.now _
    · refine Ev.neg h1 ?_
      rw [decide_eq_false (show ¬ 1 ≤ s.size by omega), Bool.false_and]
      exact Ev.now _
  | succ d ih =>
    intro i h
    refine Ev.step (fun k => by rw [impl_IsName.l0]) ?_
    refine Ev.pos (by omega) (Ev.pos (by omega) ?_)
    rw [allFrom_step _ _ _ (by omega), w64n (by omega)]
    generalize bt s (i : Int) = c
    have hi := ih (i + 1) (by omega)
    by_cases h0 : nameP i c = true
    · rw [h0, Bool.true_and]
      simp only [nameP, Bool.or_eq_true, Bool.and_eq_true, decide_eq_true_eq] at h0
      by_cases h1 : c ≥ 97
      · by_cases h2 : c ≥ 48
        · repeat (first | exact hi | refine Ev.pos (by omega) ?_ | refine Ev.neg (by omega) ?_)
        · omega
      · by_cases h2 : c ≥ 48
        · repeat (first | exact hi | refine Ev.pos (by omega) ?_ | refine Ev.neg (by omega) ?_)
        · omega
    · rw [show nameP i c = false by simpa using h0, Bool.false_and]
      simp only [nameP, Bool.or_eq_true, Bool.and_eq_true, decide_eq_true_eq] at h0
      by_cases h1 : c ≥ 97
      · by_cases h2 : (i : Int) = 0
        · repeat (first | exact Ev.now _ | refine Ev.pos (by omega) ?_ | refine Ev.neg (by omega) ?_)
        · repeat (first | exact Ev.now _ | refine Ev.pos (by omega) ?_ | refine Ev.neg (by omega) ?_)
      · by_cases h2 : (i : Int) = 0
        · by_cases h3 : c ≥ 48
          · repeat (first | exact Ev.now _ | refine Ev.pos (by omega) ?_ | refine Ev.neg (by omega) ?_)
          · repeat (first | exact Ev.now _ | refine Ev.pos (by omega) ?_ | refine Ev.neg (by omega) ?_)
        · by_cases h3 : c ≥ 48
          · repeat (first | exact Ev.now _ | refine Ev.pos (by omega) ?_ | refine Ev.neg (by omega) ?_)
          · repeat (first | exact Ev.now _ | refine Ev.pos (by omega) ?_ | refine Ev.neg (by omega) ?_)
def isNameB (s : ByteArray) : Bool := allFrom nameP s 0 && (decide (1 ≤ s.size) && decide (s.size ≤ 8))
theorem spec_IsName_ev (s : ByteArray) (hn : s.size < 9223372036854775807) : Ev (fun k => spec_IsName.f k s) (isNameB s) :=
  Ev.same (fun k => by rw [spec_IsName.f]; rfl) (spec_IsName_loop s hn s.size 0 (by omega))
theorem impl_IsName_ev (s : ByteArray) (hn : s.size < 9223372036854775807) : Ev (fun k => impl_IsName.f k s) (isNameB s) :=
  Ev.same (fun k => by rw [impl_IsName.f]; rfl) (impl_IsName_loop s hn s.size 0 (by omega))
/-! words -/
def letterP (_ : Nat) (c : Int) : Bool := decide (c = 84) || (decide (c = 116) || (decide (c = 83) || decide (c = 115)))
def wordOkB (s : ByteArray) : Bool := decide (s.size ≤ 40) && allFrom letterP s 0
theorem spec_WordOk_loop (s : ByteArray) (hn : s.size < 9223372036854775807) : ∀ (d i : Nat), i + d = s.size →
    Ev (fun k => spec_WordOk.l0 k s i) (allFrom letterP s i) := by
  intro d
  induction d with
  | zero =>
    intro i h
    refine Ev.step (fun k => by rw [spec_WordOk.l0]) ?_
    refine Ev.neg (by omega) ?_
    rw [allFrom_end _ _ _ (by omega)]
    exact Ev.now _
  | succ d ih =>
    intro i h
    refine Ev.step (fun k => by rw [spec_WordOk.l0]) ?_
    refine Ev.pos (by omega) (Ev.pos (by omega) ?_)
    rw [allFrom_step _ _ _ (by omega), w64n (by omega)]
    generalize bt s (i : Int) = c
    have hi := ih (i + 1) (by omega)
    by_cases h0 : letterP i c = true
    · rw [h0, Bool.true_and]
      simp only [letterP, Bool.or_eq_true, decide_eq_true_eq] at h0
      by_cases a1 : c = 84
      · exact Ev.pos a1 hi
      refine Ev.neg a1 ?_
      by_cases a2 : c = 116
      · exact Ev.pos a2 hi
      refine Ev.neg a2 ?_
      by_cases a3 : c = 83
      · exact Ev.pos a3 hi
      refine Ev.neg a3 (Ev.pos (by omega) hi)
    · rw [show letterP i c = false by simpa using h0, Bool.false_and]
      simp only [letterP, Bool.or_eq_true, decide_eq_true_eq] at h0
      refine Ev.neg (by omega) (Ev.neg (by omega) (Ev.neg (by omega) (Ev.neg (by omega) (Ev.now _))))
theorem spec_WordOk_ev (s : ByteArray) (hn : s.size < 9223372036854775807) : Ev (fun k => spec_WordOk.f k s) (wordOkB s) := by
  refine Ev.same (fun k => by rw [spec_WordOk.f]) ?_
  by_cases h : (s.size : Int) > 40
  · refine Ev.pos h ?_
    rw [wordOkB, decide_eq_false (show ¬ s.size ≤ 40 by omega), Bool.false_and]
    exact Ev.now _
  · refine Ev.neg h ?_
    rw [wordOkB, decide_eq_true (show s.size ≤ 40 by omega), Bool.true_and]
    exact spec_WordOk_loop s hn s.size 0 (by omega)
theorem index_letter : ∀ n : Nat, n < 256 → decide (Lib.indexByte [84, 116, 83, 115] n.toUInt8 < 0) = !letterP 0 (n : Int) := by decide +kernel
theorem impl_WordOk_loop (s : ByteArray) (hn : s.size < 9223372036854775807) : ∀ (d i : Nat), i + d = s.size →
    Ev (fun k => impl_WordOk.l0 k s i) (allFrom letterP s i && decide (s.size ≤ 40)) := by
  intro d
  induction d with
  | zero =>
    intro i h
    refine Ev.step (fun k => by rw [impl_WordOk.l0]) ?_
    refine Ev.neg (by omega) ?_
    rw [allFrom_end _ _ _ (by omega), Bool.true_and, show decide ((s.size : Int) ≤ 40) = decide (s.size ≤ 40) from decide_eq_decide.2 (by omega)]
    exact Ev.now _
  | succ d ih =>
    intro i h
    refine Ev.step (fun k => by rw [impl_WordOk.l0]) ?_
    refine Ev.pos (by omega) (Ev.pos (by omega) ?_)
    rw [allFrom_step _ _ _ (by omega), w64n (by omega)]
    have hb := bt_range s (i : Int)
    generalize bt s (i : Int) = c at *
    have hi := ih (i + 1) (by omega)
    refine Ev.plain (a := Lib.indexByte [84, 116, 83, 115] c.toNat.toUInt8) rfl ?_
    have hd := index_letter c.toNat (by omega)
    rw [show ((c.toNat : Nat) : Int) = c by omega] at hd
    by_cases h0 : letterP i c = true
    · rw [h0, Bool.true_and]
      rw [show letterP 0 c = true from h0, Bool.not_true] at hd
      exact Ev.neg (of_decide_eq_false hd) hi
    · have h1 : letterP i c = false := by simpa using h0
      rw [h1, Bool.false_and, Bool.false_and]
      rw [show letterP 0 c = false from h1, Bool.not_false] at hd
      exact Ev.pos (of_decide_eq_true hd) (Ev.now _)
theorem impl_WordOk_ev (s : ByteArray) (hn : s.size < 9223372036854775807) : Ev (fun k => impl_WordOk.f k s) (wordOkB s) := by
  rw [wordOkB, Bool.and_comm]
  exact Ev.same (fun k => by rw [impl_WordOk.f]; rfl) (impl_WordOk_loop s hn s.size 0 (by omega))

end Go.Proofs.Ytlohmpgbjgidpaa.Q
