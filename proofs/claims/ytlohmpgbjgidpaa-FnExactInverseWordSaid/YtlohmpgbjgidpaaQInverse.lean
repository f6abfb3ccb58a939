/- The inverse of a word: its letters from behind, each turned. -/
import Derived.Test.YtlohmpgbjgidpaaWMore
import Derived.Test.YtlohmpgbjgidpaaPx71
import Derived.Test.YtlohmpgbjgidpaaPx72
import Derived.Test.YtlohmpgbjgidpaaQBase
import Derived.Test.YtlohmpgbjgidpaaQText
import Derived.Lib.SmallJoins
namespace Go.Proofs.Ytlohmpgbjgidpaa.Q
open Go.RowKit Go.Proofs.Ytlohmpgbjgidpaa.P Go.Proofs.YtlohmpgbjgidpaaW.PrintWords Go.Proofs.YtlohmpgbjgidpaaW.PrintLast
set_option linter.unusedVariables false
set_option linter.unusedSimpArgs false

/-- The bytes from place i - 1 down to 0, turned. -/
def flipped (s : ByteArray) : Nat → List UInt8
  | 0 => []
  | i + 1 => (if h : i < s.size then (s[i]'h) ^^^ 32 else 0) :: flipped s i
theorem flipped_length (s : ByteArray) : ∀ i, (flipped s i).length = i
  | 0 => rfl
  | i + 1 => by simp [flipped, flipped_length s i]
def ba (l : List UInt8) : ByteArray := ⟨l.toArray⟩
theorem ba_size (l : List UInt8) : (ba l).size = l.length := by simp [ba, ByteArray.size]
theorem ba_append (l m : List UInt8) : ba l ++ ba m = ba (l ++ m) := by
  apply bytes_eq
  rw [Go.Joins.data_append]
  simp [ba]
theorem letter_flip : ∀ n : Nat, n < 256 → letterP 0 (n : Int) = true → (n = 84 ∧ n.toUInt8 ^^^ 32 = 116) ∨ (n = 116 ∧ n.toUInt8 ^^^ 32 = 84) ∨ (n = 83 ∧ n.toUInt8 ^^^ 32 = 115) ∨ (n = 115 ∧ n.toUInt8 ^^^ 32 = 83) := by decide +kernel
theorem allFrom_at (p : Nat → Int → Bool) (s : ByteArray) (h : allFrom p s 0 = true) (i : Nat) (hi : i < s.size) : p i (bt s (i : Int)) = true := by
  rw [allFrom, List.all_eq_true] at h
  exact h i (by simp [List.mem_range']; omega)
theorem spec_inv_loop (s : ByteArray) (hs : s.size ≤ 40) (hw : allFrom letterP s 0 = true) : ∀ (i : Nat) (acc : List UInt8), i ≤ s.size → acc.length + i ≤ 100 →
    Ev (fun k => spec_InverseWord.l0 k s (ba acc) ((i : Int) - 1)) (ba (acc ++ flipped s i)) := by
  intro i
  induction i with
  | zero =>
    intro acc h ha
    refine Ev.step (fun k => by rw [spec_InverseWord.l0]) (Ev.neg (by omega) ?_)
    rw [flipped, List.append_nil]
    exact Ev.now _
  | succ i ih =>
    intro acc h ha
    refine Ev.step (fun k => by rw [spec_InverseWord.l0]) ?_
    rw [show ((i + 1 : Nat) : Int) - 1 = (i : Int) by omega, w64 (x := (i : Int) - 1) (by omega) (by omega)]
    refine Ev.pos (by omega) (Ev.pos (by omega) (Ev.pos (by omega) ?_))
    have hl := allFrom_at _ _ hw i (by omega)
    have hb := bdn s i (by omega)
    have hr := bt_range s (i : Int)
    have hf := letter_flip (s[i]'(by omega)).toNat (by have := (s[i]'(by omega)).toNat_lt; omega) (by rw [← hb]; exact hl)
    have hu : (s[i]'(by omega)).toNat.toUInt8 = s[i]'(by omega) := UInt8.ofNat_toNat
    rw [hu] at hf
    rw [hb]
    have step : ∀ c : UInt8, (s[i]'(by omega)) ^^^ 32 = c → Ev (fun k => spec_InverseWord.l0 k s (ba acc ++ ba [c]) ((i : Int) - 1)) (ba (acc ++ flipped s (i + 1))) := by
      intro c hc
      rw [ba_append]
      have := ih (acc ++ [c]) (by omega) (by simp; omega)
      rw [flipped, dif_pos (show i < s.size by omega), hc]
      simpa using this
    rcases hf with ⟨e, f⟩ | ⟨e, f⟩ | ⟨e, f⟩ | ⟨e, f⟩
    · rw [e]
      exact Ev.pos rfl (Ev.pos (by rw [ba_size]; omega) (step _ f))
    · rw [e]
      exact Ev.neg (by decide) (Ev.pos rfl (Ev.pos (by rw [ba_size]; omega) (step _ f)))
    · rw [e]
      exact Ev.neg (by decide) (Ev.neg (by decide) (Ev.pos rfl (Ev.pos (by rw [ba_size]; omega) (step _ f))))
    · rw [e]
      exact Ev.neg (by decide) (Ev.neg (by decide) (Ev.neg (by decide) (Ev.pos rfl (Ev.pos (by rw [ba_size]; omega) (step _ f)))))
theorem bits_flip : ∀ n : Nat, n < 256 → Go.bits .xor .u8 (n : Int) 32 = ((n.toUInt8 ^^^ 32).toNat : Int) := by decide +kernel
theorem str_of_bytes (l : List UInt8) : strOfNums (l.map fun b => (b.toNat : Int)) = ba l := by
  apply bytes_eq
  simp [strOfNums, ba, Function.comp_def]
theorem impl_inv_loop (s : ByteArray) (hs : s.size ≤ 40) : ∀ (i : Nat) (acc : List UInt8), i ≤ s.size → acc.length + i ≤ 100 →
    Ev (fun k => impl_InverseWord.l0 k s (acc.map fun b => (b.toNat : Int)) ((i : Int) - 1)) (ba (acc ++ flipped s i)) := by
  intro i
  induction i with
  | zero =>
    intro acc h ha
    refine Ev.step (fun k => by rw [impl_InverseWord.l0]) (Ev.neg (by omega) ?_)
    rw [flipped, List.append_nil, str_of_bytes]
    exact Ev.now _
  | succ i ih =>
    intro acc h ha
    refine Ev.step (fun k => by rw [impl_InverseWord.l0]) ?_
    rw [show ((i + 1 : Nat) : Int) - 1 = (i : Int) by omega, w64 (x := (i : Int) - 1) (by omega) (by omega)]
    refine Ev.pos (by omega) (Ev.pos (by omega) (Ev.pos (by omega) (Ev.pos (by rw [List.length_map]; omega) ?_)))
    have hb := bdn s i (by omega)
    have hu : (s[i]'(by omega)).toNat.toUInt8 = s[i]'(by omega) := UInt8.ofNat_toNat
    have hx := bits_flip (s[i]'(by omega)).toNat (by have := (s[i]'(by omega)).toNat_lt; omega)
    rw [hu] at hx
    rw [hb, hx]
    have := ih (acc ++ [(s[i]'(by omega)) ^^^ 32]) (by omega) (by simp; omega)
    rw [flipped, dif_pos (show i < s.size by omega)]
    simpa using this
/-- What InverseWord returns. -/
def invWord (s : ByteArray) : ByteArray := if wordOkB s = true then ba (flipped s s.size) else ba []
theorem spec_InverseWord_ev (s : ByteArray) (hn : s.size < 9223372036854775807) : Ev (fun k => spec_InverseWord.f k s) (invWord s) := by
  refine Ev.same (fun k => by rw [spec_InverseWord.f]) (Ev.bind (spec_WordOk_ev s hn) ?_)
  by_cases h : wordOkB s = true
  · have h2 := h
    rw [wordOkB, Bool.and_eq_true, decide_eq_true_eq] at h2
    rw [invWord, if_pos h]
    refine Ev.pos h ?_
    rw [w64 (by omega) (by omega)]
    exact spec_inv_loop s h2.1 h2.2 s.size [] (by omega) (by simp; omega)
  · rw [invWord, if_neg h]
    exact Ev.neg h (Ev.now _)
theorem impl_InverseWord_ev (s : ByteArray) (hn : s.size < 9223372036854775807) : Ev (fun k => impl_InverseWord.f k s) (invWord s) := by
  refine Ev.same (fun k => by rw [impl_InverseWord.f]) (Ev.bind (impl_WordOk_ev s hn) ?_)
  by_cases h : wordOkB s = true
  · have h2 := h
    rw [wordOkB, Bool.and_eq_true, decide_eq_true_eq] at h2
    rw [invWord, if_pos h]
    refine Ev.pos h ?_
    rw [w64 (by omega) (by omega)]
    exact impl_inv_loop s h2.1 s.size [] (by omega) (by simp; omega)
  · rw [invWord, if_neg h]
    exact Ev.neg h (Ev.now _)

end Go.Proofs.Ytlohmpgbjgidpaa.Q
