/- The two SplitAny functions: a string is cut at every byte that the other one holds. -/
import Derived.Test.YtlohmpgbjgidpabWMore
import Derived.Test.YtlohmpgbjgidpabPx1
import Derived.Test.YtlohmpgbjgidpabPx5
import Derived.Test.YtlohmpgbjgidpabQBase
import Derived.Test.YtlohmpgbjgidpabQBytes
import Derived.Lib.IndexLaws
namespace Go.Proofs.Ytlohmpgbjgidpab.Q
open Go.RowKit Go.Proofs.Ytlohmpgbjgidpab.P Go.Proofs.YtlohmpgbjgidpabW.PrintWords Go.Proofs.YtlohmpgbjgidpabW.PrintLast
set_option linter.unusedVariables false
set_option linter.unusedSimpArgs false

def hasFrom (b : ByteArray) (c : Int) (j : Nat) : Bool := (List.range' j (b.size - j)).any fun i => decide (c = bt b (i : Int))
theorem hasFrom_end (b : ByteArray) (c : Int) (j : Nat) (h : b.size ≤ j) : hasFrom b c j = false := by
  rw [hasFrom, show b.size - j = 0 by omega]; rfl
theorem hasFrom_step (b : ByteArray) (c : Int) (j : Nat) (h : j < b.size) : hasFrom b c j = (decide (c = bt b (j : Int)) || hasFrom b c (j + 1)) := by
  rw [hasFrom, show b.size - j = (b.size - (j + 1)) + 1 by omega, List.range'_succ, List.any_cons, ← hasFrom]
/-- The pieces, from place i on, where the last cut was at place m. -/
def splitF (s b : ByteArray) : Nat → Nat → Nat → List ByteArray → List ByteArray
  | 0, _, m, out => out ++ [s.extract m s.size]
  | d + 1, i, m, out => if hasFrom b (bt s (i : Int)) 0 = true then splitF s b d (i + 1) (i + 1) (out ++ [s.extract m i]) else splitF s b d (i + 1) m out
def splitB (s b : ByteArray) : List ByteArray := splitF s b s.size 0 0 []
theorem splitF_length (s b : ByteArray) : ∀ (d i m : Nat) (out : List ByteArray), (splitF s b d i m out).length ≤ out.length + d + 1
  | 0, i, m, out => by simp [splitF]
  | d + 1, i, m, out => by
    rw [splitF]
    split
    · have := splitF_length s b d (i + 1) (i + 1) (out ++ [s.extract m i])
      simp only [List.length_append, List.length_cons, List.length_nil] at this
      omega
    · have := splitF_length s b d (i + 1) m out
      omega
theorem spec_split_loop (s b : ByteArray) (hs : s.size ≤ 1048576) (hb : b.size ≤ 1048576) : ∀ (d i m : Nat) (out : List ByteArray), i + d = s.size → m ≤ i → out.length ≤ i →
    Ev (fun k => spec_SplitAny.l0 k s b out m i) (splitF s b d i m out) := by
  intro d
  induction d with
  | zero =>
    intro i m out h hm ho
    refine Ev.step (fun k => by rw [spec_SplitAny.l0]) (Ev.neg (by omega) (Ev.pos (by omega) (Ev.pos (by omega) (Ev.pos (by omega) ?_))))
    exact Ev.now _
  | succ d ih =>
    intro i m out h hm ho
    refine Ev.step (fun k => by rw [spec_SplitAny.l0]) (Ev.pos (by omega) ?_)
    have inner : ∀ (e j : Nat), j + e = b.size → Ev (fun k => spec_SplitAny.l1 k s b out m i j) (if hasFrom b (bt s (i : Int)) j = true then splitF s b d (i + 1) (i + 1) (out ++ [s.extract m i]) else splitF s b d (i + 1) m out) := by
      intro e
      induction e with
      | zero =>
        intro j hj
        refine Ev.step (fun k => by rw [spec_SplitAny.l1]) (Ev.neg (by omega) ?_)
        rw [hasFrom_end _ _ _ (by omega), w64n (by omega)]
        exact ih (i + 1) m out (by omega) (by omega) (by omega)
      | succ e ihe =>
        intro j hj
        refine Ev.step (fun k => by rw [spec_SplitAny.l1]) (Ev.pos (by omega) (Ev.pos (by omega) (Ev.pos (by omega) (Ev.pos (by omega) ?_))))
        rw [hasFrom_step _ _ _ (by omega)]
        by_cases c : bt s (i : Int) = bt b (j : Int)
        · rw [decide_eq_true c, Bool.true_or]
          refine Ev.pos c (Ev.pos (by omega) (Ev.pos (by omega) (Ev.pos (by omega) (Ev.pos (by omega) ?_))))
          rw [w64n (by omega), Int.toNat_natCast, Int.toNat_natCast]
          exact ih (i + 1) (i + 1) _ (by omega) (by omega) (by simp; omega)
        · rw [decide_eq_false c, Bool.false_or]
          refine Ev.neg c ?_
          rw [w64n (by omega)]
          exact ihe (j + 1) (by omega)
    rw [splitF]
    exact inner b.size 0 (by omega)
theorem spec_SplitAny_ev (s b : ByteArray) (hs : s.size ≤ 1048576) (hb : b.size ≤ 1048576) : Ev (fun k => spec_SplitAny.f k s b) (splitB s b) :=
  Ev.same (fun k => by rw [spec_SplitAny.f]; rfl) (spec_split_loop s b hs hb s.size 0 0 [] (by omega) (by omega) (by simp))
theorem byte_of (s : ByteArray) (i : Nat) (h : i < s.size) : (bt s (i : Int)).toNat.toUInt8 = s[i]'h := by
  rw [bdn s i h, Int.toNat_natCast]
  exact UInt8.ofNat_toNat
theorem index_has (s b : ByteArray) (i : Nat) (h : i < s.size) : decide (Lib.indexByte b.data.toList (bt s (i : Int)).toNat.toUInt8 ≥ 0) = hasFrom b (bt s (i : Int)) 0 := by
  rw [Bool.eq_iff_iff, decide_eq_true_eq, byte_of s i h, hasFrom, List.any_eq_true]
  constructor
  · intro hg
    obtain ⟨o, ho⟩ := Int.eq_ofNat_of_zero_le hg
    have := (Lib.indexByte_some ho).1
    have hlt : o < b.data.toList.length := (List.getElem?_eq_some_iff.1 this).1
    rw [List.getElem?_eq_getElem hlt] at this
    have hlt' : o < b.size := by rwa [data_length] at hlt
    refine ⟨o, by simp [List.mem_range']; omega, ?_⟩
    rw [decide_eq_true_eq, bdn s i h, bdn b o hlt']
    have e : b[o] = s[i] := by have z := Option.some.inj this; rw [Array.getElem_toList] at z; exact z
    rw [e]
  · rintro ⟨j, hj, hd⟩
    have hlt' : j < b.size := by simp [List.mem_range'] at hj; omega
    rw [decide_eq_true_eq, bdn s i h, bdn b j hlt'] at hd
    have e : s[i] = b[j] := UInt8.toNat_inj.mp (by omega)
    apply Classical.byContradiction
    intro hn
    have ge := Lib.indexByte_ge b.data.toList s[i]
    have := Lib.indexByte_none (l := b.data.toList) (c := s[i]) (by omega) j
    apply this
    rw [List.getElem?_eq_getElem (by rw [data_length]; omega), e, Array.getElem_toList]
    rfl
theorem impl_split_loop (s b : ByteArray) (hs : s.size ≤ 1048576) (hb : b.size ≤ 1048576) : ∀ (d i m : Nat) (out : List ByteArray), i + d = s.size → m ≤ i → out.length ≤ i →
    Ev (fun k => impl_SplitAny.l0 k s b out m i) (splitF s b d i m out) := by
  intro d
  induction d with
  | zero =>
    intro i m out h hm ho
    refine Ev.step (fun k => by rw [impl_SplitAny.l0]) (Ev.neg (by omega) (Ev.pos (by omega) (Ev.pos (by omega) (Ev.pos (by omega) ?_))))
    exact Ev.now _
  | succ d ih =>
    intro i m out h hm ho
    refine Ev.step (fun k => by rw [impl_SplitAny.l0]) (Ev.pos (by omega) (Ev.pos (by omega) ?_))
    refine Ev.plain (a := Lib.indexByte b.data.toList (bt s (i : Int)).toNat.toUInt8) rfl ?_
    have e := index_has s b i (by omega)
    rw [splitF]
    by_cases c : hasFrom b (bt s (i : Int)) 0 = true
    · rw [if_pos c]
      rw [c] at e
      refine Ev.pos (of_decide_eq_true e) (Ev.pos (by omega) (Ev.pos (by omega) (Ev.pos (by omega) (Ev.pos (by omega) ?_))))
      rw [w64n (by omega), Int.toNat_natCast, Int.toNat_natCast]
      exact ih (i + 1) (i + 1) _ (by omega) (by omega) (by simp; omega)
    · rw [if_neg c]
      rw [show hasFrom b (bt s (i : Int)) 0 = false by simpa using c] at e
      refine Ev.neg (of_decide_eq_false e) ?_
      rw [w64n (by omega)]
      exact ih (i + 1) m out (by omega) (by omega) (by omega)
theorem impl_SplitAny_ev (s b : ByteArray) (hs : s.size ≤ 1048576) (hb : b.size ≤ 1048576) : Ev (fun k => impl_SplitAny.f k s b) (splitB s b) :=
  Ev.same (fun k => by rw [impl_SplitAny.f]; rfl) (impl_split_loop s b hs hb s.size 0 0 [] (by omega) (by omega) (by simp))
theorem splitB_length (s b : ByteArray) : (splitB s b).length ≤ s.size + 1 := by
  have := splitF_length s b s.size 0 0 []
  simpa [splitB] using this

end Go.Proofs.Ytlohmpgbjgidpab.Q
