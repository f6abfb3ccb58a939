/- Lists of strings: comparisons and marks. -/
import Derived.Test.YtlohmpgbjgidpabWMore
import Derived.Test.YtlohmpgbjgidpabPx6
import Derived.Test.YtlohmpgbjgidpabPx7
import Derived.Test.YtlohmpgbjgidpabPx8
import Derived.Test.YtlohmpgbjgidpabPx9
import Derived.Test.YtlohmpgbjgidpabQBase
import Derived.Test.YtlohmpgbjgidpabQBytes
namespace Go.Proofs.Ytlohmpgbjgidpab.Q
open Go.RowKit Go.Proofs.Ytlohmpgbjgidpab.P Go.Proofs.YtlohmpgbjgidpabW.PrintWords Go.Proofs.YtlohmpgbjgidpabW.PrintLast
set_option linter.unusedVariables false
set_option linter.unusedSimpArgs false

theorem rds {xs : List ByteArray} {i : Nat} (h : i < xs.length) : rdOf ByteArray.empty xs (i : Int) = xs[i] := by simp [rdOf, h]
theorem eqStringS_loop (xs : List ByteArray) (hn : xs.length < 9223372036854775807) : ∀ (d i : Nat), i + d = xs.length → Ev (fun k => laws_eqStringS.l0 k xs xs i) true := by
  intro d
  induction d with
  | zero =>
    intro i h
    exact Ev.step (fun k => by rw [laws_eqStringS.l0]) (Ev.neg (by omega) (Ev.now _))
  | succ d ih =>
    intro i h
    refine Ev.step (fun k => by rw [laws_eqStringS.l0]) (Ev.pos (by omega) (Ev.pos (by omega) (Ev.pos (by omega) (Ev.pos rfl ?_))))
    rw [w64n (by omega)]
    exact ih (i + 1) (by omega)
theorem eqStringS_self (xs : List ByteArray) (hn : xs.length < 9223372036854775807) : Ev (fun k => laws_eqStringS.f k xs xs) true :=
  Ev.same (f := fun k => if (xs.length : Int) = (xs.length : Int) then laws_eqStringS.l0 k xs xs 0 else some false) (fun k => by rw [laws_eqStringS.f]) (Ev.pos rfl (eqStringS_loop xs hn xs.length 0 (by omega)))
/-- The text of a mark: its digits behind one another. -/
def mtF : Nat → Nat → ByteArray → ByteArray
  | 0, _, acc => (⟨#[109]⟩ : ByteArray) ++ acc
  | d + 1, x, acc => if 0 < x then mtF d (x / 10) (strOfNums [wrap64 (48 + ((x % 10 : Nat) : Int)) % 256] ++ acc) else (⟨#[109]⟩ : ByteArray) ++ acc
def mText (x : Nat) : ByteArray := mtF x x ⟨#[]⟩
theorem strOf_one (c : Int) : (strOfNums [c]).size = 1 := by simp [strOfNums, ByteArray.size]
theorem append_size (a b : ByteArray) : (a ++ b).size = a.size + b.size := ByteArray.size_append
theorem markText_loop : ∀ (d x : Nat) (acc : ByteArray), x ≤ d → x ≤ 4611686018427387904 → acc.size + d ≤ 4611686018427387904 → Ev (fun k => laws_markText.l0 k x acc) (mtF d x acc) := by
  intro d
  induction d with
  | zero =>
    intro x acc h h2 h3
    refine Ev.step (fun k => by rw [laws_markText.l0]) (Ev.neg (by omega) (Ev.pos (by omega) ?_))
    exact Ev.now _
  | succ d ih =>
    intro x acc h h2 h3
    refine Ev.step (fun k => by rw [laws_markText.l0]) ?_
    rw [mtF]
    by_cases c : 0 < x
    · rw [if_pos c]
      refine Ev.pos (by omega) (Ev.plain rfl ?_)
      refine Ev.pos (by rw [strOf_one]; omega) ?_
      have l := Nat.div_le_self x 10
      have t1 : Int.tdiv (x : Int) 10 = ((x / 10 : Nat) : Int) := rfl
      have t2 : Int.tmod (x : Int) 10 = ((x % 10 : Nat) : Int) := rfl
      rw [t1, t2, w64 (x := ((x / 10 : Nat) : Int)) (by omega) (by omega)]
      exact ih (x / 10) _ (by omega) (by omega) (by rw [append_size, strOf_one]; omega)
    · rw [if_neg c]
      exact Ev.neg (by omega) (Ev.pos (by omega) (Ev.now _))
theorem markText_ev (x : Nat) (h0 : 0 < x) (h1 : x ≤ 4194304) : Ev (fun k => laws_markText.f k x) (mText x) := by
  refine Ev.same (fun k => by rw [laws_markText.f]) (Ev.neg (by omega) ?_)
  exact markText_loop x x _ (by omega) (by omega) (by show 0 + x ≤ _; omega)
/-- The marks of a list of strings. -/
def smarks (n a : Nat) : List ByteArray := (List.range n).map fun j => mText (a + j)
theorem smarks_length (n a : Nat) : (smarks n a).length = n := by simp [smarks]
theorem smarks_get (n a i : Nat) (h : i < n) : (smarks n a)[i]'(by simpa [smarks] using h) = mText (a + i) := by simp [smarks]
theorem markStringS_loop (n : Nat) (hn : n ≤ 2097152) : ∀ (d i : Nat) (ys : List ByteArray), i + d = n → ys.length = n → ys.take i = (smarks n 1).take i →
    Ev (fun k => laws_markStringS.l0 k ys (1 + (i : Int)) i) (1 + (n : Int), smarks n 1) := by
  intro d
  induction d with
  | zero =>
    intro i ys h hl hy
    refine Ev.step (fun k => by rw [laws_markStringS.l0]) (Ev.neg (by omega) ?_)
    rw [List.take_of_length_le (by omega), List.take_of_length_le (by rw [smarks_length]; omega)] at hy
    rw [hy, show i = n by omega]
    exact Ev.now _
  | succ d ih =>
    intro i ys h hl hy
    refine Ev.step (fun k => by rw [laws_markStringS.l0]) (Ev.pos (by omega) ?_)
    rw [show (1 : Int) + (i : Int) = ((1 + i : Nat) : Int) by omega]
    refine Ev.bind (markText_ev (1 + i) (by omega) (by omega)) (Ev.pos (by omega) ?_)
    rw [w64n (by omega), w64n (by omega), Int.toNat_natCast, show ((1 + i + 1 : Nat) : Int) = 1 + ((i + 1 : Nat) : Int) by omega]
    refine ih (i + 1) _ (by omega) (by rw [List.length_set, hl]) ?_
    rw [List.take_succ_eq_append_getElem (by simp; omega), List.getElem_set_self, List.take_set_of_le (by omega), hy, List.take_succ_eq_append_getElem (l := smarks n 1) (by rw [smarks_length]; omega), smarks_get n 1 i (by omega)]
theorem markStringS_ev (xs : List ByteArray) (hn : xs.length ≤ 2097152) : Ev (fun k => laws_markStringS.f k xs 1) (1 + (xs.length : Int), smarks xs.length 1) :=
  Ev.same (fun k => by rw [laws_markStringS.f]; rfl) (markStringS_loop xs.length hn xs.length 0 xs (by omega) rfl (by simp))
theorem heldStringS_loop (n : Nat) (hn : n ≤ 2097152) : ∀ (d i : Nat), i + d = n → Ev (fun k => laws_heldStringS.l0 k (smarks n 1) (1 + (i : Int)) i) (1 + (n : Int)) := by
  intro d
  induction d with
  | zero =>
    intro i h
    refine Ev.step (fun k => by rw [laws_heldStringS.l0]) (Ev.neg (by rw [smarks_length]; omega) ?_)
    rw [show i = n by omega]
    exact Ev.now _
  | succ d ih =>
    intro i h
    refine Ev.step (fun k => by rw [laws_heldStringS.l0]) (Ev.pos (by rw [smarks_length]; omega) (Ev.pos (by omega) ?_))
    rw [show (1 : Int) + (i : Int) = ((1 + i : Nat) : Int) by omega]
    refine Ev.bind (markText_ev (1 + i) (by omega) (by omega)) ?_
    rw [rds (by rw [smarks_length]; omega), smarks_get n 1 i (by omega)]
    refine Ev.pos rfl ?_
    rw [w64n (by omega), w64n (by omega), show ((1 + i + 1 : Nat) : Int) = 1 + ((i + 1 : Nat) : Int) by omega]
    exact ih (i + 1) (by omega)
theorem heldStringS_ev (n : Nat) (hn : n ≤ 2097152) : Ev (fun k => laws_heldStringS.f k (smarks n 1) 1) (1 + (n : Int)) :=
  Ev.same (fun k => by rw [laws_heldStringS.f]; rfl) (heldStringS_loop n hn n 0 (by omega))

end Go.Proofs.Ytlohmpgbjgidpab.Q
