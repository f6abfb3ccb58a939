/- The law of SplitLines holds for every string. -/
import Derived.Test.YtlohmpgbjgidpadDoorWMore
import Derived.Test.YtlohmpgbjgidpadDoorPx18
import Derived.Test.YtlohmpgbjgidpadDoorPx19
import Derived.Test.YtlohmpgbjgidpadDoorPx35
import Derived.Test.YtlohmpgbjgidpadDoorPx36
import Derived.Test.YtlohmpgbjgidpadDoorPx37
import Derived.Test.YtlohmpgbjgidpadDoorPx38
import Derived.Test.YtlohmpgbjgidpadDoorPx39
import Derived.Test.YtlohmpgbjgidpadDoorPx40
import Derived.Test.YtlohmpgbjgidpadDoorPx41
import Derived.Lib.IndexLaws
import Derived.Lib.CountLaws
import Derived.Lib.Split
set_option linter.unusedVariables false
set_option linter.unusedSimpArgs false

namespace Go.Proofs.YtlohmpgbjgidpadDoor.Q
open Go.RowKit Go.Proofs.YtlohmpgbjgidpadDoor.P Go.Proofs.YtlohmpgbjgidpadDoorW.PrintWords Go.Proofs.YtlohmpgbjgidpadDoorW.PrintLast
/- Small lemmas on the printed functions' words: numbers of 64 bits, elements of lists, rounds. -/
theorem w64 {x : Int} (h : -9223372036854775808 ≤ x) (h' : x ≤ 9223372036854775807) : wrap64 x = x := by
 unfold wrap64; omega
theorem w64n {i : Nat} (h : i < 9223372036854775807) : wrap64 ((i : Int) + 1) = ((i + 1 : Nat) : Int) := by
 rw [w64 (by omega) (by omega)]; omega
theorem bdn (s : ByteArray) (i : Nat) (h : i < s.size) : bt s (i : Int) = (s[i]'h).toNat := by simp [bt, h]
/-- From a round on. -/
theorem Ev.from {α : Type} {g : Nat → Option α} {r : α} {K : Nat} (h : ∀ k, K ≤ k → g k = some r) : Ev g r := ⟨K, h⟩
theorem Ev.succ {α : Type} {g f : Nat → Option α} {r : α} (h : ∀ k, g (k + 1) = f k) (hf : Ev f r) : Ev g r := Ev.step h hf
theorem Ev.plain {α β : Type} {x : Option α} {f : Nat → α → Option β} {a : α} {r : β} (h : x = some a) (k : Ev (fun n => f n a) r) : Ev (fun n => x.bind (f n)) r := by
 subst h; exact k
theorem Ev.pos {α : Type} {c : Prop} [Decidable c] {g f : Nat → Option α} {r : α} (h : c) (hg : Ev g r) : Ev (fun k => if c then g k else f k) r := by
 simp only [if_pos h]; exact hg
theorem Ev.neg {α : Type} {c : Prop} [Decidable c] {g f : Nat → Option α} {r : α} (h : ¬ c) (hf : Ev f r) : Ev (fun k => if c then g k else f k) r := by
 simp only [if_neg h]; exact hf
theorem Ev.out {α : Type} {g : Nat → Option α} {r : α} (h : Ev g r) : ∃ k, g k = some r := h.rounds
theorem Ev.same {α : Type} {g f : Nat → Option α} {r : α} (h : ∀ k, g k = f k) (hf : Ev f r) : Ev g r := Ev.congr h hf

end Go.Proofs.YtlohmpgbjgidpadDoor.Q
namespace Go.Proofs.YtlohmpgbjgidpadDoor.Q
open Go.RowKit Go.Proofs.YtlohmpgbjgidpadDoor.P Go.Proofs.YtlohmpgbjgidpadDoorW.PrintWords Go.Proofs.YtlohmpgbjgidpadDoorW.PrintLast
/- Loops over a string's bytes: the functions of digits, names and words. -/
theorem bytes_eq {s t : ByteArray} (h : s.data.toList = t.data.toList) : s = t := by
 cases s; cases t; simp only at h; congr; exact Array.toList_inj.mp h

end Go.Proofs.YtlohmpgbjgidpadDoor.Q
namespace Go.Proofs.YtlohmpgbjgidpadDoor.Q
open Go.RowKit Go.Proofs.YtlohmpgbjgidpadDoor.P Go.Proofs.YtlohmpgbjgidpadDoorW.PrintWords Go.Proofs.YtlohmpgbjgidpadDoorW.PrintLast
/- The two SplitAny functions: a string is cut at every byte that the other one holds. -/
def hasFrom (b : ByteArray) (c : Int) (j : Nat) : Bool := (List.range' j (b.size - j)).any fun i => decide (c = bt b (i : Int))
theorem hasFrom_end (b : ByteArray) (c : Int) (j : Nat) (h : b.size ≤ j) : hasFrom b c j = false := by
 rw [hasFrom, show b.size - j = 0 by omega]; rfl
theorem hasFrom_step (b : ByteArray) (c : Int) (j : Nat) (h : j < b.size) : hasFrom b c j = (decide (c = bt b (j : Int)) || hasFrom b c (j + 1)) := by
 rw [hasFrom, show b.size - j = (b.size - (j + 1)) + 1 by omega, List.range'_succ, List.any_cons, ← hasFrom]
/-- The pieces, from place i on, where the last cut was at place m. -/
def splitF (s b : ByteArray) : Nat → Nat → Nat → List ByteArray → List ByteArray
 | 0, _, m, out => out ++ [s.extract m s.size]
 | d + 1, i, m, out => if hasFrom b (bt s (i : Int)) 0 = true then splitF s b d (i + 1) (i + 1) (out ++ [s.extract m i]) else splitF s b d (i + 1) m out
def splitB (s b : ByteArray) : List ByteArray := splitF s b s.size 0 0 []
theorem splitF_length (s b : ByteArray) : ∀ (d i m : Nat) (out : List ByteArray), (splitF s b d i m out).length ≤ out.length + d + 1
 | 0, i, m, out => by simp [splitF]
 | d + 1, i, m, out => by
  rw [splitF]
  split
  ·have := splitF_length s b d (i + 1) (i + 1) (out ++ [s.extract m i])
   simp only [List.length_append, List.length_cons, List.length_nil] at this
   omega
  ·have := splitF_length s b d (i + 1) m out
   omega
theorem spec_split_loop (s b : ByteArray) (hs : s.size ≤ 1048576) (hb : b.size ≤ 1048576) : ∀ (d i m : Nat) (out : List ByteArray), i + d = s.size → m ≤ i → out.length ≤ i →
  Ev (fun k => spec_SplitAny.l0 k s b out m i) (splitF s b d i m out) := by
 intro d
 induction d with
 | zero =>
  intro i m out h hm ho
  refine Ev.step (fun k => by rw [spec_SplitAny.l0]) (Ev.neg (by omega) (Ev.pos (by omega) (Ev.pos (by omega) (Ev.pos (by omega) ?_))))
  exact Ev.now _
 | succ d ih =>
  intro i m out h hm ho
  refine Ev.step (fun k => by rw [spec_SplitAny.l0]) (Ev.pos (by omega) ?_)
  have inner : ∀ (e j : Nat), j + e = b.size → Ev (fun k => spec_SplitAny.l1 k s b out m i j) (if hasFrom b (bt s (i : Int)) j = true then splitF s b d (i + 1) (i + 1) (out ++ [s.extract m i]) else splitF s b d (i + 1) m out) := by
   intro e
   induction e with
   | zero =>
    intro j hj
    refine Ev.step (fun k => by rw [spec_SplitAny.l1]) (Ev.neg (by omega) ?_)
    rw [hasFrom_end _ _ _ (by omega), w64n (by omega)]
    exact ih (i + 1) m out (by omega) (by omega) (by omega)
   | succ e ihe =>
    intro j hj
    refine Ev.step (fun k => by rw [spec_SplitAny.l1]) (Ev.pos (by omega) (Ev.pos (by omega) (Ev.pos (by omega) (Ev.pos (by omega) ?_))))
    rw [hasFrom_step _ _ _ (by omega)]
    by_cases c : bt s (i : Int) = bt b (j : Int)
    ·rw [decide_eq_true c, Bool.true_or]
     refine Ev.pos c (Ev.pos (by omega) (Ev.pos (by omega) (Ev.pos (by omega) (Ev.pos (by omega) ?_))))
     rw [w64n (by omega), Int.toNat_natCast, Int.toNat_natCast]
     exact ih (i + 1) (i + 1) _ (by omega) (by omega) (by simp; omega)
    ·rw [decide_eq_false c, Bool.false_or]
     refine Ev.neg c ?_
     rw [w64n (by omega)]
     exact ihe (j + 1) (by omega)
  rw [splitF]
  exact inner b.size 0 (by omega)
theorem spec_SplitAny_ev (s b : ByteArray) (hs : s.size ≤ 1048576) (hb : b.size ≤ 1048576) : Ev (fun k => spec_SplitAny.f k s b) (splitB s b) :=
 Ev.same (fun k => by rw [spec_SplitAny.f]; rfl) (spec_split_loop s b hs hb s.size 0 0 [] (by omega) (by omega) (by simp))
theorem splitB_length (s b : ByteArray) : (splitB s b).length ≤ s.size + 1 := by
 have := splitF_length s b s.size 0 0 []
 simpa [splitB] using this

end Go.Proofs.YtlohmpgbjgidpadDoor.Q
namespace Go.Proofs.YtlohmpgbjgidpadDoor.Q
open Go.RowKit Go.Proofs.YtlohmpgbjgidpadDoor.P Go.Proofs.YtlohmpgbjgidpadDoorW.PrintWords Go.Proofs.YtlohmpgbjgidpadDoorW.PrintLast
/- Lists of strings: comparisons and marks. -/
theorem rds {xs : List ByteArray} {i : Nat} (h : i < xs.length) : rdOf ByteArray.empty xs (i : Int) = xs[i] := by simp [rdOf, h]
theorem eqStringS_loop (xs : List ByteArray) (hn : xs.length < 9223372036854775807) : ∀ (d i : Nat), i + d = xs.length → Ev (fun k => laws_eqStringS.l0 k xs xs i) true := by
 intro d
 induction d with
 | zero =>
  intro i h
  exact Ev.step (fun k => by rw [laws_eqStringS.l0]) (Ev.neg (by omega) (Ev.now _))
 | succ d ih =>
  intro i h
  refine Ev.step (fun k => by rw [laws_eqStringS.l0]) (Ev.pos (by omega) (Ev.pos (by omega) (Ev.pos (by omega) (Ev.pos rfl ?_))))
  rw [w64n (by omega)]
  exact ih (i + 1) (by omega)
theorem eqStringS_self (xs : List ByteArray) (hn : xs.length < 9223372036854775807) : Ev (fun k => laws_eqStringS.f k xs xs) true :=
 Ev.same (f := fun k => if (xs.length : Int) = (xs.length : Int) then laws_eqStringS.l0 k xs xs 0 else some false) (fun k => by rw [laws_eqStringS.f]) (Ev.pos rfl (eqStringS_loop xs hn xs.length 0 (by omega)))
/-- The text of a mark: its digits behind one another. -/
def mtF : Nat → Nat → ByteArray → ByteArray
 | 0, _, acc => (⟨#[109]⟩ : ByteArray) ++ acc
 | d + 1, x, acc => if 0 < x then mtF d (x / 10) (strOfNums [wrap64 (48 + ((x % 10 : Nat) : Int)) % 256] ++ acc) else (⟨#[109]⟩ : ByteArray) ++ acc
def mText (x : Nat) : ByteArray := mtF x x ⟨#[]⟩
theorem strOf_one (c : Int) : (strOfNums [c]).size = 1 := by simp [strOfNums, ByteArray.size]
theorem append_size (a b : ByteArray) : (a ++ b).size = a.size + b.size := ByteArray.size_append
theorem markText_loop : ∀ (d x : Nat) (acc : ByteArray), x ≤ d → x ≤ 4611686018427387904 → acc.size + d ≤ 4611686018427387904 → Ev (fun k => laws_markText.l0 k x acc) (mtF d x acc) := by
 intro d
 induction d with
 | zero =>
  intro x acc h h2 h3
  refine Ev.step (fun k => by rw [laws_markText.l0]) (Ev.neg (by omega) (Ev.pos (by omega) ?_))
  exact Ev.now _
 | succ d ih =>
  intro x acc h h2 h3
  refine Ev.step (fun k => by rw [laws_markText.l0]) ?_
  rw [mtF]
  by_cases c : 0 < x
  ·rw [if_pos c]
   refine Ev.pos (by omega) (Ev.plain rfl ?_)
   refine Ev.pos (by rw [strOf_one]; omega) ?_
   have l := Nat.div_le_self x 10
   have t1 : Int.tdiv (x : Int) 10 = ((x / 10 : Nat) : Int) := rfl
   have t2 : Int.tmod (x : Int) 10 = ((x % 10 : Nat) : Int) := rfl
   rw [t1, t2, w64 (x := ((x / 10 : Nat) : Int)) (by omega) (by omega)]
   exact ih (x / 10) _ (by omega) (by omega) (by rw [append_size, strOf_one]; omega)
  ·rw [if_neg c]
   exact Ev.neg (by omega) (Ev.pos (by omega) (Ev.now _))
theorem markText_ev (x : Nat) (h0 : 0 < x) (h1 : x ≤ 4194304) : Ev (fun k => laws_markText.f k x) (mText x) := by
 refine Ev.same (fun k => by rw [laws_markText.f]) (Ev.neg (by omega) ?_)
 exact markText_loop x x _ (by omega) (by omega) (by show 0 + x ≤ _; omega)
/-- The marks of a list of strings. -/
def smarks (n a : Nat) : List ByteArray := (List.range n).map fun j => mText (a + j)
theorem smarks_length (n a : Nat) : (smarks n a).length = n := by simp [smarks]
theorem smarks_get (n a i : Nat) (h : i < n) : (smarks n a)[i]'(by simpa [smarks] using h) = mText (a + i) := by simp [smarks]
theorem markStringS_loop (n : Nat) (hn : n ≤ 2097152) : ∀ (d i : Nat) (ys : List ByteArray), i + d = n → ys.length = n → ys.take i = (smarks n 1).take i →
  Ev (fun k => laws_markStringS.l0 k ys (1 + (i : Int)) i) (1 + (n : Int), smarks n 1) := by
 intro d
 induction d with
 | zero =>
  intro i ys h hl hy
  refine Ev.step (fun k => by rw [laws_markStringS.l0]) (Ev.neg (by omega) ?_)
  rw [List.take_of_length_le (by omega), List.take_of_length_le (by rw [smarks_length]; omega)] at hy
  rw [hy, show i = n by omega]
  exact Ev.now _
 | succ d ih =>
  intro i ys h hl hy
  refine Ev.step (fun k => by rw [laws_markStringS.l0]) (Ev.pos (by omega) ?_)
  rw [show (1 : Int) + (i : Int) = ((1 + i : Nat) : Int) by omega]
  refine Ev.bind (markText_ev (1 + i) (by omega) (by omega)) (Ev.pos (by omega) ?_)
  rw [w64n (by omega), w64n (by omega), Int.toNat_natCast, show ((1 + i + 1 : Nat) : Int) = 1 + ((i + 1 : Nat) : Int) by omega]
  refine ih (i + 1) _ (by omega) (by rw [List.length_set, hl]) ?_
  rw [List.take_succ_eq_append_getElem (by simp; omega), List.getElem_set_self, List.take_set_of_le (by omega), hy, List.take_succ_eq_append_getElem (l := smarks n 1) (by rw [smarks_length]; omega), smarks_get n 1 i (by omega)]
theorem markStringS_ev (xs : List ByteArray) (hn : xs.length ≤ 2097152) : Ev (fun k => laws_markStringS.f k xs 1) (1 + (xs.length : Int), smarks xs.length 1) :=
 Ev.same (fun k => by rw [laws_markStringS.f]; rfl) (markStringS_loop xs.length hn xs.length 0 xs (by omega) rfl (by simp))
theorem heldStringS_loop (n : Nat) (hn : n ≤ 2097152) : ∀ (d i : Nat), i + d = n → Ev (fun k => laws_heldStringS.l0 k (smarks n 1) (1 + (i : Int)) i) (1 + (n : Int)) := by
 intro d
 induction d with
 | zero =>
  intro i h
  refine Ev.step (fun k => by rw [laws_heldStringS.l0]) (Ev.neg (by rw [smarks_length]; omega) ?_)
  rw [show i = n by omega]
  exact Ev.now _
 | succ d ih =>
  intro i h
  refine Ev.step (fun k => by rw [laws_heldStringS.l0]) (Ev.pos (by rw [smarks_length]; omega) (Ev.pos (by omega) ?_))
  rw [show (1 : Int) + (i : Int) = ((1 + i : Nat) : Int) by omega]
  refine Ev.bind (markText_ev (1 + i) (by omega) (by omega)) ?_
  rw [rds (by rw [smarks_length]; omega), smarks_get n 1 i (by omega)]
  refine Ev.pos rfl ?_
  rw [w64n (by omega), w64n (by omega), show ((1 + i + 1 : Nat) : Int) = 1 + ((i + 1 : Nat) : Int) by omega]
  exact ih (i + 1) (by omega)
theorem heldStringS_ev (n : Nat) (hn : n ≤ 2097152) : Ev (fun k => laws_heldStringS.f k (smarks n 1) 1) (1 + (n : Int)) :=
 Ev.same (fun k => by rw [laws_heldStringS.f]; rfl) (heldStringS_loop n hn n 0 (by omega))

end Go.Proofs.YtlohmpgbjgidpadDoor.Q
namespace Go.Proofs.YtlohmpgbjgidpadDoor.Q
open Go.RowKit Go.Proofs.YtlohmpgbjgidpadDoor.P Go.Proofs.YtlohmpgbjgidpadDoorW.PrintWords Go.Proofs.YtlohmpgbjgidpadDoorW.PrintLast
/- Cutting a string at its newlines: the reference's pieces are strings.Split's. -/
abbrev nl : ByteArray := ⟨#[10]⟩
theorem nl_list : nl.data.toList = [10] := rfl
theorem has_nl (c : Int) : hasFrom nl c 0 = decide (c = 10) := by
 rw [hasFrom_step nl c 0 (by decide), hasFrom_end nl c (0 + 1) (by decide), Bool.or_false, show bt nl ((0 : Nat) : Int) = 10 from rfl]
theorem occ_one (l : List UInt8) (c : UInt8) (j : Nat) : Go.Lib.occAt l [c] j = decide (l[j]? = some c) := by
 unfold Go.Lib.occAt
 rw [show l[j]? = (l.drop j)[0]? by rw [List.getElem?_drop, Nat.add_zero]]
 cases l.drop j with
 | nil => simp
 | cons x r =>
  simp only [List.isPrefixOf, Bool.and_true, List.getElem?_cons_zero, Option.some.injEq]
  by_cases h : c = x
  ·subst h; simp
  ·rw [beq_eq_false_iff_ne.mpr h]
   simp only [Bool.false_eq, decide_eq_false_iff_not]
   exact fun e => h e.symm
theorem ext_list (s : ByteArray) (a b : Nat) : (s.extract a b).data.toList = (s.data.toList.drop a).take (b - a) := Go.Lib.extract_data s a b
theorem ext_end (s : ByteArray) (a : Nat) : (s.extract a s.size).data.toList = s.data.toList.drop a := by
 rw [ext_list, List.take_of_length_le (by rw [List.length_drop, data_length]; exact Nat.le_refl _)]
theorem at_list (s : ByteArray) (m j : Nat) : (s.data.toList.drop m)[j]? = some 10 ↔ m + j < s.size ∧ bt s ((m + j : Nat) : Int) = 10 := by
 rw [List.getElem?_drop]
 constructor
 ·intro h
  obtain ⟨hl, e⟩ := List.getElem?_eq_some_iff.1 h
  rw [data_length] at hl
  refine ⟨hl, ?_⟩
  rw [bdn s _ hl]
  have e' : s[m + j]'hl = 10 := e
  rw [e']
  rfl
 ·rintro ⟨hl, e⟩
  rw [bdn s _ hl] at e
  rw [List.getElem?_eq_getElem (by rw [data_length]; exact hl)]
  congr 1
  show s[m + j]'hl = 10
  apply UInt8.toNat_inj.1
  show (s[m + j]'hl).toNat = 10
  omega
theorem lines_eq (s : ByteArray) : ∀ (d i m : Nat) (out : List ByteArray), i + d = s.size → m ≤ i → (∀ j : Nat, m ≤ j → j < i → bt s (j : Int) ≠ 10) →
  splitF s nl d i m out = out ++ Go.Lib.splitB nl 0 (Go.Lib.countB (s.extract m s.size) nl) (s.extract m s.size)
 | 0, i, m, out, h, hm, hn => by
  have ix : Go.Lib.indexB (s.extract m s.size) nl = -1 := by
   show Go.Lib.index _ _ = -1
   rw [ext_end, nl_list]
   refine Go.Lib.index_none fun j hj => ?_
   rw [occ_one, decide_eq_false_iff_not, at_list]
   exact fun c => hn (m + j) (by omega) (by omega) c.2
  rw [splitF, Go.Lib.countB_miss _ _ ix, Go.Lib.splitB_zero]
 | d + 1, i, m, out, h, hm, hn => by
  rw [splitF, has_nl]
  by_cases c : bt s (i : Int) = 10
  ·rw [if_pos (by simpa using c)]
   have ix : Go.Lib.indexB (s.extract m s.size) nl = ((i - m : Nat) : Int) := by
    show Go.Lib.index _ _ = _
    rw [ext_end, nl_list]
    refine Go.Lib.index_first (by rw [List.length_drop, data_length]; omega) ?_ fun j hj => ?_
    ·rw [occ_one, decide_eq_true_iff, at_list, show m + (i - m) = i by omega]
     exact ⟨by omega, c⟩
    ·rw [occ_one, decide_eq_false_iff_not, at_list]
     exact fun c => hn (m + j) (by omega) (by omega) c.2
   have e1 : (s.extract m s.size).extract 0 (i - m + 0) = s.extract m i := by
    apply bytes_eq
    rw [ext_list, ext_end, ext_list, List.drop_zero]
    simp
   have e2 : (s.extract m s.size).extract (i - m + nl.size) (s.extract m s.size).size = s.extract (i + 1) s.size := by
    apply bytes_eq
    rw [ext_end, ext_end, ext_end, List.drop_drop, show m + (i - m + nl.size) = i + 1 by show m + (i - m + 1) = i + 1; omega]
   rw [Go.Lib.countB_hit _ _ _ (by decide) ix, Nat.add_comm 1, Go.Lib.splitB_hit _ _ _ _ _ ix, e1, e2, lines_eq s d (i + 1) (i + 1) _ (by omega) (Nat.le_refl _) (fun j a b => by omega)]
   simp
  ·rw [if_neg (by simpa using c)]
   exact lines_eq s d (i + 1) m out (by omega) (by omega) fun j a b => by
    by_cases q : j = i
    ·rw [q]; exact c
    ·exact hn j a (by omega)
theorem lines_all (s : ByteArray) : Go.Lib.splitB nl 0 (Go.Lib.countB s nl) s = splitB s nl := by
 have := lines_eq s s.size 0 0 [] (by omega) (Nat.le_refl _) (fun j a b => by omega)
 have e : s.extract 0 s.size = s := by
  apply bytes_eq
  rw [ext_end, List.drop_zero]
 rw [e, List.nil_append] at this
 rw [← this]
 rfl
theorem splitF_pos (s b : ByteArray) : ∀ (d i m : Nat) (out : List ByteArray), out.length < (splitF s b d i m out).length
 | 0, i, m, out => by simp [splitF]
 | d + 1, i, m, out => by
  rw [splitF]
  split
  ·have := splitF_pos s b d (i + 1) (i + 1) (out ++ [s.extract m i])
   simp only [List.length_append, List.length_cons, List.length_nil] at this
   omega
  ·exact splitF_pos s b d (i + 1) m out
/-- What SplitLines returns. -/
def linesB (s : ByteArray) : List ByteArray := if (rdOf ByteArray.empty (splitB s nl) (((splitB s nl).length : Int) - 1)).toList = ([] : List UInt8) then (splitB s nl).take ((((splitB s nl).length : Int) - 1)).toNat else splitB s nl
theorem linesB_length (s : ByteArray) : (linesB s).length ≤ s.size + 1 := by
 have := splitB_length s nl
 unfold linesB
 split
 ·rw [List.length_take]; omega
 ·omega
theorem spec_SplitLines_ev (s : ByteArray) (hs : s.size ≤ 1048576) : Ev (fun k => spec_SplitLines.f k s) (linesB s) := by
 have hl := splitB_length s nl
 have hp : 0 < (splitB s nl).length := splitF_pos s nl s.size 0 0 []
 have w : wrap64 (((splitB s nl).length : Int) - 1) = ((splitB s nl).length : Int) - 1 := w64 (by omega) (by omega)
 refine Ev.same (fun k => by rw [spec_SplitLines.f]) (Ev.bind (spec_SplitAny_ev s nl hs (by decide)) ?_)
 rw [w]
 refine Ev.pos (by omega) (Ev.pos (by omega) ?_)
 unfold linesB
 by_cases c : (rdOf ByteArray.empty (splitB s nl) (((splitB s nl).length : Int) - 1)).toList = ([] : List UInt8)
 ·rw [if_pos c, if_pos c]
  exact Ev.pos (by omega) (Ev.now _)
 ·rw [if_neg c, if_neg c]
  exact Ev.now _
theorem impl_SplitLines_some (s : ByteArray) (hs : s.size ≤ 1048576) : impl_SplitLines.f s = some (linesB s) := by
 have hl := splitB_length s nl
 have hp : 0 < (splitB s nl).length := splitF_pos s nl s.size 0 0 []
 have w : wrap64 (((splitB s nl).length : Int) - 1) = ((splitB s nl).length : Int) - 1 := w64 (by omega) (by omega)
 unfold impl_SplitLines.f
 have e : strings_Split.f s nl = some (splitB s nl) := by
  unfold strings_Split.f
  rw [if_pos ⟨by omega, by decide⟩, lines_all]
 rw [show strings_Split.f s (⟨#[10]⟩ : ByteArray) = some (splitB s nl) from e, Option.bind_some, w, if_pos (by omega), if_pos (by omega)]
 unfold linesB
 by_cases c : (rdOf ByteArray.empty (splitB s nl) (((splitB s nl).length : Int) - 1)).toList = ([] : List UInt8)
 ·rw [if_pos c, if_pos c, if_pos (by omega)]
  simp only [Option.bind_some, List.length_nil, List.nil_append]
  rw [if_pos (by rw [List.length_take]; omega)]
 ·rw [if_neg c, if_neg c]
  simp only [Option.bind_some, List.length_nil, List.nil_append]
  rw [if_pos (by omega)]

end Go.Proofs.YtlohmpgbjgidpadDoor.Q
namespace Go.Proofs.YtlohmpgbjgidpadDoor.Pure
open Go.RowKit Go.Proofs.YtlohmpgbjgidpadDoor.P Go.Proofs.YtlohmpgbjgidpadDoorW.PrintWords Go.Proofs.YtlohmpgbjgidpadDoorW.PrintLast Go.Proofs.YtlohmpgbjgidpadDoor.Q

theorem FnExactSplitLines : laws_FnExactSplitLines.Pure := by
 intro s _
 refine Ev.out ?_
 refine Ev.same (fun k => by rw [laws_FnExactSplitLines.f]) ?_
 by_cases h : (s.size : Int) > 1048576
 ·exact Ev.pos h (Ev.now _)
 refine Ev.neg h ?_
 have hl := linesB_length s
 refine Ev.bind (spec_SplitLines_ev s (by omega)) (Ev.plain (impl_SplitLines_some s (by omega)) ?_)
 refine Ev.bind (eqStringS_self _ (by omega)) (Ev.pos rfl ?_)
 refine Ev.bind (markStringS_ev _ (by omega)) ?_
 refine Ev.bind (heldStringS_ev _ (by omega)) ?_
 refine Ev.neg (by omega) (Ev.pos rfl ?_)
 refine Ev.plain (impl_SplitLines_some s (by omega)) ?_
 refine Ev.bind (eqStringS_self _ (by omega)) (Ev.pos rfl ?_)
 refine Ev.bind (heldStringS_ev _ (by omega)) ?_
 exact Ev.neg (by omega) (Ev.pos rfl (Ev.now _))

end Go.Proofs.YtlohmpgbjgidpadDoor.Pure
