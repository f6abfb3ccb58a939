/- The law of Join holds for all lists of strings: the program's string is the reference's, and the list stays as it is. -/
import Derived.Test.YtlohmpgbjgidpabWMore
import Derived.Test.YtlohmpgbjgidpabPx104
import Derived.Test.YtlohmpgbjgidpabPx105
import Derived.Test.YtlohmpgbjgidpabPx106
import Derived.Test.YtlohmpgbjgidpabPx114
import Derived.Test.YtlohmpgbjgidpabPx115
import Derived.Test.YtlohmpgbjgidpabPx116
import Derived.Test.YtlohmpgbjgidpabPx6
import Derived.Lib.Join
import Derived.Lib.SmallJoins
set_option linter.unusedVariables false
set_option linter.unusedSimpArgs false

namespace Go.Proofs.Ytlohmpgbjgidpab.Q
open Go.RowKit Go.Proofs.Ytlohmpgbjgidpab.P Go.Proofs.YtlohmpgbjgidpabW.PrintWords Go.Proofs.YtlohmpgbjgidpabW.PrintLast
/- Small lemmas on the printed functions' words: numbers of 64 bits, elements of lists, rounds. -/
theorem w64 {x : Int} (h : -9223372036854775808 ≤ x) (h' : x ≤ 9223372036854775807) : wrap64 x = x := by
 unfold wrap64; omega
theorem w64n {i : Nat} (h : i < 9223372036854775807) : wrap64 ((i : Int) + 1) = ((i + 1 : Nat) : Int) := by
 rw [w64 (by omega) (by omega)]; omega
theorem Ev.succ {α : Type} {g f : Nat → Option α} {r : α} (h : ∀ k, g (k + 1) = f k) (hf : Ev f r) : Ev g r := Ev.step h hf
theorem Ev.plain {α β : Type} {x : Option α} {f : Nat → α → Option β} {a : α} {r : β} (h : x = some a) (k : Ev (fun n => f n a) r) : Ev (fun n => x.bind (f n)) r := by
 subst h; exact k
theorem Ev.pos {α : Type} {c : Prop} [Decidable c] {g f : Nat → Option α} {r : α} (h : c) (hg : Ev g r) : Ev (fun k => if c then g k else f k) r := by
 simp only [if_pos h]; exact hg
theorem Ev.neg {α : Type} {c : Prop} [Decidable c] {g f : Nat → Option α} {r : α} (h : ¬ c) (hf : Ev f r) : Ev (fun k => if c then g k else f k) r := by
 simp only [if_neg h]; exact hf
theorem Ev.out {α : Type} {g : Nat → Option α} {r : α} (h : Ev g r) : ∃ k, g k = some r := h.rounds
theorem Ev.same {α : Type} {g f : Nat → Option α} {r : α} (h : ∀ k, g k = f k) (hf : Ev f r) : Ev g r := Ev.congr h hf

end Go.Proofs.Ytlohmpgbjgidpab.Q
namespace Go.Proofs.Ytlohmpgbjgidpab.Q
open Go.RowKit Go.Proofs.Ytlohmpgbjgidpab.P Go.Proofs.YtlohmpgbjgidpabW.PrintWords Go.Proofs.YtlohmpgbjgidpabW.PrintLast
/- Loops over a string's bytes: the functions of digits, names and words. -/
theorem bytes_eq {s t : ByteArray} (h : s.data.toList = t.data.toList) : s = t := by
 cases s; cases t; simp only at h; congr; exact Array.toList_inj.mp h

end Go.Proofs.Ytlohmpgbjgidpab.Q
namespace Go.Proofs.Ytlohmpgbjgidpab.Q
open Go.RowKit Go.Proofs.Ytlohmpgbjgidpab.P Go.Proofs.YtlohmpgbjgidpabW.PrintWords Go.Proofs.YtlohmpgbjgidpabW.PrintLast
/- Lists of strings: comparisons and marks. -/
theorem rds {xs : List ByteArray} {i : Nat} (h : i < xs.length) : rdOf ByteArray.empty xs (i : Int) = xs[i] := by simp [rdOf, h]
theorem eqStringS_loop (xs : List ByteArray) (hn : xs.length < 9223372036854775807) : ∀ (d i : Nat), i + d = xs.length → Ev (fun k => laws_eqStringS.l0 k xs xs i) true := by
 intro d
 induction d with
 | zero =>
  intro i h
  exact Ev.step (fun k => by rw [laws_eqStringS.l0]) (Ev.neg (by omega) (Ev.now _))
 | succ d ih =>
  intro i h
  refine Ev.step (fun k => by rw [laws_eqStringS.l0]) (Ev.pos (by omega) (Ev.pos (by omega) (Ev.pos (by omega) (Ev.pos rfl ?_))))
  rw [w64n (by omega)]
  exact ih (i + 1) (by omega)
theorem eqStringS_self (xs : List ByteArray) (hn : xs.length < 9223372036854775807) : Ev (fun k => laws_eqStringS.f k xs xs) true :=
 Ev.same (f := fun k => if (xs.length : Int) = (xs.length : Int) then laws_eqStringS.l0 k xs xs 0 else some false) (fun k => by rw [laws_eqStringS.f]) (Ev.pos rfl (eqStringS_loop xs hn xs.length 0 (by omega)))

end Go.Proofs.Ytlohmpgbjgidpab.Q
namespace Go.Proofs.Ytlohmpgbjgidpab.Q
open Go.RowKit Go.Proofs.Ytlohmpgbjgidpab.P Go.Proofs.YtlohmpgbjgidpabW.PrintWords Go.Proofs.YtlohmpgbjgidpabW.PrintLast
/- The two Join functions, and the laws' own handling of lists of strings. -/
theorem sz_loop (xs : List ByteArray) (hx : ∀ x ∈ xs, x.size ≤ maxLen) (hn : xs.length ≤ 1048576) : ∀ (d i : Nat) (left : Int), i + d = xs.length → 0 ≤ left → left ≤ 1048576 →
  ∃ r, Ev (fun k => laws_szStringS.l0 k xs left i) r ∧ (r < 0 ∨ (((xs.drop i).map ByteArray.size).sum : Int) ≤ left) := by
 have mx_ : maxLen = 9223372036854775807 := by decide
 intro d
 induction d with
 | zero =>
  intro i left h h0 h1
  refine ⟨left, Ev.step (fun k => by rw [laws_szStringS.l0]) (Ev.neg (by omega) (Ev.now _)), .inr ?_⟩
  rw [List.drop_of_length_le (by omega)]
  simpa using h0
 | succ d ih =>
  intro i left h h0 h1
  have hs := hx (xs[i]'(by omega)) (List.getElem_mem _)
  have w : wrap64 (left - ((xs[i]'(by omega)).size : Int)) = left - ((xs[i]'(by omega)).size : Int) := w64 (by omega) (by omega)
  by_cases c : left - ((xs[i]'(by omega)).size : Int) < 0
  ·refine ⟨-1, Ev.step (fun k => by rw [laws_szStringS.l0]) (Ev.pos (by omega) (Ev.pos (by omega) ?_)), .inl (by omega)⟩
   rw [rds (by omega), w]
   exact Ev.pos c (Ev.now _)
  ·obtain ⟨r, e, hr⟩ := ih (i + 1) (left - ((xs[i]'(by omega)).size : Int)) (by omega) (by omega) (by omega)
   refine ⟨r, Ev.step (fun k => by rw [laws_szStringS.l0]) (Ev.pos (by omega) (Ev.pos (by omega) ?_)), ?_⟩
   ·rw [rds (by omega), w, w64n (by omega)]
    exact Ev.neg c e
   ·rcases hr with hr | hr
    ·exact .inl hr
    ·refine .inr ?_
     rw [List.drop_eq_getElem_cons (by omega), List.map_cons, List.sum_cons]
     omega
theorem sz_ev (xs : List ByteArray) (hl : xs.length ≤ maxLen) (hx : ∀ x ∈ xs, x.size ≤ maxLen) : ∃ r, Ev (fun k => laws_szStringS.f k xs 1048576) r ∧ (r < 0 ∨ xs.length ≤ 1048576 ∧ (xs.map ByteArray.size).sum ≤ 1048576) := by
 have mx_ : maxLen = 9223372036854775807 := by decide
 have w : wrap64 (1048576 - (xs.length : Int)) = 1048576 - (xs.length : Int) := w64 (by omega) (by omega)
 by_cases c : (1048576 : Int) - (xs.length : Int) < 0
 ·refine ⟨-1, Ev.same (fun k => by rw [laws_szStringS.f]) ?_, .inl (by omega)⟩
  rw [w]
  exact Ev.pos c (Ev.now _)
 ·obtain ⟨r, e, hr⟩ := sz_loop xs hx (by omega) xs.length 0 (1048576 - (xs.length : Int)) (by omega) (by omega) (by omega)
  refine ⟨r, Ev.same (fun k => by rw [laws_szStringS.f]) ?_, ?_⟩
  ·rw [w]
   exact Ev.neg c e
  ·rcases hr with hr | hr
   ·exact .inl hr
   ·rw [List.drop_zero] at hr
    exact .inr ⟨by omega, by omega⟩
theorem toStringS_loop (xs : List ByteArray) (hn : xs.length < 9223372036854775807) : ∀ (d i : Nat) (ys : List ByteArray), i + d = xs.length → ys.length = xs.length →
  Ev (fun k => laws_toStringS.l0 k xs ys i) (ys.take i ++ xs.drop i) := by
 intro d
 induction d with
 | zero =>
  intro i ys h hl
  refine Ev.step (fun k => by rw [laws_toStringS.l0]) (Ev.neg (by omega) ?_)
  rw [List.take_of_length_le (by omega), List.drop_of_length_le (by omega), List.append_nil]
  exact Ev.now _
 | succ d ih =>
  intro i ys h hl
  refine Ev.step (fun k => by rw [laws_toStringS.l0]) (Ev.pos (by omega) (Ev.pos (by omega) (Ev.pos (by omega) ?_)))
  rw [w64n (by omega), rds (by omega), Int.toNat_natCast]
  have := ih (i + 1) (ys.set i xs[i]) (by omega) (by simpa using hl)
  rw [List.take_succ_eq_append_getElem (by simp; omega), List.getElem_set_self, List.take_set_of_le (by omega), List.append_assoc, List.singleton_append, ← List.drop_eq_getElem_cons (by omega)] at this
  exact this
theorem toStringS_ev (xs : List ByteArray) (hn : xs.length ≤ 17592186044416) : Ev (fun k => laws_toStringS.f k xs) xs := by
 refine Ev.same (fun k => by rw [laws_toStringS.f]) (Ev.pos (by omega) (Ev.pos (by omega) ?_))
 have := toStringS_loop xs (by omega) xs.length 0 (List.replicate xs.length (⟨#[]⟩ : ByteArray)) (by omega) (by simp)
 simpa using this
/-- The strings, each behind the other, the separator between. -/
def joinL (xs : List ByteArray) (s : ByteArray) : List UInt8 := Lib.join (xs.map (·.data.toList)) s.data.toList
def joinB (xs : List ByteArray) (s : ByteArray) : ByteArray := ⟨(joinL xs s).toArray⟩
theorem joinTail_length (s : List UInt8) : ∀ r : List (List UInt8), (Lib.joinTail s r).length = (r.map List.length).sum + r.length * s.length
 | [] => by simp [Lib.joinTail]
 | x :: r => by
  have := joinTail_length s r
  unfold Lib.joinTail at *
  simp only [List.map_cons, List.flatten_cons, List.length_append, this, List.sum_cons, List.length_cons, Nat.succ_mul]
  omega
theorem joinL_length (xs : List ByteArray) (s : ByteArray) : (joinL xs s).length ≤ (xs.map ByteArray.size).sum + xs.length * s.size := by
 unfold joinL
 cases xs with
 | nil => simp [Lib.join_nil]
 | cons x r =>
  rw [List.map_cons, Lib.join_cons, List.length_append, joinTail_length, List.map_map, List.length_map, List.map_cons, List.sum_cons, List.length_cons, Nat.succ_mul, data_length, data_length]
  have : (r.map (List.length ∘ fun x : ByteArray => x.data.toList)) = r.map ByteArray.size := List.map_congr_left fun y _ => data_length y
  rw [this]
  omega
theorem joinTail_snoc (s : List UInt8) (r : List (List UInt8)) (x : List UInt8) : Lib.joinTail s (r ++ [x]) = Lib.joinTail s r ++ (s ++ x) := by
 unfold Lib.joinTail
 simp
theorem joinL_snoc (xs : List ByteArray) (x s : ByteArray) (h : xs ≠ []) : joinL (xs ++ [x]) s = joinL xs s ++ (s.data.toList ++ x.data.toList) := by
 unfold joinL
 cases xs with
 | nil => exact absurd rfl h
 | cons y r =>
  simp only [List.cons_append, List.map_cons, List.map_append, List.map_nil, Lib.join_cons, joinTail_snoc, List.append_assoc]
theorem joinB_size (xs : List ByteArray) (s : ByteArray) : (joinB xs s).size = (joinL xs s).length := by simp [joinB, ByteArray.size]
theorem sum_take (xs : List ByteArray) (i : Nat) : ((xs.take i).map ByteArray.size).sum ≤ (xs.map ByteArray.size).sum := by
 conv => rhs; rw [← List.take_append_drop i xs, List.map_append, List.sum_append]
 omega
theorem spec_join_loop (xs : List ByteArray) (s : ByteArray) (hl : xs.length ≤ 1048576) (hs : (xs.map ByteArray.size).sum ≤ 1048576) (hb : s.size ≤ 1048576) : ∀ (d i : Nat), i + d = xs.length →
  Ev (fun k => spec_Join.l0 k s (joinB (xs.take i) s) xs (xs.length : Int) i) (joinB xs s) := by
 intro d
 induction d with
 | zero =>
  intro i h
  refine Ev.step (fun k => by rw [spec_Join.l0]) (Ev.neg (by omega) ?_)
  rw [List.take_of_length_le (by omega)]
  exact Ev.now _
 | succ d ih =>
  intro i h
  have next := ih (i + 1) (by omega)
  have m : xs[i]'(by omega) ∈ xs := List.getElem_mem _
  have szi : (xs[i]'(by omega)).size ≤ 1048576 := by
   have z : xs = xs.take i ++ (xs[i]'(by omega)) :: xs.drop (i + 1) := by rw [← List.drop_eq_getElem_cons (by omega), List.take_append_drop]
   have := congrArg (fun l => (l.map ByteArray.size).sum) z
   simp only [List.map_append, List.map_cons, List.sum_append, List.sum_cons] at this
   omega
  have szt : (joinB (xs.take i) s).size ≤ 1048576 + 1048576 * 1048576 := by
   rw [joinB_size]
   have a := joinL_length (xs.take i) s
   have b := sum_take xs i
   have c : (xs.take i).length * s.size ≤ 1048576 * 1048576 := Nat.mul_le_mul (by rw [List.length_take]; omega) hb
   omega
  rw [List.take_succ_eq_append_getElem (by omega)] at next
  refine Ev.step (fun k => by rw [spec_Join.l0]) (Ev.pos (by omega) (Ev.pos (by omega) (Ev.pos (by omega) ?_)))
  rw [rds (by omega), w64n (by omega)]
  by_cases c : (i : Int) > 0
  ·have e : (joinB (xs.take i) s ++ s) ++ xs[i]'(by omega) = joinB (xs.take i ++ [xs[i]'(by omega)]) s := by
    apply bytes_eq
    rw [Go.Joins.data_append, Go.Joins.data_append]
    simp only [joinB]
    rw [joinL_snoc _ _ _ (by intro z; have := congrArg List.length z; rw [List.length_take, List.length_nil] at this; omega), List.append_assoc]
   have s1 : (joinB (xs.take i) s ++ s).size = (joinB (xs.take i) s).size + s.size := ByteArray.size_append
   refine Ev.pos c (Ev.pos (by omega) (Ev.pos (by omega) ?_))
   rw [e]
   exact next
  ·have i0 : i = 0 := by omega
   subst i0
   have e : joinB (xs.take 0) s ++ xs[0]'(by omega) = joinB (xs.take 0 ++ [xs[0]'(by omega)]) s := by
    apply bytes_eq
    rw [Go.Joins.data_append]
    simp [joinB, joinL, Lib.join_nil, Lib.join_one]
   refine Ev.neg c (Ev.pos (by omega) ?_)
   rw [e]
   exact next
theorem spec_Join_ev (xs : List ByteArray) (s : ByteArray) (hl : xs.length ≤ 1048576) (hs : (xs.map ByteArray.size).sum ≤ 1048576) (hb : s.size ≤ 1048576) : Ev (fun k => spec_Join.f k xs s) (joinB xs s) := by
 refine Ev.same (fun k => by rw [spec_Join.f]) ?_
 exact spec_join_loop xs s hl hs hb xs.length 0 (by omega)
theorem impl_Join_some (xs : List ByteArray) (s : ByteArray) (hl : xs.length ≤ 1048576) (hs : (xs.map ByteArray.size).sum ≤ 1048576) (hb : s.size ≤ 1048576) : impl_Join.f xs s = some (joinB xs s) := by
 have a := joinL_length xs s
 have c : xs.length * s.size ≤ 1048576 * 1048576 := Nat.mul_le_mul hl hb
 unfold impl_Join.f strings_Join.f
 rw [if_pos ⟨by omega, by unfold joinL at a; omega⟩]
 rfl

end Go.Proofs.Ytlohmpgbjgidpab.Q
namespace Go.Proofs.Ytlohmpgbjgidpab.Pure
open Go.RowKit Go.Proofs.Ytlohmpgbjgidpab.P Go.Proofs.YtlohmpgbjgidpabW.PrintWords Go.Proofs.YtlohmpgbjgidpabW.PrintLast Go.Proofs.Ytlohmpgbjgidpab.Q

theorem FnExactJoin : laws_FnExactJoin.Pure := by
 intro l s hl hx hs
 refine Ev.out ?_
 refine Ev.same (fun k => by rw [laws_FnExactJoin.f]) ?_
 by_cases h : (s.size : Int) > 1048576
 ·exact Ev.pos h (Ev.now _)
 refine Ev.neg h ?_
 obtain ⟨r, e, hr⟩ := sz_ev l hl hx
 refine Ev.bind e ?_
 by_cases c : r < 0
 ·exact Ev.pos c (Ev.now _)
 refine Ev.neg c ?_
 obtain ⟨h1, h2⟩ := hr.resolve_left c
 refine Ev.bind (toStringS_ev l (by omega)) (Ev.bind (spec_Join_ev l s h1 h2 (by omega)) ?_)
 refine Ev.bind (toStringS_ev l (by omega)) (Ev.plain (impl_Join_some l s h1 h2 (by omega)) (Ev.pos rfl ?_))
 refine Ev.bind (toStringS_ev l (by omega)) (Ev.bind (eqStringS_self l (by omega)) (Ev.pos rfl (Ev.now _)))

end Go.Proofs.Ytlohmpgbjgidpab.Pure
