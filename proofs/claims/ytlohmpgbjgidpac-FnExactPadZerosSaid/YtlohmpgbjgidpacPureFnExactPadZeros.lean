/- The law of PadZeros holds for all strings and numbers: the program's string is the reference's. -/
import Derived.Test.YtlohmpgbjgidpacWMore
import Derived.Test.YtlohmpgbjgidpacPx42
import Derived.Test.YtlohmpgbjgidpacPx56
import Derived.Test.YtlohmpgbjgidpacPx57
import Derived.Test.YtlohmpgbjgidpacPx58
import Derived.Lib.Repeat
import Derived.Lib.SmallJoins
set_option linter.unusedVariables false
set_option linter.unusedSimpArgs false

namespace Go.Proofs.Ytlohmpgbjgidpac.Q
open Go.RowKit Go.Proofs.Ytlohmpgbjgidpac.P Go.Proofs.YtlohmpgbjgidpacW.PrintWords Go.Proofs.YtlohmpgbjgidpacW.PrintLast
/- Small lemmas on the printed functions' words: numbers of 64 bits, elements of lists, rounds. -/
theorem w64 {x : Int} (h : -9223372036854775808 ≤ x) (h' : x ≤ 9223372036854775807) : wrap64 x = x := by
 unfold wrap64; omega
theorem Ev.succ {α : Type} {g f : Nat → Option α} {r : α} (h : ∀ k, g (k + 1) = f k) (hf : Ev f r) : Ev g r := Ev.step h hf
theorem Ev.plain {α β : Type} {x : Option α} {f : Nat → α → Option β} {a : α} {r : β} (h : x = some a) (k : Ev (fun n => f n a) r) : Ev (fun n => x.bind (f n)) r := by
 subst h; exact k
theorem Ev.pos {α : Type} {c : Prop} [Decidable c] {g f : Nat → Option α} {r : α} (h : c) (hg : Ev g r) : Ev (fun k => if c then g k else f k) r := by
 simp only [if_pos h]; exact hg
theorem Ev.neg {α : Type} {c : Prop} [Decidable c] {g f : Nat → Option α} {r : α} (h : ¬ c) (hf : Ev f r) : Ev (fun k => if c then g k else f k) r := by
 simp only [if_neg h]; exact hf
theorem Ev.out {α : Type} {g : Nat → Option α} {r : α} (h : Ev g r) : ∃ k, g k = some r := h.rounds
theorem Ev.same {α : Type} {g f : Nat → Option α} {r : α} (h : ∀ k, g k = f k) (hf : Ev f r) : Ev g r := Ev.congr h hf

end Go.Proofs.Ytlohmpgbjgidpac.Q
namespace Go.Proofs.Ytlohmpgbjgidpac.Q
open Go.RowKit Go.Proofs.Ytlohmpgbjgidpac.P Go.Proofs.YtlohmpgbjgidpacW.PrintWords Go.Proofs.YtlohmpgbjgidpacW.PrintLast
/- Loops over a string's bytes: the functions of digits, names and words. -/
theorem bytes_eq {s t : ByteArray} (h : s.data.toList = t.data.toList) : s = t := by
 cases s; cases t; simp only at h; congr; exact Array.toList_inj.mp h

end Go.Proofs.Ytlohmpgbjgidpac.Q
namespace Go.Proofs.Ytlohmpgbjgidpac.Q
open Go.RowKit Go.Proofs.Ytlohmpgbjgidpac.P Go.Proofs.YtlohmpgbjgidpacW.PrintWords Go.Proofs.YtlohmpgbjgidpacW.PrintLast
/- The two PadZeros functions. -/
theorem repeat_zero (n : Nat) : Lib.repeatL [48] n = List.replicate n (48 : UInt8) := by
 induction n with
 | zero => rfl
 | succ n ih => rw [Lib.repeatL, ih]; rfl
def zeros (n : Nat) (s : ByteArray) : ByteArray := (⟨(Lib.repeatL [48] n).toArray⟩ : ByteArray) ++ s
theorem zeros_none (s : ByteArray) : zeros 0 s = s := by
 apply bytes_eq
 rw [zeros, Go.Joins.data_append]
 simp [Lib.repeatL]
theorem zeros_more (n : Nat) (s : ByteArray) : zeros n ((⟨#[48]⟩ : ByteArray) ++ s) = zeros (n + 1) s := by
 apply bytes_eq
 rw [zeros, zeros, Go.Joins.data_append, Go.Joins.data_append, Go.Joins.data_append, repeat_zero, repeat_zero]
 simp only [List.replicate_succ']
 simp
theorem spec_pad_loop (n : Nat) (hn : n ≤ 2000) : ∀ (d : Nat) (s : ByteArray), n - s.size = d → s.size ≤ 2000000 → Ev (fun k => spec_PadZeros.l0 k s n) (zeros d s) := by
 intro d
 induction d with
 | zero =>
  intro s h hs
  rw [zeros_none]
  exact Ev.step (fun k => by rw [spec_PadZeros.l0]) (Ev.neg (by omega) (Ev.now _))
 | succ d ih =>
  intro s h hs
  have sz : ((⟨#[48]⟩ : ByteArray) ++ s).size = 1 + s.size := by rw [ByteArray.size_append]; rfl
  refine Ev.step (fun k => by rw [spec_PadZeros.l0]) (Ev.pos (by omega) (Ev.pos (by omega) ?_))
  rw [← zeros_more]
  exact ih _ (by rw [sz]; omega) (by rw [sz]; omega)
def padB (s : ByteArray) (a : Int) : ByteArray := if a > 2000 then s else zeros (a.toNat - s.size) s
theorem spec_PadZeros_ev (s : ByteArray) (a : Int) (hs : s.size ≤ 1048576) : Ev (fun k => spec_PadZeros.f k s a) (padB s a) := by
 refine Ev.same (fun k => by rw [spec_PadZeros.f]) ?_
 unfold padB
 by_cases c : a > 2000
 ·rw [if_pos c]
  exact Ev.pos c (Ev.now _)
 ·rw [if_neg c]
  refine Ev.neg c ?_
  by_cases c0 : 0 ≤ a
  ·obtain ⟨n, rfl⟩ := Int.eq_ofNat_of_zero_le c0
   exact spec_pad_loop n (by omega) _ s rfl (by omega)
  ·rw [show a.toNat - s.size = 0 by omega, zeros_none]
   exact Ev.step (fun k => by rw [spec_PadZeros.l0]) (Ev.neg (by omega) (Ev.now _))
theorem impl_PadZeros_some (s : ByteArray) (a : Int) (hs : s.size ≤ 1048576) (ha : (Lit.int .i64 a).wf = true) : impl_PadZeros.f s a = some (padB s a) := by
 unfold impl_PadZeros.f padB
 by_cases c : (s.size : Int) ≥ a
 ·rw [if_pos c]
  by_cases c' : a > 2000
  ·rw [if_pos c']
  ·rw [if_neg c', show a.toNat - s.size = 0 by omega, zeros_none]
 ·rw [if_neg c]
  by_cases c' : a > 2000
  ·rw [if_pos c', if_pos c']
  ·rw [if_neg c', if_neg c', w64 (by omega) (by omega)]
   have z : (⟨#[48]⟩ : ByteArray).size = 1 := rfl
   have e : strings_Repeat.f (⟨#[48]⟩ : ByteArray) (a - (s.size : Int)) = some ⟨(Lib.repeatL [48] (a.toNat - s.size)).toArray⟩ := by
    unfold strings_Repeat.f
    rw [if_pos ⟨by omega, by omega, by rw [z]; omega⟩, show (a - (s.size : Int)).toNat = a.toNat - s.size by omega]
   rw [e]
   simp only [Option.bind_some]
   rw [if_pos (by
    have : (⟨(Lib.repeatL [48] (a.toNat - s.size)).toArray⟩ : ByteArray).size = a.toNat - s.size := by
     rw [ByteArray.size]
     simp [repeat_zero]
    rw [this]; omega)]
   rfl

end Go.Proofs.Ytlohmpgbjgidpac.Q
namespace Go.Proofs.Ytlohmpgbjgidpac.Pure
open Go.RowKit Go.Proofs.Ytlohmpgbjgidpac.P Go.Proofs.YtlohmpgbjgidpacW.PrintWords Go.Proofs.YtlohmpgbjgidpacW.PrintLast Go.Proofs.Ytlohmpgbjgidpac.Q

theorem FnExactPadZeros : laws_FnExactPadZeros.Pure := by
 intro s a _ ha
 refine Ev.out ?_
 refine Ev.same (fun k => by rw [laws_FnExactPadZeros.f]) ?_
 by_cases h : (s.size : Int) > 1048576
 ·exact Ev.pos h (Ev.now _)
 refine Ev.neg h ?_
 refine Ev.bind (spec_PadZeros_ev s a (by omega)) (Ev.plain (impl_PadZeros_some s a (by omega) ha) ?_)
 exact Ev.pos rfl (Ev.now _)

end Go.Proofs.Ytlohmpgbjgidpac.Pure
