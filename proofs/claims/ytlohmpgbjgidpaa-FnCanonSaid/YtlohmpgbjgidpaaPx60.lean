-- MADE by this project's printer (wip/mk) out of the translation; Lean checks it.
import Derived.Test.YtlohmpgbjgidpaaPx0
import Derived.Test.YtlohmpgbjgidpaaPx37
import Derived.Test.YtlohmpgbjgidpaaPx39
import Derived.Test.YtlohmpgbjgidpaaPx40
import Derived.Test.YtlohmpgbjgidpaaPx44
import Derived.Test.YtlohmpgbjgidpaaPx45
import Derived.Test.YtlohmpgbjgidpaaPx46
import Derived.Test.YtlohmpgbjgidpaaPx53
import Derived.Test.YtlohmpgbjgidpaaPx56
import Derived.Test.YtlohmpgbjgidpaaPx57
import Derived.Test.YtlohmpgbjgidpaaPx58
import Derived.Test.YtlohmpgbjgidpaaPx59
namespace Go.Proofs.Ytlohmpgbjgidpaa.P
open Go.RowKit Go.Proofs.YtlohmpgbjgidpaaW.PrintWords Go.Proofs.YtlohmpgbjgidpaaW.PrintLast Go.Proofs.YtlohmpgbjgidpaaW.PrintMore
attribute [local go_sem] max2_int min2_int max_two min_two max_three min_three max_four min_four   -- for this text's walks alone
set_option linter.unusedVariables false
set_option linter.unusedSimpArgs false

/-! ### laws_FnCanon: function 8 -/
def laws_FnCanon.j0 : Nat → List Int → Int → Bool → List Int → List Int → Option (Bool)
 | 0, _, _, _, _, _ => none
 | k + 1, x0, x4, x99, x489000, x489001 => if x99 = true then (some false) else ((spec_MakeNum.f k x0 60).bind fun t529 => (if x4 = 0 then (none) else ((impl_NamesFrom.f k x489000 x489001 (Int.tmod t529 x4)).bind fun t530 => ((impl_RenameSurface.f k x489000 x489001 t530).bind fun bt533 => (if bt533.2.2 = true then ((impl_PermOk.f t530).bind fun t541 => (if t541 = true then (if (t530.length : Int) = x4 then ((impl_AreIsomorphic.f k bt533.1 bt533.2.1 x489000 x489001).bind fun t542 => (if t542 = true then ((impl_CountSquares.f k x489000 x489001).bind fun t543 => (some (t543 == x4))) else (some false))) else (some false)) else (some false))) else (some false))))))
def laws_FnCanon.f (k : Nat) (l0 : List Int) : Option (Bool) := if (l0.length : Int) > 1048576 then (some true) else ((spec_MakeSurface.f k l0).bind fun bt482 => ((spec_MakePerm.f k l0 40 (bt482.1.length : Int)).bind fun t489 => ((impl_RenameSurface.f k bt482.1 bt482.2 t489).bind fun bt492 => ((impl_CanonOf.f k bt482.1 bt482.2).bind fun bt500 => ((impl_CanonOf.f k bt492.1 bt492.2.1).bind fun bt508 => ((impl_CanonOf.f k bt500.1 bt500.2.1).bind fun bt516 => ((impl_CountSymmetries.f k bt482.1 bt482.2).bind fun t524 => (if bt492.2.2 = true then (if bt500.2.2 = true then (if bt508.2.2 = true then (if bt516.2.2 = true then ((impl_SameSurface.f k bt500.1 bt500.2.1 bt508.1 bt508.2.1).bind fun t525 => (if t525 = true then ((impl_SameSurface.f k bt500.1 bt500.2.1 bt516.1 bt516.2.1).bind fun t526 => (if t526 = true then ((impl_AreIsomorphic.f k bt482.1 bt482.2 bt492.1 bt492.2.1).bind fun t527 => (if t527 = true then (if t524 < 1 then (laws_FnCanon.j0 k l0 (bt482.1.length : Int) true bt482.1 bt482.2) else (if t524 = 0 then (none) else (if ((bt482.1.length : Int) % t524) = 0 then ((impl_CountSymmetries.f k bt492.1 bt492.2.1).bind fun t528 => (laws_FnCanon.j0 k l0 (bt482.1.length : Int) (t524 != t528) bt482.1 bt482.2)) else (laws_FnCanon.j0 k l0 (bt482.1.length : Int) true bt482.1 bt482.2)))) else (laws_FnCanon.j0 k l0 (bt482.1.length : Int) true bt482.1 bt482.2))) else (laws_FnCanon.j0 k l0 (bt482.1.length : Int) true bt482.1 bt482.2))) else (laws_FnCanon.j0 k l0 (bt482.1.length : Int) true bt482.1 bt482.2))) else (laws_FnCanon.j0 k l0 (bt482.1.length : Int) true bt482.1 bt482.2)) else (laws_FnCanon.j0 k l0 (bt482.1.length : Int) true bt482.1 bt482.2)) else (laws_FnCanon.j0 k l0 (bt482.1.length : Int) true bt482.1 bt482.2)) else (laws_FnCanon.j0 k l0 (bt482.1.length : Int) true bt482.1 bt482.2)))))))))
theorem laws_FnCanon.mono_l : ∀ k, (∀ y0 y1 y2 y3 y4, LeO (laws_FnCanon.j0 k y0 y1 y2 y3 y4) (laws_FnCanon.j0 (k + 1) y0 y1 y2 y3 y4))
 | 0 => fun _ _ _ _ _ r h => by simp [laws_FnCanon.j0] at h
 | k + 1 => by
  have ih0 := laws_FnCanon.mono_l k
  ·intro y0 y1 y2 y3 y4
   unfold laws_FnCanon.j0
   repeat' first
   | (with_reducible exact ih0 _ _ _ _ _)
   | (with_reducible exact impl_AreIsomorphic.mono _ _ _ _ _)
   | (with_reducible exact impl_CanonOf.mono _ _ _)
   | (with_reducible exact impl_CountSquares.mono _ _ _)
   | (with_reducible exact impl_CountSymmetries.mono _ _ _)
   | (with_reducible exact impl_NamesFrom.mono _ _ _ _)
   | (with_reducible exact impl_RenameSurface.mono _ _ _ _)
   | (with_reducible exact impl_SameSurface.mono _ _ _ _ _)
   | (with_reducible exact spec_MakeNum.mono _ _ _)
   | (with_reducible exact spec_MakePerm.mono _ _ _ _)
   | (with_reducible exact spec_MakeSurface.mono _ _)
   | (with_reducible exact LeO.refl _)
   | (with_reducible exact LeO.none _)
   | (with_reducible refine LeO.ite ?_ ?_)
   | (with_reducible refine LeO.bind ?_ (fun _ => ?_))
   | exact ih0 _ _ _ _ _
   | exact impl_AreIsomorphic.mono _ _ _ _ _
   | exact impl_CanonOf.mono _ _ _
   | exact impl_CountSquares.mono _ _ _
   | exact impl_CountSymmetries.mono _ _ _
   | exact impl_NamesFrom.mono _ _ _ _
   | exact impl_RenameSurface.mono _ _ _ _
   | exact impl_SameSurface.mono _ _ _ _ _
   | exact spec_MakeNum.mono _ _ _
   | exact spec_MakePerm.mono _ _ _ _
   | exact spec_MakeSurface.mono _ _
   | exact LeO.none _
   | refine LeO.ite ?_ ?_
   | refine LeO.bind ?_ (fun _ => ?_)
theorem laws_FnCanon.mono : ∀ a0 k, LeO (laws_FnCanon.f k a0) (laws_FnCanon.f (k + 1) a0) := by
 intro a0 k
 have ih0 := laws_FnCanon.mono_l k
 unfold laws_FnCanon.f
 repeat' first
   | (with_reducible exact ih0 _ _ _ _ _)
   | (with_reducible exact impl_AreIsomorphic.mono _ _ _ _ _)
   | (with_reducible exact impl_CanonOf.mono _ _ _)
   | (with_reducible exact impl_CountSquares.mono _ _ _)
   | (with_reducible exact impl_CountSymmetries.mono _ _ _)
   | (with_reducible exact impl_NamesFrom.mono _ _ _ _)
   | (with_reducible exact impl_RenameSurface.mono _ _ _ _)
   | (with_reducible exact impl_SameSurface.mono _ _ _ _ _)
   | (with_reducible exact spec_MakeNum.mono _ _ _)
   | (with_reducible exact spec_MakePerm.mono _ _ _ _)
   | (with_reducible exact spec_MakeSurface.mono _ _)
   | (with_reducible exact LeO.refl _)
   | (with_reducible exact LeO.none _)
   | (with_reducible refine LeO.ite ?_ ?_)
   | (with_reducible refine LeO.bind ?_ (fun _ => ?_))
   | exact ih0 _ _ _ _ _
   | exact impl_AreIsomorphic.mono _ _ _ _ _
   | exact impl_CanonOf.mono _ _ _
   | exact impl_CountSquares.mono _ _ _
   | exact impl_CountSymmetries.mono _ _ _
   | exact impl_NamesFrom.mono _ _ _ _
   | exact impl_RenameSurface.mono _ _ _ _
   | exact impl_SameSurface.mono _ _ _ _ _
   | exact spec_MakeNum.mono _ _ _
   | exact spec_MakePerm.mono _ _ _ _
   | exact spec_MakeSurface.mono _ _
   | exact LeO.none _
   | refine LeO.ite ?_ ?_
   | refine LeO.bind ?_ (fun _ => ?_)
theorem R_fresh {e : Nat} {w1 : World} {b b' : Nat} {ok : Nat → Prop} {v : Value} {xs : List Int} (h : Kd.R (Kd.int .i64) e w1 b' ok v xs) (hl : b ≤ b') : Kd.R (Kd.int .i64) e w1 b (fun _ => True) v xs := Kd.R_mono (Kd.R_lower h hl) (fun _ _ => trivial)
set_option maxHeartbeats 8000000 in
set_option maxRecDepth 100000 in
theorem laws_FnCanon.calls_true (k : Nat) (A0 : Option Addr) (c0 : Nat) (l0 : List Int) (w : World) (hr0 : Kd.C (Kd.int .u8) w A0 l0.length l0) (hc0 : l0.length ≤ c0) (h : laws_FnCanon.f k l0 = some true) :
  Calls Try.prog 8 #[.slice A0 l0.length c0] w fun e w' => e = .returned (.bool true) ∧ Below w.heap.size w w' := by
 have hu33 := Try.underlying33
 have HR0 := Aside0.mk hr0
 have HC0 := Aside0.mk hc0
 clear hr0 hc0
 have HB := Aside0.mk (Below.refl w.heap.size w)
 have H : (if (l0.length : Int) > 1048576 then (some true) else ((spec_MakeSurface.f k l0).bind fun bt482 => ((spec_MakePerm.f k l0 40 (bt482.1.length : Int)).bind fun t489 => ((impl_RenameSurface.f k bt482.1 bt482.2 t489).bind fun bt492 => ((impl_CanonOf.f k bt482.1 bt482.2).bind fun bt500 => ((impl_CanonOf.f k bt492.1 bt492.2.1).bind fun bt508 => ((impl_CanonOf.f k bt500.1 bt500.2.1).bind fun bt516 => ((impl_CountSymmetries.f k bt482.1 bt482.2).bind fun t524 => (if bt492.2.2 = true then (if bt500.2.2 = true then (if bt508.2.2 = true then (if bt516.2.2 = true then ((impl_SameSurface.f k bt500.1 bt500.2.1 bt508.1 bt508.2.1).bind fun t525 => (if t525 = true then ((impl_SameSurface.f k bt500.1 bt500.2.1 bt516.1 bt516.2.1).bind fun t526 => (if t526 = true then ((impl_AreIsomorphic.f k bt482.1 bt482.2 bt492.1 bt492.2.1).bind fun t527 => (if t527 = true then (if t524 < 1 then (laws_FnCanon.j0 k l0 (bt482.1.length : Int) true bt482.1 bt482.2) else (if t524 = 0 then (none) else (if ((bt482.1.length : Int) % t524) = 0 then ((impl_CountSymmetries.f k bt492.1 bt492.2.1).bind fun t528 => (laws_FnCanon.j0 k l0 (bt482.1.length : Int) (t524 != t528) bt482.1 bt482.2)) else (laws_FnCanon.j0 k l0 (bt482.1.length : Int) true bt482.1 bt482.2)))) else (laws_FnCanon.j0 k l0 (bt482.1.length : Int) true bt482.1 bt482.2))) else (laws_FnCanon.j0 k l0 (bt482.1.length : Int) true bt482.1 bt482.2))) else (laws_FnCanon.j0 k l0 (bt482.1.length : Int) true bt482.1 bt482.2))) else (laws_FnCanon.j0 k l0 (bt482.1.length : Int) true bt482.1 bt482.2)) else (laws_FnCanon.j0 k l0 (bt482.1.length : Int) true bt482.1 bt482.2)) else (laws_FnCanon.j0 k l0 (bt482.1.length : Int) true bt482.1 bt482.2)) else (laws_FnCanon.j0 k l0 (bt482.1.length : Int) true bt482.1 bt482.2)))))))))) = some true := h
 clear h
 by_cases c2 : (l0.length : Int) > 1048576
 ·rw [if_pos c2] at H
  have c2b0 : decide (1048576 < (l0.length : Int)) = true := decide_eq_true c2
  have c2b1 : decide (1048576 < l0.length) = true := decide_eq_true (by omega)
  clear c2
  go_enter Try.func8, Try.ntmps8
  go_wp2
  go_ret
  exact ⟨by first | rfl | (simp [errW_none, errW_some] <;> rfl) | (simp [*, errW_none, errW_some] <;> rfl), HB.out⟩
 ·rw [if_neg c2] at H
  have c2b0 : decide (1048576 < (l0.length : Int)) = false := decide_eq_false c2
  have c2b1 : decide (1048576 < l0.length) = false := decide_eq_false (by omega)
  clear c2
  replace H := Option.bind_eq_some_iff.mp H
  obtain ⟨⟨t482, t485⟩, A30, H⟩ := H
  replace H : ((spec_MakePerm.f k l0 40 (t482.length : Int)).bind fun t489 => ((impl_RenameSurface.f k t482 t485 t489).bind fun bt492 => ((impl_CanonOf.f k t482 t485).bind fun bt500 => ((impl_CanonOf.f k bt492.1 bt492.2.1).bind fun bt508 => ((impl_CanonOf.f k bt500.1 bt500.2.1).bind fun bt516 => ((impl_CountSymmetries.f k t482 t485).bind fun t524 => (if bt492.2.2 = true then (if bt500.2.2 = true then (if bt508.2.2 = true then (if bt516.2.2 = true then ((impl_SameSurface.f k bt500.1 bt500.2.1 bt508.1 bt508.2.1).bind fun t525 => (if t525 = true then ((impl_SameSurface.f k bt500.1 bt500.2.1 bt516.1 bt516.2.1).bind fun t526 => (if t526 = true then ((impl_AreIsomorphic.f k t482 t485 bt492.1 bt492.2.1).bind fun t527 => (if t527 = true then (if t524 < 1 then (laws_FnCanon.j0 k l0 (t482.length : Int) true t482 t485) else (if t524 = 0 then (none) else (if ((t482.length : Int) % t524) = 0 then ((impl_CountSymmetries.f k bt492.1 bt492.2.1).bind fun t528 => (laws_FnCanon.j0 k l0 (t482.length : Int) (t524 != t528) t482 t485)) else (laws_FnCanon.j0 k l0 (t482.length : Int) true t482 t485)))) else (laws_FnCanon.j0 k l0 (t482.length : Int) true t482 t485))) else (laws_FnCanon.j0 k l0 (t482.length : Int) true t482 t485))) else (laws_FnCanon.j0 k l0 (t482.length : Int) true t482 t485))) else (laws_FnCanon.j0 k l0 (t482.length : Int) true t482 t485)) else (laws_FnCanon.j0 k l0 (t482.length : Int) true t482 t485)) else (laws_FnCanon.j0 k l0 (t482.length : Int) true t482 t485)) else (laws_FnCanon.j0 k l0 (t482.length : Int) true t482 t485)))))))) = some true := H
  have A3 := Aside0.mk A30
  clear A30
  replace H := Option.bind_eq_some_iff.mp H
  obtain ⟨t489, A40, H⟩ := H
  replace H : ((impl_RenameSurface.f k t482 t485 t489).bind fun bt492 => ((impl_CanonOf.f k t482 t485).bind fun bt500 => ((impl_CanonOf.f k bt492.1 bt492.2.1).bind fun bt508 => ((impl_CanonOf.f k bt500.1 bt500.2.1).bind fun bt516 => ((impl_CountSymmetries.f k t482 t485).bind fun t524 => (if bt492.2.2 = true then (if bt500.2.2 = true then (if bt508.2.2 = true then (if bt516.2.2 = true then ((impl_SameSurface.f k bt500.1 bt500.2.1 bt508.1 bt508.2.1).bind fun t525 => (if t525 = true then ((impl_SameSurface.f k bt500.1 bt500.2.1 bt516.1 bt516.2.1).bind fun t526 => (if t526 = true then ((impl_AreIsomorphic.f k t482 t485 bt492.1 bt492.2.1).bind fun t527 => (if t527 = true then (if t524 < 1 then (laws_FnCanon.j0 k l0 (t482.length : Int) true t482 t485) else (if t524 = 0 then (none) else (if ((t482.length : Int) % t524) = 0 then ((impl_CountSymmetries.f k bt492.1 bt492.2.1).bind fun t528 => (laws_FnCanon.j0 k l0 (t482.length : Int) (t524 != t528) t482 t485)) else (laws_FnCanon.j0 k l0 (t482.length : Int) true t482 t485)))) else (laws_FnCanon.j0 k l0 (t482.length : Int) true t482 t485))) else (laws_FnCanon.j0 k l0 (t482.length : Int) true t482 t485))) else (laws_FnCanon.j0 k l0 (t482.length : Int) true t482 t485))) else (laws_FnCanon.j0 k l0 (t482.length : Int) true t482 t485)) else (laws_FnCanon.j0 k l0 (t482.length : Int) true t482 t485)) else (laws_FnCanon.j0 k l0 (t482.length : Int) true t482 t485)) else (laws_FnCanon.j0 k l0 (t482.length : Int) true t482 t485))))))) = some true := H
  have A4 := Aside0.mk A40
  clear A40
  replace H := Option.bind_eq_some_iff.mp H
  obtain ⟨⟨t492, t495, t498⟩, A50, H⟩ := H
  replace H : ((impl_CanonOf.f k t482 t485).bind fun bt500 => ((impl_CanonOf.f k t492 t495).bind fun bt508 => ((impl_CanonOf.f k bt500.1 bt500.2.1).bind fun bt516 => ((impl_CountSymmetries.f k t482 t485).bind fun t524 => (if t498 = true then (if bt500.2.2 = true then (if bt508.2.2 = true then (if bt516.2.2 = true then ((impl_SameSurface.f k bt500.1 bt500.2.1 bt508.1 bt508.2.1).bind fun t525 => (if t525 = true then ((impl_SameSurface.f k bt500.1 bt500.2.1 bt516.1 bt516.2.1).bind fun t526 => (if t526 = true then ((impl_AreIsomorphic.f k t482 t485 t492 t495).bind fun t527 => (if t527 = true then (if t524 < 1 then (laws_FnCanon.j0 k l0 (t482.length : Int) true t482 t485) else (if t524 = 0 then (none) else (if ((t482.length : Int) % t524) = 0 then ((impl_CountSymmetries.f k t492 t495).bind fun t528 => (laws_FnCanon.j0 k l0 (t482.length : Int) (t524 != t528) t482 t485)) else (laws_FnCanon.j0 k l0 (t482.length : Int) true t482 t485)))) else (laws_FnCanon.j0 k l0 (t482.length : Int) true t482 t485))) else (laws_FnCanon.j0 k l0 (t482.length : Int) true t482 t485))) else (laws_FnCanon.j0 k l0 (t482.length : Int) true t482 t485))) else (laws_FnCanon.j0 k l0 (t482.length : Int) true t482 t485)) else (laws_FnCanon.j0 k l0 (t482.length : Int) true t482 t485)) else (laws_FnCanon.j0 k l0 (t482.length : Int) true t482 t485)) else (laws_FnCanon.j0 k l0 (t482.length : Int) true t482 t485)))))) = some true := H
  have A5 := Aside0.mk A50
  clear A50
  replace H := Option.bind_eq_some_iff.mp H
  obtain ⟨⟨t500, t503, t506⟩, A60, H⟩ := H
  replace H : ((impl_CanonOf.f k t492 t495).bind fun bt508 => ((impl_CanonOf.f k t500 t503).bind fun bt516 => ((impl_CountSymmetries.f k t482 t485).bind fun t524 => (if t498 = true then (if t506 = true then (if bt508.2.2 = true then (if bt516.2.2 = true then ((impl_SameSurface.f k t500 t503 bt508.1 bt508.2.1).bind fun t525 => (if t525 = true then ((impl_SameSurface.f k t500 t503 bt516.1 bt516.2.1).bind fun t526 => (if t526 = true then ((impl_AreIsomorphic.f k t482 t485 t492 t495).bind fun t527 => (if t527 = true then (if t524 < 1 then (laws_FnCanon.j0 k l0 (t482.length : Int) true t482 t485) else (if t524 = 0 then (none) else (if ((t482.length : Int) % t524) = 0 then ((impl_CountSymmetries.f k t492 t495).bind fun t528 => (laws_FnCanon.j0 k l0 (t482.length : Int) (t524 != t528) t482 t485)) else (laws_FnCanon.j0 k l0 (t482.length : Int) true t482 t485)))) else (laws_FnCanon.j0 k l0 (t482.length : Int) true t482 t485))) else (laws_FnCanon.j0 k l0 (t482.length : Int) true t482 t485))) else (laws_FnCanon.j0 k l0 (t482.length : Int) true t482 t485))) else (laws_FnCanon.j0 k l0 (t482.length : Int) true t482 t485)) else (laws_FnCanon.j0 k l0 (t482.length : Int) true t482 t485)) else (laws_FnCanon.j0 k l0 (t482.length : Int) true t482 t485)) else (laws_FnCanon.j0 k l0 (t482.length : Int) true t482 t485))))) = some true := H
  have A6 := Aside0.mk A60
  clear A60
  replace H := Option.bind_eq_some_iff.mp H
  obtain ⟨⟨t508, t511, t514⟩, A70, H⟩ := H
  replace H : ((impl_CanonOf.f k t500 t503).bind fun bt516 => ((impl_CountSymmetries.f k t482 t485).bind fun t524 => (if t498 = true then (if t506 = true then (if t514 = true then (if bt516.2.2 = true then ((impl_SameSurface.f k t500 t503 t508 t511).bind fun t525 => (if t525 = true then ((impl_SameSurface.f k t500 t503 bt516.1 bt516.2.1).bind fun t526 => (if t526 = true then ((impl_AreIsomorphic.f k t482 t485 t492 t495).bind fun t527 => (if t527 = true then (if t524 < 1 then (laws_FnCanon.j0 k l0 (t482.length : Int) true t482 t485) else (if t524 = 0 then (none) else (if ((t482.length : Int) % t524) = 0 then ((impl_CountSymmetries.f k t492 t495).bind fun t528 => (laws_FnCanon.j0 k l0 (t482.length : Int) (t524 != t528) t482 t485)) else (laws_FnCanon.j0 k l0 (t482.length : Int) true t482 t485)))) else (laws_FnCanon.j0 k l0 (t482.length : Int) true t482 t485))) else (laws_FnCanon.j0 k l0 (t482.length : Int) true t482 t485))) else (laws_FnCanon.j0 k l0 (t482.length : Int) true t482 t485))) else (laws_FnCanon.j0 k l0 (t482.length : Int) true t482 t485)) else (laws_FnCanon.j0 k l0 (t482.length : Int) true t482 t485)) else (laws_FnCanon.j0 k l0 (t482.length : Int) true t482 t485)) else (laws_FnCanon.j0 k l0 (t482.length : Int) true t482 t485)))) = some true := H
  have A7 := Aside0.mk A70
  clear A70
  replace H := Option.bind_eq_some_iff.mp H
  obtain ⟨⟨t516, t519, t522⟩, A80, H⟩ := H
  replace H : ((impl_CountSymmetries.f k t482 t485).bind fun t524 => (if t498 = true then (if t506 = true then (if t514 = true then (if t522 = true then ((impl_SameSurface.f k t500 t503 t508 t511).bind fun t525 => (if t525 = true then ((impl_SameSurface.f k t500 t503 t516 t519).bind fun t526 => (if t526 = true then ((impl_AreIsomorphic.f k t482 t485 t492 t495).bind fun t527 => (if t527 = true then (if t524 < 1 then (laws_FnCanon.j0 k l0 (t482.length : Int) true t482 t485) else (if t524 = 0 then (none) else (if ((t482.length : Int) % t524) = 0 then ((impl_CountSymmetries.f k t492 t495).bind fun t528 => (laws_FnCanon.j0 k l0 (t482.length : Int) (t524 != t528) t482 t485)) else (laws_FnCanon.j0 k l0 (t482.length : Int) true t482 t485)))) else (laws_FnCanon.j0 k l0 (t482.length : Int) true t482 t485))) else (laws_FnCanon.j0 k l0 (t482.length : Int) true t482 t485))) else (laws_FnCanon.j0 k l0 (t482.length : Int) true t482 t485))) else (laws_FnCanon.j0 k l0 (t482.length : Int) true t482 t485)) else (laws_FnCanon.j0 k l0 (t482.length : Int) true t482 t485)) else (laws_FnCanon.j0 k l0 (t482.length : Int) true t482 t485)) else (laws_FnCanon.j0 k l0 (t482.length : Int) true t482 t485))) = some true := H
  have A8 := Aside0.mk A80
  clear A80
  replace H := Option.bind_eq_some_iff.mp H
  obtain ⟨t524, A90, H⟩ := H
  replace H : (if t498 = true then (if t506 = true then (if t514 = true then (if t522 = true then ((impl_SameSurface.f k t500 t503 t508 t511).bind fun t525 => (if t525 = true then ((impl_SameSurface.f k t500 t503 t516 t519).bind fun t526 => (if t526 = true then ((impl_AreIsomorphic.f k t482 t485 t492 t495).bind fun t527 => (if t527 = true then (if t524 < 1 then (laws_FnCanon.j0 k l0 (t482.length : Int) true t482 t485) else (if t524 = 0 then (none) else (if ((t482.length : Int) % t524) = 0 then ((impl_CountSymmetries.f k t492 t495).bind fun t528 => (laws_FnCanon.j0 k l0 (t482.length : Int) (t524 != t528) t482 t485)) else (laws_FnCanon.j0 k l0 (t482.length : Int) true t482 t485)))) else (laws_FnCanon.j0 k l0 (t482.length : Int) true t482 t485))) else (laws_FnCanon.j0 k l0 (t482.length : Int) true t482 t485))) else (laws_FnCanon.j0 k l0 (t482.length : Int) true t482 t485))) else (laws_FnCanon.j0 k l0 (t482.length : Int) true t482 t485)) else (laws_FnCanon.j0 k l0 (t482.length : Int) true t482 t485)) else (laws_FnCanon.j0 k l0 (t482.length : Int) true t482 t485)) else (laws_FnCanon.j0 k l0 (t482.length : Int) true t482 t485)) = some true := H
  have A9 := Aside0.mk A90
  clear A90
  have HC10 := Aside0.mk H
  clear H
  go_enter Try.func8, Try.ntmps8
  go_upto_region 11 with (first | ((with_reducible refine gate_callee (f := 24) rfl ?_); refine goesL_ (some 22) rfl rfl Try.func24 (by kernel_rfl) rfl #[.slice A0 l0.length c0] rfl (by (try simp only [List.map_toArray, List.map_cons, List.map_nil]); first | done | rfl | (simp only [List.length_drop, List.length_take]; rfl)) ?_; (with_reducible refine (spec_MakeSurface.calls k _ _ l0 t482 t485 _ ?side1 ?side2 A3.out).mono ?_); (case side1 => repeat (first | exact HR0.out | (with_reducible refine Kd.C_alloc ?_ _) | (with_reducible refine Kd.C_drewN ?_ _) | (with_reducible refine Kd.C_drew ?_))); (case side2 => exact HC0.out); rintro e w11 ⟨v483, v486, rfl, ho0, ho1, hb⟩; refine ⟨_, rfl, ?_⟩; have n0_ := Aside0.mk (R_fresh ho0 (below_size (by repeat (first | (with_reducible first | exact HB.out | apply below_alloc | apply pw_below_drewN | apply below_drew1) | exact HB.out)))); have n1_ := Aside0.mk (R_fresh ho1 (below_size (by repeat (first | (with_reducible first | exact HB.out | apply below_alloc | apply pw_below_drewN | apply below_drew1) | exact HB.out)))); have n2_ := Aside0.mk (below_step (by repeat (first | (with_reducible first | exact HB.out | apply below_alloc | apply pw_below_drewN | apply below_drew1) | exact HB.out)) hb); clear HB; have HO484 := n0_; have HO487 := n1_; have HB := n2_; clear n0_ n1_ n2_; (try clear hb); (try clear hb2); (try clear hk); (try clear hi); (try clear ho0); (try clear ho1)) | ((with_reducible refine gate_dst (N := 3) rfl ?_); (try (refine gate_guard (by rfl) ?_; dsimp only)); refine box_event ?hg (N := 3) ?hd (cs := #[.slice none 0 0, .slice none 0 0]) (t := 33) ?hr ?_; (case hd => rfl); (case hg => rfl); (case hr => first | (go_simp; done) | (go_simp; rfl)); intro gb488 hg w12 hbox hb; have n0_ := Aside0.mk (Kd.R_below (by (with_reducible repeat (first | apply Kd.R_alloc | apply Kd.R_drewN | apply Kd.R_drew)); exact HO484.out) hb); have n1_ := Aside0.mk (Kd.R_below (by (with_reducible repeat (first | apply Kd.R_alloc | apply Kd.R_drewN | apply Kd.R_drew)); exact HO487.out) hb); have n2_ := Aside0.mk (below_step (by repeat (first | (with_reducible first | exact HB.out | apply below_alloc | apply pw_below_drewN | apply below_drew1) | exact HB.out)) hb); have n3_ := Aside0.mk (hbox); have n4_ := Aside0.mk ((by rw [hg]; exact (below_size (by repeat (first | (with_reducible first | exact HB.out | apply below_alloc | apply pw_below_drewN | apply below_drew1) | exact HB.out))) : w.heap.size ≤ gb488)); have n5_ := Aside0.mk ((by rw [hg]; exact (below_size (by repeat (first | (with_reducible first | exact HB.out | apply below_alloc | apply pw_below_drewN | apply below_drew1) | exact HB.out))) : w.heap.size ≤ gb488)); clear HO484; clear HO487; clear HB; have HO484 := n0_; have HO487 := n1_; have HB := n2_; have BK488 := n3_; have GW488 := n4_; have GE488 := n5_; clear n0_ n1_ n2_ n3_ n4_ n5_; clear hb hbox hg; obtain ⟨Ao13, co13, eo13⟩ := Kd.R_slice HO484.out; subst eo13; have hcz14_0 : w12.cell? ⟨gb488, 0, none⟩ = some (.slice none 0 0) := (blk_cell BK488.out 0).trans rfl; have hcz14_1 : w12.cell? ⟨gb488, 1, none⟩ = some (.slice none 0 0) := (blk_cell BK488.out 1).trans rfl; have hfz14_0 := blk_frozen BK488.out 0; have hfz14_1 := blk_frozen BK488.out 1; obtain ⟨Ao15, co15, eo15⟩ := Kd.R_slice HO487.out; subst eo15) | ((with_reducible refine gate_callee (f := 25) rfl ?_); refine goesL_ (some 28) rfl rfl Try.func25 (by kernel_rfl) rfl #[.slice A0 l0.length c0, .int .i64 40, .int .i64 (t482.length : Int)] rfl (by (try simp only [List.map_toArray, List.map_cons, List.map_nil]); first | done | rfl | (simp only [List.length_drop, List.length_take]; rfl)) ?_; (with_reducible refine (spec_MakePerm.calls k _ _ l0 40 (t482.length : Int) t489 _ ?side1 ?side2 A4.out).mono ?_); (case side1 => exact Kd.C_below HR0.out (by repeat (first | (with_reducible first | exact HB.out | apply below_alloc | apply pw_below_drewN | apply below_drew1 | refine below_set ?_ GE488.out) | exact HB.out))); (case side2 => exact HC0.out); rintro e w16 ⟨v490, rfl, ho0, hb⟩; refine ⟨_, rfl, ?_⟩; have n0_ := Aside0.mk (Kd.R_below (by (with_reducible repeat (first | apply Kd.R_alloc | apply Kd.R_drewN | apply Kd.R_drew)); exact (Kd.R_mono (Kd.R_far (p := ⟨gb488, 1, none⟩) (Kd.R_far (p := ⟨gb488, 0, none⟩) (Kd.R_types HO484.out BK488.out (by decide)) (fun _ hk => hk.2) (.slice Ao13 t482.length co13)) (fun _ hk => hk.2) (.slice Ao15 t485.length co15)) (fun _ _ => trivial))) hb); have n1_ := Aside0.mk (Kd.R_below (by (with_reducible repeat (first | apply Kd.R_alloc | apply Kd.R_drewN | apply Kd.R_drew)); exact (Kd.R_mono (Kd.R_far (p := ⟨gb488, 1, none⟩) (Kd.R_far (p := ⟨gb488, 0, none⟩) (Kd.R_types HO487.out BK488.out (by decide)) (fun _ hk => hk.2) (.slice Ao13 t482.length co13)) (fun _ hk => hk.2) (.slice Ao15 t485.length co15)) (fun _ _ => trivial))) hb); have n2_ := Aside0.mk (R_fresh ho0 (below_size (by repeat (first | (with_reducible first | exact HB.out | apply below_alloc | apply pw_below_drewN | apply below_drew1 | refine below_set ?_ GE488.out) | exact HB.out)))); have n3_ := Aside0.mk (blk_below (g := gb488) (o := .cells #[.slice Ao13 t482.length co13, .slice Ao15 t485.length co15] 33 (0, 0)) (by (with_reducible repeat (first | refine blk_drewN ?_ _ | refine blk_drew ?_ | refine blk_alloc ?_ _)); refine blk_put (cs := #[.slice Ao13 t482.length co13, .slice none 0 0]) ?_ 1 _ rfl; (with_reducible repeat (first | refine blk_drewN ?_ _ | refine blk_drew ?_ | refine blk_alloc ?_ _)); refine blk_put (cs := #[.slice none 0 0, .slice none 0 0]) ?_ 0 _ rfl; (with_reducible repeat (first | refine blk_drewN ?_ _ | refine blk_drew ?_ | refine blk_alloc ?_ _)); exact BK488.out) hb); have n4_ := Aside0.mk (below_step (by repeat (first | (with_reducible first | exact HB.out | apply below_alloc | apply pw_below_drewN | apply below_drew1 | refine below_set ?_ GE488.out) | exact HB.out)) hb); clear HO484; clear HO487; clear BK488; clear HB; have HO484 := n0_; have HO487 := n1_; have HO491 := n2_; have BK488 := n3_; have HB := n4_; clear n0_ n1_ n2_ n3_ n4_; (try clear hb); (try clear hb2); (try clear hk); (try clear hi); (try clear ho0); have hcz17_0 : w16.cell? ⟨gb488, 0, none⟩ = some (.slice Ao13 t482.length co13) := (blk_cell BK488.out 0).trans rfl; have hcz17_1 : w16.cell? ⟨gb488, 1, none⟩ = some (.slice Ao15 t485.length co15) := (blk_cell BK488.out 1).trans rfl; have hfz17_0 := blk_frozen BK488.out 0; have hfz17_1 := blk_frozen BK488.out 1; obtain ⟨Ao18, co18, eo18⟩ := Kd.R_slice HO491.out; subst eo18) | ((with_reducible refine gate_callee (f := 26) rfl ?_); refine goesL_ (some 32) rfl rfl Try.func26 (by kernel_rfl) rfl #[.agg #[.slice Ao13 t482.length co13, .slice Ao15 t485.length co15], .slice Ao18 t489.length co18] rfl (by (try simp only [List.map_toArray, List.map_cons, List.map_nil]); first | done | rfl | (simp only [List.length_drop, List.length_take]; rfl)) ?_; (with_reducible refine (impl_RenameSurface.calls k _ _ t482 _ _ t485 _ _ t489 t492 t495 t498 _ ?side1 ?side2 ?side3 ?side4 ?side5 ?side6 A5.out).mono ?_); (case side1 => repeat (first | exact (Kd.R_reads' HO484.out).2.2 | (with_reducible refine Kd.C_alloc ?_ _) | (with_reducible refine Kd.C_drewN ?_ _) | (with_reducible refine Kd.C_drew ?_))); (case side2 => exact (Kd.R_reads' HO484.out).2.1); (case side3 => repeat (first | exact (Kd.R_reads' HO487.out).2.2 | (with_reducible refine Kd.C_alloc ?_ _) | (with_reducible refine Kd.C_drewN ?_ _) | (with_reducible refine Kd.C_drew ?_))); (case side4 => exact (Kd.R_reads' HO487.out).2.1); (case side5 => repeat (first | exact (Kd.R_reads' HO491.out).2.2 | (with_reducible refine Kd.C_alloc ?_ _) | (with_reducible refine Kd.C_drewN ?_ _) | (with_reducible refine Kd.C_drew ?_))); (case side6 => exact (Kd.R_reads' HO491.out).2.1); rintro e w19 ⟨v493, v496, rfl, ho0, ho1, hb⟩; refine ⟨_, rfl, ?_⟩; have n0_ := Aside0.mk (Kd.R_below (by (with_reducible repeat (first | apply Kd.R_alloc | apply Kd.R_drewN | apply Kd.R_drew)); exact HO484.out) hb); have n1_ := Aside0.mk (Kd.R_below (by (with_reducible repeat (first | apply Kd.R_alloc | apply Kd.R_drewN | apply Kd.R_drew)); exact HO487.out) hb); have n2_ := Aside0.mk (Kd.R_below (by (with_reducible repeat (first | apply Kd.R_alloc | apply Kd.R_drewN | apply Kd.R_drew)); exact HO491.out) hb); have n3_ := Aside0.mk (R_fresh ho0 (below_size (by repeat (first | (with_reducible first | exact HB.out | apply below_alloc | apply pw_below_drewN | apply below_drew1 | refine below_set ?_ GE488.out) | exact HB.out)))); have n4_ := Aside0.mk (R_fresh ho1 (below_size (by repeat (first | (with_reducible first | exact HB.out | apply below_alloc | apply pw_below_drewN | apply below_drew1 | refine below_set ?_ GE488.out) | exact HB.out)))); have n5_ := Aside0.mk (blk_below (g := gb488) (o := .cells #[.slice Ao13 t482.length co13, .slice Ao15 t485.length co15] 33 (0, 0)) (by (with_reducible repeat (first | refine blk_drewN ?_ _ | refine blk_drew ?_ | refine blk_alloc ?_ _)); exact BK488.out) hb); have n6_ := Aside0.mk (below_step (by repeat (first | (with_reducible first | exact HB.out | apply below_alloc | apply pw_below_drewN | apply below_drew1 | refine below_set ?_ GE488.out) | exact HB.out)) hb); clear HO484; clear HO487; clear HO491; clear BK488; clear HB; have HO484 := n0_; have HO487 := n1_; have HO491 := n2_; have HO494 := n3_; have HO497 := n4_; have BK488 := n5_; have HB := n6_; clear n0_ n1_ n2_ n3_ n4_ n5_ n6_; (try clear hb); (try clear hb2); (try clear hk); (try clear hi); (try clear ho0); (try clear ho1)) | ((with_reducible refine gate_dst (N := 6) rfl ?_); (try (refine gate_guard (by rfl) ?_; dsimp only)); refine box_event ?hg (N := 6) ?hd (cs := #[.slice none 0 0, .slice none 0 0]) (t := 33) ?hr ?_; (case hd => rfl); (case hg => rfl); (case hr => first | (go_simp; done) | (go_simp; rfl)); intro gb499 hg w20 hbox hb; have n0_ := Aside0.mk (Kd.R_below (by (with_reducible repeat (first | apply Kd.R_alloc | apply Kd.R_drewN | apply Kd.R_drew)); exact HO484.out) hb); have n1_ := Aside0.mk (Kd.R_below (by (with_reducible repeat (first | apply Kd.R_alloc | apply Kd.R_drewN | apply Kd.R_drew)); exact HO487.out) hb); have n2_ := Aside0.mk (Kd.R_below (by (with_reducible repeat (first | apply Kd.R_alloc | apply Kd.R_drewN | apply Kd.R_drew)); exact HO491.out) hb); have n3_ := Aside0.mk (Kd.R_below (by (with_reducible repeat (first | apply Kd.R_alloc | apply Kd.R_drewN | apply Kd.R_drew)); exact HO494.out) hb); have n4_ := Aside0.mk (Kd.R_below (by (with_reducible repeat (first | apply Kd.R_alloc | apply Kd.R_drewN | apply Kd.R_drew)); exact HO497.out) hb); have n5_ := Aside0.mk (blk_below (g := gb488) (o := .cells #[.slice Ao13 t482.length co13, .slice Ao15 t485.length co15] 33 (0, 0)) (by (with_reducible repeat (first | refine blk_drewN ?_ _ | refine blk_drew ?_ | refine blk_alloc ?_ _)); exact BK488.out) hb); have n6_ := Aside0.mk (below_step (by repeat (first | (with_reducible first | exact HB.out | apply below_alloc | apply pw_below_drewN | apply below_drew1 | refine below_set ?_ GE488.out) | exact HB.out)) hb); have n7_ := Aside0.mk (hbox); have n8_ := Aside0.mk ((by rw [hg]; exact (below_size (by repeat (first | (with_reducible first | exact HB.out | apply below_alloc | apply pw_below_drewN | apply below_drew1 | refine below_set ?_ GE488.out) | exact HB.out))) : w.heap.size ≤ gb499)); have n9_ := Aside0.mk ((by rw [hg]; exact (below_size (by repeat (first | (with_reducible first | exact HB.out | apply below_alloc | apply pw_below_drewN | apply below_drew1 | refine below_set ?_ GE488.out) | exact HB.out))) : w.heap.size ≤ gb499)); have n10_ := Aside0.mk ((by rw [hg]; exact Nat.ne_of_lt (blk_lt (g := gb488) (o := .cells #[.slice Ao13 t482.length co13, .slice Ao15 t485.length co15] 33 (0, 0)) (by (with_reducible repeat (first | refine blk_drewN ?_ _ | refine blk_drew ?_ | refine blk_alloc ?_ _)); exact BK488.out)) : gb488 ≠ gb499)); have n11_ := Aside0.mk ((by rw [hg]; exact Nat.ne_of_gt (blk_lt (g := gb488) (o := .cells #[.slice Ao13 t482.length co13, .slice Ao15 t485.length co15] 33 (0, 0)) (by (with_reducible repeat (first | refine blk_drewN ?_ _ | refine blk_drew ?_ | refine blk_alloc ?_ _)); exact BK488.out)) : gb499 ≠ gb488)); clear HO484; clear HO487; clear HO491; clear HO494; clear HO497; clear BK488; clear HB; have HO484 := n0_; have HO487 := n1_; have HO491 := n2_; have HO494 := n3_; have HO497 := n4_; have BK488 := n5_; have HB := n6_; have BK499 := n7_; have GW499 := n8_; have GE499 := n9_; have NB488_499 := n10_; have NB499_488 := n11_; clear n0_ n1_ n2_ n3_ n4_ n5_ n6_ n7_ n8_ n9_ n10_ n11_; clear hb hbox hg; obtain ⟨Ao21, co21, eo21⟩ := Kd.R_slice HO494.out; subst eo21; have hnb22 := NB499_488.out; have hnc22 := NB488_499.out; have hcz23_0 : w20.cell? ⟨gb499, 0, none⟩ = some (.slice none 0 0) := (blk_cell BK499.out 0).trans rfl; have hcz23_1 : w20.cell? ⟨gb499, 1, none⟩ = some (.slice none 0 0) := (blk_cell BK499.out 1).trans rfl; have hfz23_0 := blk_frozen BK499.out 0; have hfz23_1 := blk_frozen BK499.out 1; obtain ⟨Ao24, co24, eo24⟩ := Kd.R_slice HO497.out; subst eo24; have hcz25_0 : w20.cell? ⟨gb488, 0, none⟩ = some (.slice Ao13 t482.length co13) := (blk_cell BK488.out 0).trans rfl; have hcz25_1 : w20.cell? ⟨gb488, 1, none⟩ = some (.slice Ao15 t485.length co15) := (blk_cell BK488.out 1).trans rfl; have hfz25_0 := blk_frozen BK488.out 0; have hfz25_1 := blk_frozen BK488.out 1) | ((with_reducible refine gate_callee (f := 27) rfl ?_); refine goesL_ (some 37) rfl rfl Try.func27 (by kernel_rfl) rfl #[.agg #[.slice Ao13 t482.length co13, .slice Ao15 t485.length co15]] rfl (by (try simp only [List.map_toArray, List.map_cons, List.map_nil]); first | done | rfl | (simp only [List.length_drop, List.length_take]; rfl)) ?_; (with_reducible refine (impl_CanonOf.calls k _ _ t482 _ _ t485 t500 t503 t506 _ ?side1 ?side2 ?side3 ?side4 A6.out).mono ?_); (case side1 => refine (Kd.R_reads' (e := 3) (base := w.heap.size) (ok := fun _ => True) (n := t482.length) (c := co13) ?_).2.2; exact (by (with_reducible repeat (first | apply Kd.R_alloc | apply Kd.R_drewN | apply Kd.R_drew)); exact (Kd.R_mono (Kd.R_far (p := ⟨gb499, 1, none⟩) (Kd.R_far (p := ⟨gb499, 0, none⟩) (Kd.R_types HO484.out BK499.out (by decide)) (fun _ hk => hk.2) (.slice Ao21 t492.length co21)) (fun _ hk => hk.2) (.slice Ao24 t495.length co24)) (fun _ _ => trivial)))); (case side2 => exact (Kd.R_reads' HO484.out).2.1); (case side3 => refine (Kd.R_reads' (e := 3) (base := w.heap.size) (ok := fun _ => True) (n := t485.length) (c := co15) ?_).2.2; exact (by (with_reducible repeat (first | apply Kd.R_alloc | apply Kd.R_drewN | apply Kd.R_drew)); exact (Kd.R_mono (Kd.R_far (p := ⟨gb499, 1, none⟩) (Kd.R_far (p := ⟨gb499, 0, none⟩) (Kd.R_types HO487.out BK499.out (by decide)) (fun _ hk => hk.2) (.slice Ao21 t492.length co21)) (fun _ hk => hk.2) (.slice Ao24 t495.length co24)) (fun _ _ => trivial)))); (case side4 => exact (Kd.R_reads' HO487.out).2.1); rintro e w26 ⟨v501, v504, rfl, ho0, ho1, hb⟩; refine ⟨_, rfl, ?_⟩; have n0_ := Aside0.mk (Kd.R_below (by (with_reducible repeat (first | apply Kd.R_alloc | apply Kd.R_drewN | apply Kd.R_drew)); exact (Kd.R_mono (Kd.R_far (p := ⟨gb499, 1, none⟩) (Kd.R_far (p := ⟨gb499, 0, none⟩) (Kd.R_types HO484.out BK499.out (by decide)) (fun _ hk => hk.2) (.slice Ao21 t492.length co21)) (fun _ hk => hk.2) (.slice Ao24 t495.length co24)) (fun _ _ => trivial))) hb); have n1_ := Aside0.mk (Kd.R_below (by (with_reducible repeat (first | apply Kd.R_alloc | apply Kd.R_drewN | apply Kd.R_drew)); exact (Kd.R_mono (Kd.R_far (p := ⟨gb499, 1, none⟩) (Kd.R_far (p := ⟨gb499, 0, none⟩) (Kd.R_types HO487.out BK499.out (by decide)) (fun _ hk => hk.2) (.slice Ao21 t492.length co21)) (fun _ hk => hk.2) (.slice Ao24 t495.length co24)) (fun _ _ => trivial))) hb); have n2_ := Aside0.mk (Kd.R_below (by (with_reducible repeat (first | apply Kd.R_alloc | apply Kd.R_drewN | apply Kd.R_drew)); exact (Kd.R_mono (Kd.R_far (p := ⟨gb499, 1, none⟩) (Kd.R_far (p := ⟨gb499, 0, none⟩) (Kd.R_types HO491.out BK499.out (by decide)) (fun _ hk => hk.2) (.slice Ao21 t492.length co21)) (fun _ hk => hk.2) (.slice Ao24 t495.length co24)) (fun _ _ => trivial))) hb); have n3_ := Aside0.mk (Kd.R_below (by (with_reducible repeat (first | apply Kd.R_alloc | apply Kd.R_drewN | apply Kd.R_drew)); exact (Kd.R_mono (Kd.R_far (p := ⟨gb499, 1, none⟩) (Kd.R_far (p := ⟨gb499, 0, none⟩) (Kd.R_types HO494.out BK499.out (by decide)) (fun _ hk => hk.2) (.slice Ao21 t492.length co21)) (fun _ hk => hk.2) (.slice Ao24 t495.length co24)) (fun _ _ => trivial))) hb); have n4_ := Aside0.mk (Kd.R_below (by (with_reducible repeat (first | apply Kd.R_alloc | apply Kd.R_drewN | apply Kd.R_drew)); exact (Kd.R_mono (Kd.R_far (p := ⟨gb499, 1, none⟩) (Kd.R_far (p := ⟨gb499, 0, none⟩) (Kd.R_types HO497.out BK499.out (by decide)) (fun _ hk => hk.2) (.slice Ao21 t492.length co21)) (fun _ hk => hk.2) (.slice Ao24 t495.length co24)) (fun _ _ => trivial))) hb); have n5_ := Aside0.mk (R_fresh ho0 (below_size (by repeat (first | (with_reducible first | exact HB.out | apply below_alloc | apply pw_below_drewN | apply below_drew1 | refine below_set ?_ GE488.out | refine below_set ?_ GE499.out) | exact HB.out)))); have n6_ := Aside0.mk (R_fresh ho1 (below_size (by repeat (first | (with_reducible first | exact HB.out | apply below_alloc | apply pw_below_drewN | apply below_drew1 | refine below_set ?_ GE488.out | refine below_set ?_ GE499.out) | exact HB.out)))); have n7_ := Aside0.mk (blk_below (g := gb488) (o := .cells #[.slice Ao13 t482.length co13, .slice Ao15 t485.length co15] 33 (0, 0)) (by (with_reducible repeat (first | refine blk_drewN ?_ _ | refine blk_drew ?_ | refine blk_alloc ?_ _)); refine blk_far ?_ NB488_499.out _; (with_reducible repeat (first | refine blk_drewN ?_ _ | refine blk_drew ?_ | refine blk_alloc ?_ _)); refine blk_far ?_ NB488_499.out _; (with_reducible repeat (first | refine blk_drewN ?_ _ | refine blk_drew ?_ | refine blk_alloc ?_ _)); exact BK488.out) hb); have n8_ := Aside0.mk (blk_below (g := gb499) (o := .cells #[.slice Ao21 t492.length co21, .slice Ao24 t495.length co24] 33 (0, 0)) (by (with_reducible repeat (first | refine blk_drewN ?_ _ | refine blk_drew ?_ | refine blk_alloc ?_ _)); refine blk_put (cs := #[.slice Ao21 t492.length co21, .slice none 0 0]) ?_ 1 _ rfl; (with_reducible repeat (first | refine blk_drewN ?_ _ | refine blk_drew ?_ | refine blk_alloc ?_ _)); refine blk_put (cs := #[.slice none 0 0, .slice none 0 0]) ?_ 0 _ rfl; (with_reducible repeat (first | refine blk_drewN ?_ _ | refine blk_drew ?_ | refine blk_alloc ?_ _)); exact BK499.out) hb); have n9_ := Aside0.mk (below_step (by repeat (first | (with_reducible first | exact HB.out | apply below_alloc | apply pw_below_drewN | apply below_drew1 | refine below_set ?_ GE488.out | refine below_set ?_ GE499.out) | exact HB.out)) hb); clear HO484; clear HO487; clear HO491; clear HO494; clear HO497; clear BK488; clear BK499; clear HB; have HO484 := n0_; have HO487 := n1_; have HO491 := n2_; have HO494 := n3_; have HO497 := n4_; have HO502 := n5_; have HO505 := n6_; have BK488 := n7_; have BK499 := n8_; have HB := n9_; clear n0_ n1_ n2_ n3_ n4_ n5_ n6_ n7_ n8_ n9_; (try clear hb); (try clear hb2); (try clear hk); (try clear hi); (try clear ho0); (try clear ho1)) | ((with_reducible refine gate_dst (N := 8) rfl ?_); (try (refine gate_guard (by rfl) ?_; dsimp only)); refine box_event ?hg (N := 8) ?hd (cs := #[.slice none 0 0, .slice none 0 0]) (t := 33) ?hr ?_; (case hd => rfl); (case hg => rfl); (case hr => first | (go_simp; done) | (go_simp; rfl)); intro gb507 hg w27 hbox hb; have n0_ := Aside0.mk (Kd.R_below (by (with_reducible repeat (first | apply Kd.R_alloc | apply Kd.R_drewN | apply Kd.R_drew)); exact HO484.out) hb); have n1_ := Aside0.mk (Kd.R_below (by (with_reducible repeat (first | apply Kd.R_alloc | apply Kd.R_drewN | apply Kd.R_drew)); exact HO487.out) hb); have n2_ := Aside0.mk (Kd.R_below (by (with_reducible repeat (first | apply Kd.R_alloc | apply Kd.R_drewN | apply Kd.R_drew)); exact HO491.out) hb); have n3_ := Aside0.mk (Kd.R_below (by (with_reducible repeat (first | apply Kd.R_alloc | apply Kd.R_drewN | apply Kd.R_drew)); exact HO494.out) hb); have n4_ := Aside0.mk (Kd.R_below (by (with_reducible repeat (first | apply Kd.R_alloc | apply Kd.R_drewN | apply Kd.R_drew)); exact HO497.out) hb); have n5_ := Aside0.mk (Kd.R_below (by (with_reducible repeat (first | apply Kd.R_alloc | apply Kd.R_drewN | apply Kd.R_drew)); exact HO502.out) hb); have n6_ := Aside0.mk (Kd.R_below (by (with_reducible repeat (first | apply Kd.R_alloc | apply Kd.R_drewN | apply Kd.R_drew)); exact HO505.out) hb); have n7_ := Aside0.mk (blk_below (g := gb488) (o := .cells #[.slice Ao13 t482.length co13, .slice Ao15 t485.length co15] 33 (0, 0)) (by (with_reducible repeat (first | refine blk_drewN ?_ _ | refine blk_drew ?_ | refine blk_alloc ?_ _)); exact BK488.out) hb); have n8_ := Aside0.mk (blk_below (g := gb499) (o := .cells #[.slice Ao21 t492.length co21, .slice Ao24 t495.length co24] 33 (0, 0)) (by (with_reducible repeat (first | refine blk_drewN ?_ _ | refine blk_drew ?_ | refine blk_alloc ?_ _)); exact BK499.out) hb); have n9_ := Aside0.mk (below_step (by repeat (first | (with_reducible first | exact HB.out | apply below_alloc | apply pw_below_drewN | apply below_drew1 | refine below_set ?_ GE488.out | refine below_set ?_ GE499.out) | exact HB.out)) hb); have n10_ := Aside0.mk (hbox); have n11_ := Aside0.mk ((by rw [hg]; exact (below_size (by repeat (first | (with_reducible first | exact HB.out | apply below_alloc | apply pw_below_drewN | apply below_drew1 | refine below_set ?_ GE488.out | refine below_set ?_ GE499.out) | exact HB.out))) : w.heap.size ≤ gb507)); have n12_ := Aside0.mk ((by rw [hg]; exact (below_size (by repeat (first | (with_reducible first | exact HB.out | apply below_alloc | apply pw_below_drewN | apply below_drew1 | refine below_set ?_ GE488.out | refine below_set ?_ GE499.out) | exact HB.out))) : w.heap.size ≤ gb507)); have n13_ := Aside0.mk ((by rw [hg]; exact Nat.ne_of_lt (blk_lt (g := gb488) (o := .cells #[.slice Ao13 t482.length co13, .slice Ao15 t485.length co15] 33 (0, 0)) (by (with_reducible repeat (first | refine blk_drewN ?_ _ | refine blk_drew ?_ | refine blk_alloc ?_ _)); exact BK488.out)) : gb488 ≠ gb507)); have n14_ := Aside0.mk ((by rw [hg]; exact Nat.ne_of_gt (blk_lt (g := gb488) (o := .cells #[.slice Ao13 t482.length co13, .slice Ao15 t485.length co15] 33 (0, 0)) (by (with_reducible repeat (first | refine blk_drewN ?_ _ | refine blk_drew ?_ | refine blk_alloc ?_ _)); exact BK488.out)) : gb507 ≠ gb488)); have n15_ := Aside0.mk ((by rw [hg]; exact Nat.ne_of_lt (blk_lt (g := gb499) (o := .cells #[.slice Ao21 t492.length co21, .slice Ao24 t495.length co24] 33 (0, 0)) (by (with_reducible repeat (first | refine blk_drewN ?_ _ | refine blk_drew ?_ | refine blk_alloc ?_ _)); exact BK499.out)) : gb499 ≠ gb507)); have n16_ := Aside0.mk ((by rw [hg]; exact Nat.ne_of_gt (blk_lt (g := gb499) (o := .cells #[.slice Ao21 t492.length co21, .slice Ao24 t495.length co24] 33 (0, 0)) (by (with_reducible repeat (first | refine blk_drewN ?_ _ | refine blk_drew ?_ | refine blk_alloc ?_ _)); exact BK499.out)) : gb507 ≠ gb499)); clear HO484; clear HO487; clear HO491; clear HO494; clear HO497; clear HO502; clear HO505; clear BK488; clear BK499; clear HB; have HO484 := n0_; have HO487 := n1_; have HO491 := n2_; have HO494 := n3_; have HO497 := n4_; have HO502 := n5_; have HO505 := n6_; have BK488 := n7_; have BK499 := n8_; have HB := n9_; have BK507 := n10_; have GW507 := n11_; have GE507 := n12_; have NB488_507 := n13_; have NB507_488 := n14_; have NB499_507 := n15_; have NB507_499 := n16_; clear n0_ n1_ n2_ n3_ n4_ n5_ n6_ n7_ n8_ n9_ n10_ n11_ n12_ n13_ n14_ n15_ n16_; clear hb hbox hg; obtain ⟨Ao28, co28, eo28⟩ := Kd.R_slice HO502.out; subst eo28; have hnb29 := NB507_488.out; have hnc29 := NB488_507.out; have hnb30 := NB507_499.out; have hnc30 := NB499_507.out; have hcz31_0 : w27.cell? ⟨gb507, 0, none⟩ = some (.slice none 0 0) := (blk_cell BK507.out 0).trans rfl; have hcz31_1 : w27.cell? ⟨gb507, 1, none⟩ = some (.slice none 0 0) := (blk_cell BK507.out 1).trans rfl; have hfz31_0 := blk_frozen BK507.out 0; have hfz31_1 := blk_frozen BK507.out 1; obtain ⟨Ao32, co32, eo32⟩ := Kd.R_slice HO505.out; subst eo32; have hcz33_0 : w27.cell? ⟨gb499, 0, none⟩ = some (.slice Ao21 t492.length co21) := (blk_cell BK499.out 0).trans rfl; have hcz33_1 : w27.cell? ⟨gb499, 1, none⟩ = some (.slice Ao24 t495.length co24) := (blk_cell BK499.out 1).trans rfl; have hfz33_0 := blk_frozen BK499.out 0; have hfz33_1 := blk_frozen BK499.out 1) | ((with_reducible refine gate_callee (f := 27) rfl ?_); refine goesL_ (some 42) rfl rfl Try.func27 (by kernel_rfl) rfl #[.agg #[.slice Ao21 t492.length co21, .slice Ao24 t495.length co24]] rfl (by (try simp only [List.map_toArray, List.map_cons, List.map_nil]); first | done | rfl | (simp only [List.length_drop, List.length_take]; rfl)) ?_; (with_reducible refine (impl_CanonOf.calls k _ _ t492 _ _ t495 t508 t511 t514 _ ?side1 ?side2 ?side3 ?side4 A7.out).mono ?_); (case side1 => refine (Kd.R_reads' (e := 3) (base := w.heap.size) (ok := fun _ => True) (n := t492.length) (c := co21) ?_).2.2; exact (by (with_reducible repeat (first | apply Kd.R_alloc | apply Kd.R_drewN | apply Kd.R_drew)); exact (Kd.R_mono (Kd.R_far (p := ⟨gb507, 1, none⟩) (Kd.R_far (p := ⟨gb507, 0, none⟩) (Kd.R_types HO494.out BK507.out (by decide)) (fun _ hk => hk.2) (.slice Ao28 t500.length co28)) (fun _ hk => hk.2) (.slice Ao32 t503.length co32)) (fun _ _ => trivial)))); (case side2 => exact (Kd.R_reads' HO494.out).2.1); (case side3 => refine (Kd.R_reads' (e := 3) (base := w.heap.size) (ok := fun _ => True) (n := t495.length) (c := co24) ?_).2.2; exact (by (with_reducible repeat (first | apply Kd.R_alloc | apply Kd.R_drewN | apply Kd.R_drew)); exact (Kd.R_mono (Kd.R_far (p := ⟨gb507, 1, none⟩) (Kd.R_far (p := ⟨gb507, 0, none⟩) (Kd.R_types HO497.out BK507.out (by decide)) (fun _ hk => hk.2) (.slice Ao28 t500.length co28)) (fun _ hk => hk.2) (.slice Ao32 t503.length co32)) (fun _ _ => trivial)))); (case side4 => exact (Kd.R_reads' HO497.out).2.1); rintro e w34 ⟨v509, v512, rfl, ho0, ho1, hb⟩; refine ⟨_, rfl, ?_⟩; have n0_ := Aside0.mk (Kd.R_below (by (with_reducible repeat (first | apply Kd.R_alloc | apply Kd.R_drewN | apply Kd.R_drew)); exact (Kd.R_mono (Kd.R_far (p := ⟨gb507, 1, none⟩) (Kd.R_far (p := ⟨gb507, 0, none⟩) (Kd.R_types HO484.out BK507.out (by decide)) (fun _ hk => hk.2) (.slice Ao28 t500.length co28)) (fun _ hk => hk.2) (.slice Ao32 t503.length co32)) (fun _ _ => trivial))) hb); have n1_ := Aside0.mk (Kd.R_below (by (with_reducible repeat (first | apply Kd.R_alloc | apply Kd.R_drewN | apply Kd.R_drew)); exact (Kd.R_mono (Kd.R_far (p := ⟨gb507, 1, none⟩) (Kd.R_far (p := ⟨gb507, 0, none⟩) (Kd.R_types HO487.out BK507.out (by decide)) (fun _ hk => hk.2) (.slice Ao28 t500.length co28)) (fun _ hk => hk.2) (.slice Ao32 t503.length co32)) (fun _ _ => trivial))) hb); have n2_ := Aside0.mk (Kd.R_below (by (with_reducible repeat (first | apply Kd.R_alloc | apply Kd.R_drewN | apply Kd.R_drew)); exact (Kd.R_mono (Kd.R_far (p := ⟨gb507, 1, none⟩) (Kd.R_far (p := ⟨gb507, 0, none⟩) (Kd.R_types HO491.out BK507.out (by decide)) (fun _ hk => hk.2) (.slice Ao28 t500.length co28)) (fun _ hk => hk.2) (.slice Ao32 t503.length co32)) (fun _ _ => trivial))) hb); have n3_ := Aside0.mk (Kd.R_below (by (with_reducible repeat (first | apply Kd.R_alloc | apply Kd.R_drewN | apply Kd.R_drew)); exact (Kd.R_mono (Kd.R_far (p := ⟨gb507, 1, none⟩) (Kd.R_far (p := ⟨gb507, 0, none⟩) (Kd.R_types HO494.out BK507.out (by decide)) (fun _ hk => hk.2) (.slice Ao28 t500.length co28)) (fun _ hk => hk.2) (.slice Ao32 t503.length co32)) (fun _ _ => trivial))) hb); have n4_ := Aside0.mk (Kd.R_below (by (with_reducible repeat (first | apply Kd.R_alloc | apply Kd.R_drewN | apply Kd.R_drew)); exact (Kd.R_mono (Kd.R_far (p := ⟨gb507, 1, none⟩) (Kd.R_far (p := ⟨gb507, 0, none⟩) (Kd.R_types HO497.out BK507.out (by decide)) (fun _ hk => hk.2) (.slice Ao28 t500.length co28)) (fun _ hk => hk.2) (.slice Ao32 t503.length co32)) (fun _ _ => trivial))) hb); have n5_ := Aside0.mk (Kd.R_below (by (with_reducible repeat (first | apply Kd.R_alloc | apply Kd.R_drewN | apply Kd.R_drew)); exact (Kd.R_mono (Kd.R_far (p := ⟨gb507, 1, none⟩) (Kd.R_far (p := ⟨gb507, 0, none⟩) (Kd.R_types HO502.out BK507.out (by decide)) (fun _ hk => hk.2) (.slice Ao28 t500.length co28)) (fun _ hk => hk.2) (.slice Ao32 t503.length co32)) (fun _ _ => trivial))) hb); have n6_ := Aside0.mk (Kd.R_below (by (with_reducible repeat (first | apply Kd.R_alloc | apply Kd.R_drewN | apply Kd.R_drew)); exact (Kd.R_mono (Kd.R_far (p := ⟨gb507, 1, none⟩) (Kd.R_far (p := ⟨gb507, 0, none⟩) (Kd.R_types HO505.out BK507.out (by decide)) (fun _ hk => hk.2) (.slice Ao28 t500.length co28)) (fun _ hk => hk.2) (.slice Ao32 t503.length co32)) (fun _ _ => trivial))) hb); have n7_ := Aside0.mk (R_fresh ho0 (below_size (by repeat (first | (with_reducible first | exact HB.out | apply below_alloc | apply pw_below_drewN | apply below_drew1 | refine below_set ?_ GE488.out | refine below_set ?_ GE499.out | refine below_set ?_ GE507.out) | exact HB.out)))); have n8_ := Aside0.mk (R_fresh ho1 (below_size (by repeat (first | (with_reducible first | exact HB.out | apply below_alloc | apply pw_below_drewN | apply below_drew1 | refine below_set ?_ GE488.out | refine below_set ?_ GE499.out | refine below_set ?_ GE507.out) | exact HB.out)))); have n9_ := Aside0.mk (blk_below (g := gb488) (o := .cells #[.slice Ao13 t482.length co13, .slice Ao15 t485.length co15] 33 (0, 0)) (by (with_reducible repeat (first | refine blk_drewN ?_ _ | refine blk_drew ?_ | refine blk_alloc ?_ _)); refine blk_far ?_ NB488_507.out _; (with_reducible repeat (first | refine blk_drewN ?_ _ | refine blk_drew ?_ | refine blk_alloc ?_ _)); refine blk_far ?_ NB488_507.out _; (with_reducible repeat (first | refine blk_drewN ?_ _ | refine blk_drew ?_ | refine blk_alloc ?_ _)); exact BK488.out) hb); have n10_ := Aside0.mk (blk_below (g := gb499) (o := .cells #[.slice Ao21 t492.length co21, .slice Ao24 t495.length co24] 33 (0, 0)) (by (with_reducible repeat (first | refine blk_drewN ?_ _ | refine blk_drew ?_ | refine blk_alloc ?_ _)); refine blk_far ?_ NB499_507.out _; (with_reducible repeat (first | refine blk_drewN ?_ _ | refine blk_drew ?_ | refine blk_alloc ?_ _)); refine blk_far ?_ NB499_507.out _; (with_reducible repeat (first | refine blk_drewN ?_ _ | refine blk_drew ?_ | refine blk_alloc ?_ _)); exact BK499.out) hb); have n11_ := Aside0.mk (blk_below (g := gb507) (o := .cells #[.slice Ao28 t500.length co28, .slice Ao32 t503.length co32] 33 (0, 0)) (by (with_reducible repeat (first | refine blk_drewN ?_ _ | refine blk_drew ?_ | refine blk_alloc ?_ _)); refine blk_put (cs := #[.slice Ao28 t500.length co28, .slice none 0 0]) ?_ 1 _ rfl; (with_reducible repeat (first | refine blk_drewN ?_ _ | refine blk_drew ?_ | refine blk_alloc ?_ _)); refine blk_put (cs := #[.slice none 0 0, .slice none 0 0]) ?_ 0 _ rfl; (with_reducible repeat (first | refine blk_drewN ?_ _ | refine blk_drew ?_ | refine blk_alloc ?_ _)); exact BK507.out) hb); have n12_ := Aside0.mk (below_step (by repeat (first | (with_reducible first | exact HB.out | apply below_alloc | apply pw_below_drewN | apply below_drew1 | refine below_set ?_ GE488.out | refine below_set ?_ GE499.out | refine below_set ?_ GE507.out) | exact HB.out)) hb); clear HO484; clear HO487; clear HO491; clear HO494; clear HO497; clear HO502; clear HO505; clear BK488; clear BK499; clear BK507; clear HB; have HO484 := n0_; have HO487 := n1_; have HO491 := n2_; have HO494 := n3_; have HO497 := n4_; have HO502 := n5_; have HO505 := n6_; have HO510 := n7_; have HO513 := n8_; have BK488 := n9_; have BK499 := n10_; have BK507 := n11_; have HB := n12_; clear n0_ n1_ n2_ n3_ n4_ n5_ n6_ n7_ n8_ n9_ n10_ n11_ n12_; (try clear hb); (try clear hb2); (try clear hk); (try clear hi); (try clear ho0); (try clear ho1)) | ((with_reducible refine gate_dst (N := 10) rfl ?_); (try (refine gate_guard (by rfl) ?_; dsimp only)); refine box_event ?hg (N := 10) ?hd (cs := #[.slice none 0 0, .slice none 0 0]) (t := 33) ?hr ?_; (case hd => rfl); (case hg => rfl); (case hr => first | (go_simp; done) | (go_simp; rfl)); intro gb515 hg w35 hbox hb; have n0_ := Aside0.mk (Kd.R_below (by (with_reducible repeat (first | apply Kd.R_alloc | apply Kd.R_drewN | apply Kd.R_drew)); exact HO484.out) hb); have n1_ := Aside0.mk (Kd.R_below (by (with_reducible repeat (first | apply Kd.R_alloc | apply Kd.R_drewN | apply Kd.R_drew)); exact HO487.out) hb); have n2_ := Aside0.mk (Kd.R_below (by (with_reducible repeat (first | apply Kd.R_alloc | apply Kd.R_drewN | apply Kd.R_drew)); exact HO491.out) hb); have n3_ := Aside0.mk (Kd.R_below (by (with_reducible repeat (first | apply Kd.R_alloc | apply Kd.R_drewN | apply Kd.R_drew)); exact HO494.out) hb); have n4_ := Aside0.mk (Kd.R_below (by (with_reducible repeat (first | apply Kd.R_alloc | apply Kd.R_drewN | apply Kd.R_drew)); exact HO497.out) hb); have n5_ := Aside0.mk (Kd.R_below (by (with_reducible repeat (first | apply Kd.R_alloc | apply Kd.R_drewN | apply Kd.R_drew)); exact HO502.out) hb); have n6_ := Aside0.mk (Kd.R_below (by (with_reducible repeat (first | apply Kd.R_alloc | apply Kd.R_drewN | apply Kd.R_drew)); exact HO505.out) hb); have n7_ := Aside0.mk (Kd.R_below (by (with_reducible repeat (first | apply Kd.R_alloc | apply Kd.R_drewN | apply Kd.R_drew)); exact HO510.out) hb); have n8_ := Aside0.mk (Kd.R_below (by (with_reducible repeat (first | apply Kd.R_alloc | apply Kd.R_drewN | apply Kd.R_drew)); exact HO513.out) hb); have n9_ := Aside0.mk (blk_below (g := gb488) (o := .cells #[.slice Ao13 t482.length co13, .slice Ao15 t485.length co15] 33 (0, 0)) (by (with_reducible repeat (first | refine blk_drewN ?_ _ | refine blk_drew ?_ | refine blk_alloc ?_ _)); exact BK488.out) hb); have n10_ := Aside0.mk (blk_below (g := gb499) (o := .cells #[.slice Ao21 t492.length co21, .slice Ao24 t495.length co24] 33 (0, 0)) (by (with_reducible repeat (first | refine blk_drewN ?_ _ | refine blk_drew ?_ | refine blk_alloc ?_ _)); exact BK499.out) hb); have n11_ := Aside0.mk (blk_below (g := gb507) (o := .cells #[.slice Ao28 t500.length co28, .slice Ao32 t503.length co32] 33 (0, 0)) (by (with_reducible repeat (first | refine blk_drewN ?_ _ | refine blk_drew ?_ | refine blk_alloc ?_ _)); exact BK507.out) hb); have n12_ := Aside0.mk (below_step (by repeat (first | (with_reducible first | exact HB.out | apply below_alloc | apply pw_below_drewN | apply below_drew1 | refine below_set ?_ GE488.out | refine below_set ?_ GE499.out | refine below_set ?_ GE507.out) | exact HB.out)) hb); have n13_ := Aside0.mk (hbox); have n14_ := Aside0.mk ((by rw [hg]; exact (below_size (by repeat (first | (with_reducible first | exact HB.out | apply below_alloc | apply pw_below_drewN | apply below_drew1 | refine below_set ?_ GE488.out | refine below_set ?_ GE499.out | refine below_set ?_ GE507.out) | exact HB.out))) : w.heap.size ≤ gb515)); have n15_ := Aside0.mk ((by rw [hg]; exact (below_size (by repeat (first | (with_reducible first | exact HB.out | apply below_alloc | apply pw_below_drewN | apply below_drew1 | refine below_set ?_ GE488.out | refine below_set ?_ GE499.out | refine below_set ?_ GE507.out) | exact HB.out))) : w.heap.size ≤ gb515)); have n16_ := Aside0.mk ((by rw [hg]; exact Nat.ne_of_lt (blk_lt (g := gb488) (o := .cells #[.slice Ao13 t482.length co13, .slice Ao15 t485.length co15] 33 (0, 0)) (by (with_reducible repeat (first | refine blk_drewN ?_ _ | refine blk_drew ?_ | refine blk_alloc ?_ _)); exact BK488.out)) : gb488 ≠ gb515)); have n17_ := Aside0.mk ((by rw [hg]; exact Nat.ne_of_gt (blk_lt (g := gb488) (o := .cells #[.slice Ao13 t482.length co13, .slice Ao15 t485.length co15] 33 (0, 0)) (by (with_reducible repeat (first | refine blk_drewN ?_ _ | refine blk_drew ?_ | refine blk_alloc ?_ _)); exact BK488.out)) : gb515 ≠ gb488)); have n18_ := Aside0.mk ((by rw [hg]; exact Nat.ne_of_lt (blk_lt (g := gb499) (o := .cells #[.slice Ao21 t492.length co21, .slice Ao24 t495.length co24] 33 (0, 0)) (by (with_reducible repeat (first | refine blk_drewN ?_ _ | refine blk_drew ?_ | refine blk_alloc ?_ _)); exact BK499.out)) : gb499 ≠ gb515)); have n19_ := Aside0.mk ((by rw [hg]; exact Nat.ne_of_gt (blk_lt (g := gb499) (o := .cells #[.slice Ao21 t492.length co21, .slice Ao24 t495.length co24] 33 (0, 0)) (by (with_reducible repeat (first | refine blk_drewN ?_ _ | refine blk_drew ?_ | refine blk_alloc ?_ _)); exact BK499.out)) : gb515 ≠ gb499)); have n20_ := Aside0.mk ((by rw [hg]; exact Nat.ne_of_lt (blk_lt (g := gb507) (o := .cells #[.slice Ao28 t500.length co28, .slice Ao32 t503.length co32] 33 (0, 0)) (by (with_reducible repeat (first | refine blk_drewN ?_ _ | refine blk_drew ?_ | refine blk_alloc ?_ _)); exact BK507.out)) : gb507 ≠ gb515)); have n21_ := Aside0.mk ((by rw [hg]; exact Nat.ne_of_gt (blk_lt (g := gb507) (o := .cells #[.slice Ao28 t500.length co28, .slice Ao32 t503.length co32] 33 (0, 0)) (by (with_reducible repeat (first | refine blk_drewN ?_ _ | refine blk_drew ?_ | refine blk_alloc ?_ _)); exact BK507.out)) : gb515 ≠ gb507)); clear HO484; clear HO487; clear HO491; clear HO494; clear HO497; clear HO502; clear HO505; clear HO510; clear HO513; clear BK488; clear BK499; clear BK507; clear HB; have HO484 := n0_; have HO487 := n1_; have HO491 := n2_; have HO494 := n3_; have HO497 := n4_; have HO502 := n5_; have HO505 := n6_; have HO510 := n7_; have HO513 := n8_; have BK488 := n9_; have BK499 := n10_; have BK507 := n11_; have HB := n12_; have BK515 := n13_; have GW515 := n14_; have GE515 := n15_; have NB488_515 := n16_; have NB515_488 := n17_; have NB499_515 := n18_; have NB515_499 := n19_; have NB507_515 := n20_; have NB515_507 := n21_; clear n0_ n1_ n2_ n3_ n4_ n5_ n6_ n7_ n8_ n9_ n10_ n11_ n12_ n13_ n14_ n15_ n16_ n17_ n18_ n19_ n20_ n21_; clear hb hbox hg; obtain ⟨Ao36, co36, eo36⟩ := Kd.R_slice HO510.out; subst eo36; have hnb37 := NB515_488.out; have hnc37 := NB488_515.out; have hnb38 := NB515_499.out; have hnc38 := NB499_515.out; have hnb39 := NB515_507.out; have hnc39 := NB507_515.out; have hcz40_0 : w35.cell? ⟨gb515, 0, none⟩ = some (.slice none 0 0) := (blk_cell BK515.out 0).trans rfl; have hcz40_1 : w35.cell? ⟨gb515, 1, none⟩ = some (.slice none 0 0) := (blk_cell BK515.out 1).trans rfl; have hfz40_0 := blk_frozen BK515.out 0; have hfz40_1 := blk_frozen BK515.out 1; obtain ⟨Ao41, co41, eo41⟩ := Kd.R_slice HO513.out; subst eo41; have hcz42_0 : w35.cell? ⟨gb507, 0, none⟩ = some (.slice Ao28 t500.length co28) := (blk_cell BK507.out 0).trans rfl; have hcz42_1 : w35.cell? ⟨gb507, 1, none⟩ = some (.slice Ao32 t503.length co32) := (blk_cell BK507.out 1).trans rfl; have hfz42_0 := blk_frozen BK507.out 0; have hfz42_1 := blk_frozen BK507.out 1) | ((with_reducible refine gate_callee (f := 27) rfl ?_); refine goesL_ (some 47) rfl rfl Try.func27 (by kernel_rfl) rfl #[.agg #[.slice Ao28 t500.length co28, .slice Ao32 t503.length co32]] rfl (by (try simp only [List.map_toArray, List.map_cons, List.map_nil]); first | done | rfl | (simp only [List.length_drop, List.length_take]; rfl)) ?_; (with_reducible refine (impl_CanonOf.calls k _ _ t500 _ _ t503 t516 t519 t522 _ ?side1 ?side2 ?side3 ?side4 A8.out).mono ?_); (case side1 => refine (Kd.R_reads' (e := 3) (base := w.heap.size) (ok := fun _ => True) (n := t500.length) (c := co28) ?_).2.2; exact (by (with_reducible repeat (first | apply Kd.R_alloc | apply Kd.R_drewN | apply Kd.R_drew)); exact (Kd.R_mono (Kd.R_far (p := ⟨gb515, 1, none⟩) (Kd.R_far (p := ⟨gb515, 0, none⟩) (Kd.R_types HO502.out BK515.out (by decide)) (fun _ hk => hk.2) (.slice Ao36 t508.length co36)) (fun _ hk => hk.2) (.slice Ao41 t511.length co41)) (fun _ _ => trivial)))); (case side2 => exact (Kd.R_reads' HO502.out).2.1); (case side3 => refine (Kd.R_reads' (e := 3) (base := w.heap.size) (ok := fun _ => True) (n := t503.length) (c := co32) ?_).2.2; exact (by (with_reducible repeat (first | apply Kd.R_alloc | apply Kd.R_drewN | apply Kd.R_drew)); exact (Kd.R_mono (Kd.R_far (p := ⟨gb515, 1, none⟩) (Kd.R_far (p := ⟨gb515, 0, none⟩) (Kd.R_types HO505.out BK515.out (by decide)) (fun _ hk => hk.2) (.slice Ao36 t508.length co36)) (fun _ hk => hk.2) (.slice Ao41 t511.length co41)) (fun _ _ => trivial)))); (case side4 => exact (Kd.R_reads' HO505.out).2.1); rintro e w43 ⟨v517, v520, rfl, ho0, ho1, hb⟩; refine ⟨_, rfl, ?_⟩; have n0_ := Aside0.mk (Kd.R_below (by (with_reducible repeat (first | apply Kd.R_alloc | apply Kd.R_drewN | apply Kd.R_drew)); exact (Kd.R_mono (Kd.R_far (p := ⟨gb515, 1, none⟩) (Kd.R_far (p := ⟨gb515, 0, none⟩) (Kd.R_types HO484.out BK515.out (by decide)) (fun _ hk => hk.2) (.slice Ao36 t508.length co36)) (fun _ hk => hk.2) (.slice Ao41 t511.length co41)) (fun _ _ => trivial))) hb); have n1_ := Aside0.mk (Kd.R_below (by (with_reducible repeat (first | apply Kd.R_alloc | apply Kd.R_drewN | apply Kd.R_drew)); exact (Kd.R_mono (Kd.R_far (p := ⟨gb515, 1, none⟩) (Kd.R_far (p := ⟨gb515, 0, none⟩) (Kd.R_types HO487.out BK515.out (by decide)) (fun _ hk => hk.2) (.slice Ao36 t508.length co36)) (fun _ hk => hk.2) (.slice Ao41 t511.length co41)) (fun _ _ => trivial))) hb); have n2_ := Aside0.mk (Kd.R_below (by (with_reducible repeat (first | apply Kd.R_alloc | apply Kd.R_drewN | apply Kd.R_drew)); exact (Kd.R_mono (Kd.R_far (p := ⟨gb515, 1, none⟩) (Kd.R_far (p := ⟨gb515, 0, none⟩) (Kd.R_types HO491.out BK515.out (by decide)) (fun _ hk => hk.2) (.slice Ao36 t508.length co36)) (fun _ hk => hk.2) (.slice Ao41 t511.length co41)) (fun _ _ => trivial))) hb); have n3_ := Aside0.mk (Kd.R_below (by (with_reducible repeat (first | apply Kd.R_alloc | apply Kd.R_drewN | apply Kd.R_drew)); exact (Kd.R_mono (Kd.R_far (p := ⟨gb515, 1, none⟩) (Kd.R_far (p := ⟨gb515, 0, none⟩) (Kd.R_types HO494.out BK515.out (by decide)) (fun _ hk => hk.2) (.slice Ao36 t508.length co36)) (fun _ hk => hk.2) (.slice Ao41 t511.length co41)) (fun _ _ => trivial))) hb); have n4_ := Aside0.mk (Kd.R_below (by (with_reducible repeat (first | apply Kd.R_alloc | apply Kd.R_drewN | apply Kd.R_drew)); exact (Kd.R_mono (Kd.R_far (p := ⟨gb515, 1, none⟩) (Kd.R_far (p := ⟨gb515, 0, none⟩) (Kd.R_types HO497.out BK515.out (by decide)) (fun _ hk => hk.2) (.slice Ao36 t508.length co36)) (fun _ hk => hk.2) (.slice Ao41 t511.length co41)) (fun _ _ => trivial))) hb); have n5_ := Aside0.mk (Kd.R_below (by (with_reducible repeat (first | apply Kd.R_alloc | apply Kd.R_drewN | apply Kd.R_drew)); exact (Kd.R_mono (Kd.R_far (p := ⟨gb515, 1, none⟩) (Kd.R_far (p := ⟨gb515, 0, none⟩) (Kd.R_types HO502.out BK515.out (by decide)) (fun _ hk => hk.2) (.slice Ao36 t508.length co36)) (fun _ hk => hk.2) (.slice Ao41 t511.length co41)) (fun _ _ => trivial))) hb); have n6_ := Aside0.mk (Kd.R_below (by (with_reducible repeat (first | apply Kd.R_alloc | apply Kd.R_drewN | apply Kd.R_drew)); exact (Kd.R_mono (Kd.R_far (p := ⟨gb515, 1, none⟩) (Kd.R_far (p := ⟨gb515, 0, none⟩) (Kd.R_types HO505.out BK515.out (by decide)) (fun _ hk => hk.2) (.slice Ao36 t508.length co36)) (fun _ hk => hk.2) (.slice Ao41 t511.length co41)) (fun _ _ => trivial))) hb); have n7_ := Aside0.mk (Kd.R_below (by (with_reducible repeat (first | apply Kd.R_alloc | apply Kd.R_drewN | apply Kd.R_drew)); exact (Kd.R_mono (Kd.R_far (p := ⟨gb515, 1, none⟩) (Kd.R_far (p := ⟨gb515, 0, none⟩) (Kd.R_types HO510.out BK515.out (by decide)) (fun _ hk => hk.2) (.slice Ao36 t508.length co36)) (fun _ hk => hk.2) (.slice Ao41 t511.length co41)) (fun _ _ => trivial))) hb); have n8_ := Aside0.mk (Kd.R_below (by (with_reducible repeat (first | apply Kd.R_alloc | apply Kd.R_drewN | apply Kd.R_drew)); exact (Kd.R_mono (Kd.R_far (p := ⟨gb515, 1, none⟩) (Kd.R_far (p := ⟨gb515, 0, none⟩) (Kd.R_types HO513.out BK515.out (by decide)) (fun _ hk => hk.2) (.slice Ao36 t508.length co36)) (fun _ hk => hk.2) (.slice Ao41 t511.length co41)) (fun _ _ => trivial))) hb); have n9_ := Aside0.mk (R_fresh ho0 (below_size (by repeat (first | (with_reducible first | exact HB.out | apply below_alloc | apply pw_below_drewN | apply below_drew1 | refine below_set ?_ GE488.out | refine below_set ?_ GE499.out | refine below_set ?_ GE507.out | refine below_set ?_ GE515.out) | exact HB.out)))); have n10_ := Aside0.mk (R_fresh ho1 (below_size (by repeat (first | (with_reducible first | exact HB.out | apply below_alloc | apply pw_below_drewN | apply below_drew1 | refine below_set ?_ GE488.out | refine below_set ?_ GE499.out | refine below_set ?_ GE507.out | refine below_set ?_ GE515.out) | exact HB.out)))); have n11_ := Aside0.mk (blk_below (g := gb488) (o := .cells #[.slice Ao13 t482.length co13, .slice Ao15 t485.length co15] 33 (0, 0)) (by (with_reducible repeat (first | refine blk_drewN ?_ _ | refine blk_drew ?_ | refine blk_alloc ?_ _)); refine blk_far ?_ NB488_515.out _; (with_reducible repeat (first | refine blk_drewN ?_ _ | refine blk_drew ?_ | refine blk_alloc ?_ _)); refine blk_far ?_ NB488_515.out _; (with_reducible repeat (first | refine blk_drewN ?_ _ | refine blk_drew ?_ | refine blk_alloc ?_ _)); exact BK488.out) hb); have n12_ := Aside0.mk (blk_below (g := gb499) (o := .cells #[.slice Ao21 t492.length co21, .slice Ao24 t495.length co24] 33 (0, 0)) (by (with_reducible repeat (first | refine blk_drewN ?_ _ | refine blk_drew ?_ | refine blk_alloc ?_ _)); refine blk_far ?_ NB499_515.out _; (with_reducible repeat (first | refine blk_drewN ?_ _ | refine blk_drew ?_ | refine blk_alloc ?_ _)); refine blk_far ?_ NB499_515.out _; (with_reducible repeat (first | refine blk_drewN ?_ _ | refine blk_drew ?_ | refine blk_alloc ?_ _)); exact BK499.out) hb); have n13_ := Aside0.mk (blk_below (g := gb507) (o := .cells #[.slice Ao28 t500.length co28, .slice Ao32 t503.length co32] 33 (0, 0)) (by (with_reducible repeat (first | refine blk_drewN ?_ _ | refine blk_drew ?_ | refine blk_alloc ?_ _)); refine blk_far ?_ NB507_515.out _; (with_reducible repeat (first | refine blk_drewN ?_ _ | refine blk_drew ?_ | refine blk_alloc ?_ _)); refine blk_far ?_ NB507_515.out _; (with_reducible repeat (first | refine blk_drewN ?_ _ | refine blk_drew ?_ | refine blk_alloc ?_ _)); exact BK507.out) hb); have n14_ := Aside0.mk (blk_below (g := gb515) (o := .cells #[.slice Ao36 t508.length co36, .slice Ao41 t511.length co41] 33 (0, 0)) (by (with_reducible repeat (first | refine blk_drewN ?_ _ | refine blk_drew ?_ | refine blk_alloc ?_ _)); refine blk_put (cs := #[.slice Ao36 t508.length co36, .slice none 0 0]) ?_ 1 _ rfl; (with_reducible repeat (first | refine blk_drewN ?_ _ | refine blk_drew ?_ | refine blk_alloc ?_ _)); refine blk_put (cs := #[.slice none 0 0, .slice none 0 0]) ?_ 0 _ rfl; (with_reducible repeat (first | refine blk_drewN ?_ _ | refine blk_drew ?_ | refine blk_alloc ?_ _)); exact BK515.out) hb); have n15_ := Aside0.mk (below_step (by repeat (first | (with_reducible first | exact HB.out | apply below_alloc | apply pw_below_drewN | apply below_drew1 | refine below_set ?_ GE488.out | refine below_set ?_ GE499.out | refine below_set ?_ GE507.out | refine below_set ?_ GE515.out) | exact HB.out)) hb); clear HO484; clear HO487; clear HO491; clear HO494; clear HO497; clear HO502; clear HO505; clear HO510; clear HO513; clear BK488; clear BK499; clear BK507; clear BK515; clear HB; have HO484 := n0_; have HO487 := n1_; have HO491 := n2_; have HO494 := n3_; have HO497 := n4_; have HO502 := n5_; have HO505 := n6_; have HO510 := n7_; have HO513 := n8_; have HO518 := n9_; have HO521 := n10_; have BK488 := n11_; have BK499 := n12_; have BK507 := n13_; have BK515 := n14_; have HB := n15_; clear n0_ n1_ n2_ n3_ n4_ n5_ n6_ n7_ n8_ n9_ n10_ n11_ n12_ n13_ n14_ n15_; (try clear hb); (try clear hb2); (try clear hk); (try clear hi); (try clear ho0); (try clear ho1)) | ((with_reducible refine gate_dst (N := 12) rfl ?_); (try (refine gate_guard (by rfl) ?_; dsimp only)); refine box_event ?hg (N := 12) ?hd (cs := #[.slice none 0 0, .slice none 0 0]) (t := 33) ?hr ?_; (case hd => rfl); (case hg => rfl); (case hr => first | (go_simp; done) | (go_simp; rfl)); intro gb523 hg w44 hbox hb; have n0_ := Aside0.mk (Kd.R_below (by (with_reducible repeat (first | apply Kd.R_alloc | apply Kd.R_drewN | apply Kd.R_drew)); exact HO484.out) hb); have n1_ := Aside0.mk (Kd.R_below (by (with_reducible repeat (first | apply Kd.R_alloc | apply Kd.R_drewN | apply Kd.R_drew)); exact HO487.out) hb); have n2_ := Aside0.mk (Kd.R_below (by (with_reducible repeat (first | apply Kd.R_alloc | apply Kd.R_drewN | apply Kd.R_drew)); exact HO491.out) hb); have n3_ := Aside0.mk (Kd.R_below (by (with_reducible repeat (first | apply Kd.R_alloc | apply Kd.R_drewN | apply Kd.R_drew)); exact HO494.out) hb); have n4_ := Aside0.mk (Kd.R_below (by (with_reducible repeat (first | apply Kd.R_alloc | apply Kd.R_drewN | apply Kd.R_drew)); exact HO497.out) hb); have n5_ := Aside0.mk (Kd.R_below (by (with_reducible repeat (first | apply Kd.R_alloc | apply Kd.R_drewN | apply Kd.R_drew)); exact HO502.out) hb); have n6_ := Aside0.mk (Kd.R_below (by (with_reducible repeat (first | apply Kd.R_alloc | apply Kd.R_drewN | apply Kd.R_drew)); exact HO505.out) hb); have n7_ := Aside0.mk (Kd.R_below (by (with_reducible repeat (first | apply Kd.R_alloc | apply Kd.R_drewN | apply Kd.R_drew)); exact HO510.out) hb); have n8_ := Aside0.mk (Kd.R_below (by (with_reducible repeat (first | apply Kd.R_alloc | apply Kd.R_drewN | apply Kd.R_drew)); exact HO513.out) hb); have n9_ := Aside0.mk (Kd.R_below (by (with_reducible repeat (first | apply Kd.R_alloc | apply Kd.R_drewN | apply Kd.R_drew)); exact HO518.out) hb); have n10_ := Aside0.mk (Kd.R_below (by (with_reducible repeat (first | apply Kd.R_alloc | apply Kd.R_drewN | apply Kd.R_drew)); exact HO521.out) hb); have n11_ := Aside0.mk (blk_below (g := gb488) (o := .cells #[.slice Ao13 t482.length co13, .slice Ao15 t485.length co15] 33 (0, 0)) (by (with_reducible repeat (first | refine blk_drewN ?_ _ | refine blk_drew ?_ | refine blk_alloc ?_ _)); exact BK488.out) hb); have n12_ := Aside0.mk (blk_below (g := gb499) (o := .cells #[.slice Ao21 t492.length co21, .slice Ao24 t495.length co24] 33 (0, 0)) (by (with_reducible repeat (first | refine blk_drewN ?_ _ | refine blk_drew ?_ | refine blk_alloc ?_ _)); exact BK499.out) hb); have n13_ := Aside0.mk (blk_below (g := gb507) (o := .cells #[.slice Ao28 t500.length co28, .slice Ao32 t503.length co32] 33 (0, 0)) (by (with_reducible repeat (first | refine blk_drewN ?_ _ | refine blk_drew ?_ | refine blk_alloc ?_ _)); exact BK507.out) hb); have n14_ := Aside0.mk (blk_below (g := gb515) (o := .cells #[.slice Ao36 t508.length co36, .slice Ao41 t511.length co41] 33 (0, 0)) (by (with_reducible repeat (first | refine blk_drewN ?_ _ | refine blk_drew ?_ | refine blk_alloc ?_ _)); exact BK515.out) hb); have n15_ := Aside0.mk (below_step (by repeat (first | (with_reducible first | exact HB.out | apply below_alloc | apply pw_below_drewN | apply below_drew1 | refine below_set ?_ GE488.out | refine below_set ?_ GE499.out | refine below_set ?_ GE507.out | refine below_set ?_ GE515.out) | exact HB.out)) hb); have n16_ := Aside0.mk (hbox); have n17_ := Aside0.mk ((by rw [hg]; exact (below_size (by repeat (first | (with_reducible first | exact HB.out | apply below_alloc | apply pw_below_drewN | apply below_drew1 | refine below_set ?_ GE488.out | refine below_set ?_ GE499.out | refine below_set ?_ GE507.out | refine below_set ?_ GE515.out) | exact HB.out))) : w.heap.size ≤ gb523)); have n18_ := Aside0.mk ((by rw [hg]; exact (below_size (by repeat (first | (with_reducible first | exact HB.out | apply below_alloc | apply pw_below_drewN | apply below_drew1 | refine below_set ?_ GE488.out | refine below_set ?_ GE499.out | refine below_set ?_ GE507.out | refine below_set ?_ GE515.out) | exact HB.out))) : w.heap.size ≤ gb523)); have n19_ := Aside0.mk ((by rw [hg]; exact Nat.ne_of_lt (blk_lt (g := gb488) (o := .cells #[.slice Ao13 t482.length co13, .slice Ao15 t485.length co15] 33 (0, 0)) (by (with_reducible repeat (first | refine blk_drewN ?_ _ | refine blk_drew ?_ | refine blk_alloc ?_ _)); exact BK488.out)) : gb488 ≠ gb523)); have n20_ := Aside0.mk ((by rw [hg]; exact Nat.ne_of_gt (blk_lt (g := gb488) (o := .cells #[.slice Ao13 t482.length co13, .slice Ao15 t485.length co15] 33 (0, 0)) (by (with_reducible repeat (first | refine blk_drewN ?_ _ | refine blk_drew ?_ | refine blk_alloc ?_ _)); exact BK488.out)) : gb523 ≠ gb488)); have n21_ := Aside0.mk ((by rw [hg]; exact Nat.ne_of_lt (blk_lt (g := gb499) (o := .cells #[.slice Ao21 t492.length co21, .slice Ao24 t495.length co24] 33 (0, 0)) (by (with_reducible repeat (first | refine blk_drewN ?_ _ | refine blk_drew ?_ | refine blk_alloc ?_ _)); exact BK499.out)) : gb499 ≠ gb523)); have n22_ := Aside0.mk ((by rw [hg]; exact Nat.ne_of_gt (blk_lt (g := gb499) (o := .cells #[.slice Ao21 t492.length co21, .slice Ao24 t495.length co24] 33 (0, 0)) (by (with_reducible repeat (first | refine blk_drewN ?_ _ | refine blk_drew ?_ | refine blk_alloc ?_ _)); exact BK499.out)) : gb523 ≠ gb499)); have n23_ := Aside0.mk ((by rw [hg]; exact Nat.ne_of_lt (blk_lt (g := gb507) (o := .cells #[.slice Ao28 t500.length co28, .slice Ao32 t503.length co32] 33 (0, 0)) (by (with_reducible repeat (first | refine blk_drewN ?_ _ | refine blk_drew ?_ | refine blk_alloc ?_ _)); exact BK507.out)) : gb507 ≠ gb523)); have n24_ := Aside0.mk ((by rw [hg]; exact Nat.ne_of_gt (blk_lt (g := gb507) (o := .cells #[.slice Ao28 t500.length co28, .slice Ao32 t503.length co32] 33 (0, 0)) (by (with_reducible repeat (first | refine blk_drewN ?_ _ | refine blk_drew ?_ | refine blk_alloc ?_ _)); exact BK507.out)) : gb523 ≠ gb507)); have n25_ := Aside0.mk ((by rw [hg]; exact Nat.ne_of_lt (blk_lt (g := gb515) (o := .cells #[.slice Ao36 t508.length co36, .slice Ao41 t511.length co41] 33 (0, 0)) (by (with_reducible repeat (first | refine blk_drewN ?_ _ | refine blk_drew ?_ | refine blk_alloc ?_ _)); exact BK515.out)) : gb515 ≠ gb523)); have n26_ := Aside0.mk ((by rw [hg]; exact Nat.ne_of_gt (blk_lt (g := gb515) (o := .cells #[.slice Ao36 t508.length co36, .slice Ao41 t511.length co41] 33 (0, 0)) (by (with_reducible repeat (first | refine blk_drewN ?_ _ | refine blk_drew ?_ | refine blk_alloc ?_ _)); exact BK515.out)) : gb523 ≠ gb515)); clear HO484; clear HO487; clear HO491; clear HO494; clear HO497; clear HO502; clear HO505; clear HO510; clear HO513; clear HO518; clear HO521; clear BK488; clear BK499; clear BK507; clear BK515; clear HB; have HO484 := n0_; have HO487 := n1_; have HO491 := n2_; have HO494 := n3_; have HO497 := n4_; have HO502 := n5_; have HO505 := n6_; have HO510 := n7_; have HO513 := n8_; have HO518 := n9_; have HO521 := n10_; have BK488 := n11_; have BK499 := n12_; have BK507 := n13_; have BK515 := n14_; have HB := n15_; have BK523 := n16_; have GW523 := n17_; have GE523 := n18_; have NB488_523 := n19_; have NB523_488 := n20_; have NB499_523 := n21_; have NB523_499 := n22_; have NB507_523 := n23_; have NB523_507 := n24_; have NB515_523 := n25_; have NB523_515 := n26_; clear n0_ n1_ n2_ n3_ n4_ n5_ n6_ n7_ n8_ n9_ n10_ n11_ n12_ n13_ n14_ n15_ n16_ n17_ n18_ n19_ n20_ n21_ n22_ n23_ n24_ n25_ n26_; clear hb hbox hg; obtain ⟨Ao45, co45, eo45⟩ := Kd.R_slice HO518.out; subst eo45; have hnb46 := NB523_488.out; have hnc46 := NB488_523.out; have hnb47 := NB523_499.out; have hnc47 := NB499_523.out; have hnb48 := NB523_507.out; have hnc48 := NB507_523.out; have hnb49 := NB523_515.out; have hnc49 := NB515_523.out; have hcz50_0 : w44.cell? ⟨gb523, 0, none⟩ = some (.slice none 0 0) := (blk_cell BK523.out 0).trans rfl; have hcz50_1 : w44.cell? ⟨gb523, 1, none⟩ = some (.slice none 0 0) := (blk_cell BK523.out 1).trans rfl; have hfz50_0 := blk_frozen BK523.out 0; have hfz50_1 := blk_frozen BK523.out 1; obtain ⟨Ao51, co51, eo51⟩ := Kd.R_slice HO521.out; subst eo51; have hcz52_0 : w44.cell? ⟨gb488, 0, none⟩ = some (.slice Ao13 t482.length co13) := (blk_cell BK488.out 0).trans rfl; have hcz52_1 : w44.cell? ⟨gb488, 1, none⟩ = some (.slice Ao15 t485.length co15) := (blk_cell BK488.out 1).trans rfl; have hfz52_0 := blk_frozen BK488.out 0; have hfz52_1 := blk_frozen BK488.out 1) | ((with_reducible refine gate_callee (f := 28) rfl ?_); refine goesL_ (some 51) rfl rfl Try.func28 (by kernel_rfl) rfl #[.agg #[.slice Ao13 t482.length co13, .slice Ao15 t485.length co15]] rfl (by (try simp only [List.map_toArray, List.map_cons, List.map_nil]); first | done | rfl | (simp only [List.length_drop, List.length_take]; rfl)) ?_; (with_reducible refine (impl_CountSymmetries.calls k _ _ t482 _ _ t485 t524 _ ?side1 ?side2 ?side3 ?side4 A9.out).mono ?_); (case side1 => refine (Kd.R_reads' (e := 3) (base := w.heap.size) (ok := fun _ => True) (n := t482.length) (c := co13) ?_).2.2; exact (by (with_reducible repeat (first | apply Kd.R_alloc | apply Kd.R_drewN | apply Kd.R_drew)); exact (Kd.R_mono (Kd.R_far (p := ⟨gb523, 1, none⟩) (Kd.R_far (p := ⟨gb523, 0, none⟩) (Kd.R_types HO484.out BK523.out (by decide)) (fun _ hk => hk.2) (.slice Ao45 t516.length co45)) (fun _ hk => hk.2) (.slice Ao51 t519.length co51)) (fun _ _ => trivial)))); (case side2 => exact (Kd.R_reads' HO484.out).2.1); (case side3 => refine (Kd.R_reads' (e := 3) (base := w.heap.size) (ok := fun _ => True) (n := t485.length) (c := co15) ?_).2.2; exact (by (with_reducible repeat (first | apply Kd.R_alloc | apply Kd.R_drewN | apply Kd.R_drew)); exact (Kd.R_mono (Kd.R_far (p := ⟨gb523, 1, none⟩) (Kd.R_far (p := ⟨gb523, 0, none⟩) (Kd.R_types HO487.out BK523.out (by decide)) (fun _ hk => hk.2) (.slice Ao45 t516.length co45)) (fun _ hk => hk.2) (.slice Ao51 t519.length co51)) (fun _ _ => trivial)))); (case side4 => exact (Kd.R_reads' HO487.out).2.1); rintro e w53 ⟨rfl, hb⟩; refine ⟨_, rfl, ?_⟩; have n0_ := Aside0.mk (Kd.R_below (by (with_reducible repeat (first | apply Kd.R_alloc | apply Kd.R_drewN | apply Kd.R_drew)); exact (Kd.R_mono (Kd.R_far (p := ⟨gb523, 1, none⟩) (Kd.R_far (p := ⟨gb523, 0, none⟩) (Kd.R_types HO484.out BK523.out (by decide)) (fun _ hk => hk.2) (.slice Ao45 t516.length co45)) (fun _ hk => hk.2) (.slice Ao51 t519.length co51)) (fun _ _ => trivial))) hb); have n1_ := Aside0.mk (Kd.R_below (by (with_reducible repeat (first | apply Kd.R_alloc | apply Kd.R_drewN | apply Kd.R_drew)); exact (Kd.R_mono (Kd.R_far (p := ⟨gb523, 1, none⟩) (Kd.R_far (p := ⟨gb523, 0, none⟩) (Kd.R_types HO487.out BK523.out (by decide)) (fun _ hk => hk.2) (.slice Ao45 t516.length co45)) (fun _ hk => hk.2) (.slice Ao51 t519.length co51)) (fun _ _ => trivial))) hb); have n2_ := Aside0.mk (Kd.R_below (by (with_reducible repeat (first | apply Kd.R_alloc | apply Kd.R_drewN | apply Kd.R_drew)); exact (Kd.R_mono (Kd.R_far (p := ⟨gb523, 1, none⟩) (Kd.R_far (p := ⟨gb523, 0, none⟩) (Kd.R_types HO491.out BK523.out (by decide)) (fun _ hk => hk.2) (.slice Ao45 t516.length co45)) (fun _ hk => hk.2) (.slice Ao51 t519.length co51)) (fun _ _ => trivial))) hb); have n3_ := Aside0.mk (Kd.R_below (by (with_reducible repeat (first | apply Kd.R_alloc | apply Kd.R_drewN | apply Kd.R_drew)); exact (Kd.R_mono (Kd.R_far (p := ⟨gb523, 1, none⟩) (Kd.R_far (p := ⟨gb523, 0, none⟩) (Kd.R_types HO494.out BK523.out (by decide)) (fun _ hk => hk.2) (.slice Ao45 t516.length co45)) (fun _ hk => hk.2) (.slice Ao51 t519.length co51)) (fun _ _ => trivial))) hb); have n4_ := Aside0.mk (Kd.R_below (by (with_reducible repeat (first | apply Kd.R_alloc | apply Kd.R_drewN | apply Kd.R_drew)); exact (Kd.R_mono (Kd.R_far (p := ⟨gb523, 1, none⟩) (Kd.R_far (p := ⟨gb523, 0, none⟩) (Kd.R_types HO497.out BK523.out (by decide)) (fun _ hk => hk.2) (.slice Ao45 t516.length co45)) (fun _ hk => hk.2) (.slice Ao51 t519.length co51)) (fun _ _ => trivial))) hb); have n5_ := Aside0.mk (Kd.R_below (by (with_reducible repeat (first | apply Kd.R_alloc | apply Kd.R_drewN | apply Kd.R_drew)); exact (Kd.R_mono (Kd.R_far (p := ⟨gb523, 1, none⟩) (Kd.R_far (p := ⟨gb523, 0, none⟩) (Kd.R_types HO502.out BK523.out (by decide)) (fun _ hk => hk.2) (.slice Ao45 t516.length co45)) (fun _ hk => hk.2) (.slice Ao51 t519.length co51)) (fun _ _ => trivial))) hb); have n6_ := Aside0.mk (Kd.R_below (by (with_reducible repeat (first | apply Kd.R_alloc | apply Kd.R_drewN | apply Kd.R_drew)); exact (Kd.R_mono (Kd.R_far (p := ⟨gb523, 1, none⟩) (Kd.R_far (p := ⟨gb523, 0, none⟩) (Kd.R_types HO505.out BK523.out (by decide)) (fun _ hk => hk.2) (.slice Ao45 t516.length co45)) (fun _ hk => hk.2) (.slice Ao51 t519.length co51)) (fun _ _ => trivial))) hb); have n7_ := Aside0.mk (Kd.R_below (by (with_reducible repeat (first | apply Kd.R_alloc | apply Kd.R_drewN | apply Kd.R_drew)); exact (Kd.R_mono (Kd.R_far (p := ⟨gb523, 1, none⟩) (Kd.R_far (p := ⟨gb523, 0, none⟩) (Kd.R_types HO510.out BK523.out (by decide)) (fun _ hk => hk.2) (.slice Ao45 t516.length co45)) (fun _ hk => hk.2) (.slice Ao51 t519.length co51)) (fun _ _ => trivial))) hb); have n8_ := Aside0.mk (Kd.R_below (by (with_reducible repeat (first | apply Kd.R_alloc | apply Kd.R_drewN | apply Kd.R_drew)); exact (Kd.R_mono (Kd.R_far (p := ⟨gb523, 1, none⟩) (Kd.R_far (p := ⟨gb523, 0, none⟩) (Kd.R_types HO513.out BK523.out (by decide)) (fun _ hk => hk.2) (.slice Ao45 t516.length co45)) (fun _ hk => hk.2) (.slice Ao51 t519.length co51)) (fun _ _ => trivial))) hb); have n9_ := Aside0.mk (Kd.R_below (by (with_reducible repeat (first | apply Kd.R_alloc | apply Kd.R_drewN | apply Kd.R_drew)); exact (Kd.R_mono (Kd.R_far (p := ⟨gb523, 1, none⟩) (Kd.R_far (p := ⟨gb523, 0, none⟩) (Kd.R_types HO518.out BK523.out (by decide)) (fun _ hk => hk.2) (.slice Ao45 t516.length co45)) (fun _ hk => hk.2) (.slice Ao51 t519.length co51)) (fun _ _ => trivial))) hb); have n10_ := Aside0.mk (Kd.R_below (by (with_reducible repeat (first | apply Kd.R_alloc | apply Kd.R_drewN | apply Kd.R_drew)); exact (Kd.R_mono (Kd.R_far (p := ⟨gb523, 1, none⟩) (Kd.R_far (p := ⟨gb523, 0, none⟩) (Kd.R_types HO521.out BK523.out (by decide)) (fun _ hk => hk.2) (.slice Ao45 t516.length co45)) (fun _ hk => hk.2) (.slice Ao51 t519.length co51)) (fun _ _ => trivial))) hb); have n11_ := Aside0.mk (blk_below (g := gb488) (o := .cells #[.slice Ao13 t482.length co13, .slice Ao15 t485.length co15] 33 (0, 0)) (by (with_reducible repeat (first | refine blk_drewN ?_ _ | refine blk_drew ?_ | refine blk_alloc ?_ _)); refine blk_far ?_ NB488_523.out _; (with_reducible repeat (first | refine blk_drewN ?_ _ | refine blk_drew ?_ | refine blk_alloc ?_ _)); refine blk_far ?_ NB488_523.out _; (with_reducible repeat (first | refine blk_drewN ?_ _ | refine blk_drew ?_ | refine blk_alloc ?_ _)); exact BK488.out) hb); have n12_ := Aside0.mk (blk_below (g := gb499) (o := .cells #[.slice Ao21 t492.length co21, .slice Ao24 t495.length co24] 33 (0, 0)) (by (with_reducible repeat (first | refine blk_drewN ?_ _ | refine blk_drew ?_ | refine blk_alloc ?_ _)); refine blk_far ?_ NB499_523.out _; (with_reducible repeat (first | refine blk_drewN ?_ _ | refine blk_drew ?_ | refine blk_alloc ?_ _)); refine blk_far ?_ NB499_523.out _; (with_reducible repeat (first | refine blk_drewN ?_ _ | refine blk_drew ?_ | refine blk_alloc ?_ _)); exact BK499.out) hb); have n13_ := Aside0.mk (blk_below (g := gb507) (o := .cells #[.slice Ao28 t500.length co28, .slice Ao32 t503.length co32] 33 (0, 0)) (by (with_reducible repeat (first | refine blk_drewN ?_ _ | refine blk_drew ?_ | refine blk_alloc ?_ _)); refine blk_far ?_ NB507_523.out _; (with_reducible repeat (first | refine blk_drewN ?_ _ | refine blk_drew ?_ | refine blk_alloc ?_ _)); refine blk_far ?_ NB507_523.out _; (with_reducible repeat (first | refine blk_drewN ?_ _ | refine blk_drew ?_ | refine blk_alloc ?_ _)); exact BK507.out) hb); have n14_ := Aside0.mk (blk_below (g := gb515) (o := .cells #[.slice Ao36 t508.length co36, .slice Ao41 t511.length co41] 33 (0, 0)) (by (with_reducible repeat (first | refine blk_drewN ?_ _ | refine blk_drew ?_ | refine blk_alloc ?_ _)); refine blk_far ?_ NB515_523.out _; (with_reducible repeat (first | refine blk_drewN ?_ _ | refine blk_drew ?_ | refine blk_alloc ?_ _)); refine blk_far ?_ NB515_523.out _; (with_reducible repeat (first | refine blk_drewN ?_ _ | refine blk_drew ?_ | refine blk_alloc ?_ _)); exact BK515.out) hb); have n15_ := Aside0.mk (blk_below (g := gb523) (o := .cells #[.slice Ao45 t516.length co45, .slice Ao51 t519.length co51] 33 (0, 0)) (by (with_reducible repeat (first | refine blk_drewN ?_ _ | refine blk_drew ?_ | refine blk_alloc ?_ _)); refine blk_put (cs := #[.slice Ao45 t516.length co45, .slice none 0 0]) ?_ 1 _ rfl; (with_reducible repeat (first | refine blk_drewN ?_ _ | refine blk_drew ?_ | refine blk_alloc ?_ _)); refine blk_put (cs := #[.slice none 0 0, .slice none 0 0]) ?_ 0 _ rfl; (with_reducible repeat (first | refine blk_drewN ?_ _ | refine blk_drew ?_ | refine blk_alloc ?_ _)); exact BK523.out) hb); have n16_ := Aside0.mk (below_step (by repeat (first | (with_reducible first | exact HB.out | apply below_alloc | apply pw_below_drewN | apply below_drew1 | refine below_set ?_ GE488.out | refine below_set ?_ GE499.out | refine below_set ?_ GE507.out | refine below_set ?_ GE515.out | refine below_set ?_ GE523.out) | exact HB.out)) hb); clear HO484; clear HO487; clear HO491; clear HO494; clear HO497; clear HO502; clear HO505; clear HO510; clear HO513; clear HO518; clear HO521; clear BK488; clear BK499; clear BK507; clear BK515; clear BK523; clear HB; have HO484 := n0_; have HO487 := n1_; have HO491 := n2_; have HO494 := n3_; have HO497 := n4_; have HO502 := n5_; have HO505 := n6_; have HO510 := n7_; have HO513 := n8_; have HO518 := n9_; have HO521 := n10_; have BK488 := n11_; have BK499 := n12_; have BK507 := n13_; have BK515 := n14_; have BK523 := n15_; have HB := n16_; clear n0_ n1_ n2_ n3_ n4_ n5_ n6_ n7_ n8_ n9_ n10_ n11_ n12_ n13_ n14_ n15_ n16_; (try clear hb); (try clear hb2); (try clear hk); (try clear hi)))
  (try simp only [Act.put, List.setIfInBounds_toArray, List.set_cons_zero, List.set_cons_succ])
  go_cut [99] (fun v99 wc => ∃ (kq : Nat) (x99_9 : Bool), v99 = .bool x99_9 ∧ Aside0 (laws_FnCanon.j0 kq l0 (t482.length : Int) x99_9 t482 t485 = some true) ∧ Aside0 (kq ≤ k) ∧ Aside0 (Kd.R (Kd.int .i64) 3 wc w.heap.size (fun _ => True) (.slice Ao13 t482.length co13) t482) ∧ Aside0 (Kd.R (Kd.int .i64) 3 wc w.heap.size (fun _ => True) (.slice Ao15 t485.length co15) t485) ∧ Aside0 (Kd.R (Kd.int .i64) 3 wc w.heap.size (fun _ => True) (.slice Ao21 t492.length co21) t492) ∧ Aside0 (Kd.R (Kd.int .i64) 3 wc w.heap.size (fun _ => True) (.slice Ao24 t495.length co24) t495) ∧ Aside0 (Kd.R (Kd.int .i64) 3 wc w.heap.size (fun _ => True) (.slice Ao28 t500.length co28) t500) ∧ Aside0 (Kd.R (Kd.int .i64) 3 wc w.heap.size (fun _ => True) (.slice Ao32 t503.length co32) t503) ∧ Aside0 (Kd.R (Kd.int .i64) 3 wc w.heap.size (fun _ => True) (.slice Ao36 t508.length co36) t508) ∧ Aside0 (Kd.R (Kd.int .i64) 3 wc w.heap.size (fun _ => True) (.slice Ao41 t511.length co41) t511) ∧ Aside0 (Kd.R (Kd.int .i64) 3 wc w.heap.size (fun _ => True) (.slice Ao45 t516.length co45) t516) ∧ Aside0 (Kd.R (Kd.int .i64) 3 wc w.heap.size (fun _ => True) (.slice Ao51 t519.length co51) t519) ∧ Aside0 (wc.heap[gb488]? = some (.cells #[(.slice Ao13 t482.length co13), (.slice Ao15 t485.length co15)] 33 (0, 0))) ∧ Aside0 (wc.heap[gb499]? = some (.cells #[(.slice Ao21 t492.length co21), (.slice Ao24 t495.length co24)] 33 (0, 0))) ∧ Aside0 (wc.heap[gb507]? = some (.cells #[(.slice Ao28 t500.length co28), (.slice Ao32 t503.length co32)] 33 (0, 0))) ∧ Aside0 (wc.heap[gb515]? = some (.cells #[(.slice Ao36 t508.length co36), (.slice Ao41 t511.length co41)] 33 (0, 0))) ∧ Aside0 (wc.heap[gb523]? = some (.cells #[(.slice Ao45 t516.length co45), (.slice Ao51 t519.length co51)] 33 (0, 0))) ∧ Aside0 (Below w.heap.size w wc))
  case first =>
   have H := HC10.out
   clear HC10
   by_cases c54 : t498 = true
   ·subst c54
    have H1 : (if t506 = true then (if t514 = true then (if t522 = true then ((impl_SameSurface.f k t500 t503 t508 t511).bind fun t525 => (if t525 = true then ((impl_SameSurface.f k t500 t503 t516 t519).bind fun t526 => (if t526 = true then ((impl_AreIsomorphic.f k t482 t485 t492 t495).bind fun t527 => (if t527 = true then (if t524 < 1 then (laws_FnCanon.j0 k l0 (t482.length : Int) true t482 t485) else (if t524 = 0 then (none) else (if ((t482.length : Int) % t524) = 0 then ((impl_CountSymmetries.f k t492 t495).bind fun t528 => (laws_FnCanon.j0 k l0 (t482.length : Int) (t524 != t528) t482 t485)) else (laws_FnCanon.j0 k l0 (t482.length : Int) true t482 t485)))) else (laws_FnCanon.j0 k l0 (t482.length : Int) true t482 t485))) else (laws_FnCanon.j0 k l0 (t482.length : Int) true t482 t485))) else (laws_FnCanon.j0 k l0 (t482.length : Int) true t482 t485))) else (laws_FnCanon.j0 k l0 (t482.length : Int) true t482 t485)) else (laws_FnCanon.j0 k l0 (t482.length : Int) true t482 t485)) else (laws_FnCanon.j0 k l0 (t482.length : Int) true t482 t485)) = some true := by rw [if_pos rfl] at H; exact H
    clear H
    have H := H1
    clear H1
    by_cases c55 : t506 = true
    ·subst c55
     have H1 : (if t514 = true then (if t522 = true then ((impl_SameSurface.f k t500 t503 t508 t511).bind fun t525 => (if t525 = true then ((impl_SameSurface.f k t500 t503 t516 t519).bind fun t526 => (if t526 = true then ((impl_AreIsomorphic.f k t482 t485 t492 t495).bind fun t527 => (if t527 = true then (if t524 < 1 then (laws_FnCanon.j0 k l0 (t482.length : Int) true t482 t485) else (if t524 = 0 then (none) else (if ((t482.length : Int) % t524) = 0 then ((impl_CountSymmetries.f k t492 t495).bind fun t528 => (laws_FnCanon.j0 k l0 (t482.length : Int) (t524 != t528) t482 t485)) else (laws_FnCanon.j0 k l0 (t482.length : Int) true t482 t485)))) else (laws_FnCanon.j0 k l0 (t482.length : Int) true t482 t485))) else (laws_FnCanon.j0 k l0 (t482.length : Int) true t482 t485))) else (laws_FnCanon.j0 k l0 (t482.length : Int) true t482 t485))) else (laws_FnCanon.j0 k l0 (t482.length : Int) true t482 t485)) else (laws_FnCanon.j0 k l0 (t482.length : Int) true t482 t485)) = some true := by rw [if_pos rfl] at H; exact H
     clear H
     have H := H1
     clear H1
     by_cases c56 : t514 = true
     ·subst c56
      have H1 : (if t522 = true then ((impl_SameSurface.f k t500 t503 t508 t511).bind fun t525 => (if t525 = true then ((impl_SameSurface.f k t500 t503 t516 t519).bind fun t526 => (if t526 = true then ((impl_AreIsomorphic.f k t482 t485 t492 t495).bind fun t527 => (if t527 = true then (if t524 < 1 then (laws_FnCanon.j0 k l0 (t482.length : Int) true t482 t485) else (if t524 = 0 then (none) else (if ((t482.length : Int) % t524) = 0 then ((impl_CountSymmetries.f k t492 t495).bind fun t528 => (laws_FnCanon.j0 k l0 (t482.length : Int) (t524 != t528) t482 t485)) else (laws_FnCanon.j0 k l0 (t482.length : Int) true t482 t485)))) else (laws_FnCanon.j0 k l0 (t482.length : Int) true t482 t485))) else (laws_FnCanon.j0 k l0 (t482.length : Int) true t482 t485))) else (laws_FnCanon.j0 k l0 (t482.length : Int) true t482 t485))) else (laws_FnCanon.j0 k l0 (t482.length : Int) true t482 t485)) = some true := by rw [if_pos rfl] at H; exact H
      clear H
      have H := H1
      clear H1
      by_cases c57 : t522 = true
      ·subst c57
       have H1 : ((impl_SameSurface.f k t500 t503 t508 t511).bind fun t525 => (if t525 = true then ((impl_SameSurface.f k t500 t503 t516 t519).bind fun t526 => (if t526 = true then ((impl_AreIsomorphic.f k t482 t485 t492 t495).bind fun t527 => (if t527 = true then (if t524 < 1 then (laws_FnCanon.j0 k l0 (t482.length : Int) true t482 t485) else (if t524 = 0 then (none) else (if ((t482.length : Int) % t524) = 0 then ((impl_CountSymmetries.f k t492 t495).bind fun t528 => (laws_FnCanon.j0 k l0 (t482.length : Int) (t524 != t528) t482 t485)) else (laws_FnCanon.j0 k l0 (t482.length : Int) true t482 t485)))) else (laws_FnCanon.j0 k l0 (t482.length : Int) true t482 t485))) else (laws_FnCanon.j0 k l0 (t482.length : Int) true t482 t485))) else (laws_FnCanon.j0 k l0 (t482.length : Int) true t482 t485))) = some true := by rw [if_pos rfl] at H; exact H
       clear H
       have H := H1
       clear H1
       replace H := Option.bind_eq_some_iff.mp H
       obtain ⟨t525, A580, H⟩ := H
       replace H : (if t525 = true then ((impl_SameSurface.f k t500 t503 t516 t519).bind fun t526 => (if t526 = true then ((impl_AreIsomorphic.f k t482 t485 t492 t495).bind fun t527 => (if t527 = true then (if t524 < 1 then (laws_FnCanon.j0 k l0 (t482.length : Int) true t482 t485) else (if t524 = 0 then (none) else (if ((t482.length : Int) % t524) = 0 then ((impl_CountSymmetries.f k t492 t495).bind fun t528 => (laws_FnCanon.j0 k l0 (t482.length : Int) (t524 != t528) t482 t485)) else (laws_FnCanon.j0 k l0 (t482.length : Int) true t482 t485)))) else (laws_FnCanon.j0 k l0 (t482.length : Int) true t482 t485))) else (laws_FnCanon.j0 k l0 (t482.length : Int) true t482 t485))) else (laws_FnCanon.j0 k l0 (t482.length : Int) true t482 t485)) = some true := H
       have A58 := Aside0.mk A580
       clear A580
       by_cases c59 : t525 = true
       ·subst c59
        have H1 : ((impl_SameSurface.f k t500 t503 t516 t519).bind fun t526 => (if t526 = true then ((impl_AreIsomorphic.f k t482 t485 t492 t495).bind fun t527 => (if t527 = true then (if t524 < 1 then (laws_FnCanon.j0 k l0 (t482.length : Int) true t482 t485) else (if t524 = 0 then (none) else (if ((t482.length : Int) % t524) = 0 then ((impl_CountSymmetries.f k t492 t495).bind fun t528 => (laws_FnCanon.j0 k l0 (t482.length : Int) (t524 != t528) t482 t485)) else (laws_FnCanon.j0 k l0 (t482.length : Int) true t482 t485)))) else (laws_FnCanon.j0 k l0 (t482.length : Int) true t482 t485))) else (laws_FnCanon.j0 k l0 (t482.length : Int) true t482 t485))) = some true := by rw [if_pos rfl] at H; exact H
        clear H
        have H := H1
        clear H1
        replace H := Option.bind_eq_some_iff.mp H
        obtain ⟨t526, A600, H⟩ := H
        replace H : (if t526 = true then ((impl_AreIsomorphic.f k t482 t485 t492 t495).bind fun t527 => (if t527 = true then (if t524 < 1 then (laws_FnCanon.j0 k l0 (t482.length : Int) true t482 t485) else (if t524 = 0 then (none) else (if ((t482.length : Int) % t524) = 0 then ((impl_CountSymmetries.f k t492 t495).bind fun t528 => (laws_FnCanon.j0 k l0 (t482.length : Int) (t524 != t528) t482 t485)) else (laws_FnCanon.j0 k l0 (t482.length : Int) true t482 t485)))) else (laws_FnCanon.j0 k l0 (t482.length : Int) true t482 t485))) else (laws_FnCanon.j0 k l0 (t482.length : Int) true t482 t485)) = some true := H
        have A60 := Aside0.mk A600
        clear A600
        by_cases c61 : t526 = true
        ·subst c61
         have H1 : ((impl_AreIsomorphic.f k t482 t485 t492 t495).bind fun t527 => (if t527 = true then (if t524 < 1 then (laws_FnCanon.j0 k l0 (t482.length : Int) true t482 t485) else (if t524 = 0 then (none) else (if ((t482.length : Int) % t524) = 0 then ((impl_CountSymmetries.f k t492 t495).bind fun t528 => (laws_FnCanon.j0 k l0 (t482.length : Int) (t524 != t528) t482 t485)) else (laws_FnCanon.j0 k l0 (t482.length : Int) true t482 t485)))) else (laws_FnCanon.j0 k l0 (t482.length : Int) true t482 t485))) = some true := by rw [if_pos rfl] at H; exact H
         clear H
         have H := H1
         clear H1
         replace H := Option.bind_eq_some_iff.mp H
         obtain ⟨t527, A620, H⟩ := H
         replace H : (if t527 = true then (if t524 < 1 then (laws_FnCanon.j0 k l0 (t482.length : Int) true t482 t485) else (if t524 = 0 then (none) else (if ((t482.length : Int) % t524) = 0 then ((impl_CountSymmetries.f k t492 t495).bind fun t528 => (laws_FnCanon.j0 k l0 (t482.length : Int) (t524 != t528) t482 t485)) else (laws_FnCanon.j0 k l0 (t482.length : Int) true t482 t485)))) else (laws_FnCanon.j0 k l0 (t482.length : Int) true t482 t485)) = some true := H
         have A62 := Aside0.mk A620
         clear A620
         by_cases c63 : t527 = true
         ·subst c63
          have H1 : (if t524 < 1 then (laws_FnCanon.j0 k l0 (t482.length : Int) true t482 t485) else (if t524 = 0 then (none) else (if ((t482.length : Int) % t524) = 0 then ((impl_CountSymmetries.f k t492 t495).bind fun t528 => (laws_FnCanon.j0 k l0 (t482.length : Int) (t524 != t528) t482 t485)) else (laws_FnCanon.j0 k l0 (t482.length : Int) true t482 t485)))) = some true := by rw [if_pos rfl] at H; exact H
          clear H
          have H := H1
          clear H1
          by_cases c64 : t524 < 1
          ·rw [if_pos c64] at H
           have c64b0 : decide (t524 < 1) = true := decide_eq_true c64
           clear c64
           (first | rw [c64b0] | (simp only [i64_w, i32_w]; rw [c64b0]) | skip)
           cases k with
           | zero => rw [laws_FnCanon.j0] at H; exact absurd H (by simp)
           | succ k_ => rw [laws_FnCanon.j0, if_pos rfl] at H; exact absurd H (by simp)
          ·rw [if_neg c64] at H
           have c64b0 : decide (t524 < 1) = false := decide_eq_false c64
           clear c64
           (first | rw [c64b0] | (simp only [i64_w, i32_w]; rw [c64b0]) | skip)
           by_cases c84 : t524 = 0
           ·rw [if_pos c84] at H
            exact absurd H (by simp)
           ·rw [if_neg c84] at H
            have c84b0 : (t524 == 0) = false := beq_eq_false_iff_ne.mpr c84
            have c84b1 : (t524 != 0) = true := bne_iff_ne.mpr c84
            by_cases c85 : ((t482.length : Int) % t524) = 0
            ·rw [if_pos c85] at H
             have c85b0 : (((t482.length : Int) % t524) == 0) = true := beq_iff_eq.mpr c85
             have c85b1 : (((t482.length : Int) % t524) != 0) = false := bne_eq_false_iff_eq.mpr c85
             clear c85
             replace H := Option.bind_eq_some_iff.mp H
             obtain ⟨t528, A860, H⟩ := H
             replace H : (laws_FnCanon.j0 k l0 (t482.length : Int) (t524 != t528) t482 t485) = some true := H
             have A86 := Aside0.mk A860
             clear A860
             have H' := Aside0.mk H
             clear H
             have hnb87 := NB507_488.out
             have hnc87 := NB488_507.out
             have hnb88 := NB507_499.out
             have hnc88 := NB499_507.out
             have hnb89 := NB507_515.out
             have hnc89 := NB515_507.out
             have hnb90 := NB507_523.out
             have hnc90 := NB523_507.out
             have hcz91_0 : w53.cell? ⟨gb507, 0, none⟩ = some (.slice Ao28 t500.length co28) := (blk_cell BK507.out 0).trans rfl
             have hcz91_1 : w53.cell? ⟨gb507, 1, none⟩ = some (.slice Ao32 t503.length co32) := (blk_cell BK507.out 1).trans rfl
             have hfz91_0 := blk_frozen BK507.out 0
             have hfz91_1 := blk_frozen BK507.out 1
             have hnb92 := NB515_488.out
             have hnc92 := NB488_515.out
             have hnb93 := NB515_499.out
             have hnc93 := NB499_515.out
             have hnb94 := NB515_523.out
             have hnc94 := NB523_515.out
             have hcz95_0 : w53.cell? ⟨gb515, 0, none⟩ = some (.slice Ao36 t508.length co36) := (blk_cell BK515.out 0).trans rfl
             have hcz95_1 : w53.cell? ⟨gb515, 1, none⟩ = some (.slice Ao41 t511.length co41) := (blk_cell BK515.out 1).trans rfl
             have hfz95_0 := blk_frozen BK515.out 0
             have hfz95_1 := blk_frozen BK515.out 1
             go_wp2_with (first | (go_at_call 29; (with_reducible refine (impl_SameSurface.calls k _ _ t500 _ _ t503 _ _ t508 _ _ t511 true _ ?side1 ?side2 ?side3 ?side4 ?side5 ?side6 ?side7 ?side8 A58.out).mono ?_); (case side1 => repeat (first | exact (Kd.R_reads' HO502.out).2.2 | (with_reducible refine Kd.C_alloc ?_ _) | (with_reducible refine Kd.C_drewN ?_ _) | (with_reducible refine Kd.C_drew ?_))); (case side2 => exact (Kd.R_reads' HO502.out).2.1); (case side3 => repeat (first | exact (Kd.R_reads' HO505.out).2.2 | (with_reducible refine Kd.C_alloc ?_ _) | (with_reducible refine Kd.C_drewN ?_ _) | (with_reducible refine Kd.C_drew ?_))); (case side4 => exact (Kd.R_reads' HO505.out).2.1); (case side5 => repeat (first | exact (Kd.R_reads' HO510.out).2.2 | (with_reducible refine Kd.C_alloc ?_ _) | (with_reducible refine Kd.C_drewN ?_ _) | (with_reducible refine Kd.C_drew ?_))); (case side6 => exact (Kd.R_reads' HO510.out).2.1); (case side7 => repeat (first | exact (Kd.R_reads' HO513.out).2.2 | (with_reducible refine Kd.C_alloc ?_ _) | (with_reducible refine Kd.C_drewN ?_ _) | (with_reducible refine Kd.C_drew ?_))); (case side8 => exact (Kd.R_reads' HO513.out).2.1); rintro e w96 ⟨rfl, hb⟩; have n0_ := Aside0.mk (Kd.R_below (HO484.out) hb); have n1_ := Aside0.mk (Kd.R_below (HO487.out) hb); have n3_ := Aside0.mk (Kd.R_below (HO494.out) hb); have n4_ := Aside0.mk (Kd.R_below (HO497.out) hb); have n5_ := Aside0.mk (Kd.R_below (HO502.out) hb); have n6_ := Aside0.mk (Kd.R_below (HO505.out) hb); have n7_ := Aside0.mk (Kd.R_below (HO510.out) hb); have n8_ := Aside0.mk (Kd.R_below (HO513.out) hb); have n9_ := Aside0.mk (Kd.R_below (HO518.out) hb); have n10_ := Aside0.mk (Kd.R_below (HO521.out) hb); have n11_ := Aside0.mk (blk_below (g := gb488) (o := .cells #[.slice Ao13 t482.length co13, .slice Ao15 t485.length co15] 33 (0, 0)) (BK488.out) hb); have n12_ := Aside0.mk (blk_below (g := gb499) (o := .cells #[.slice Ao21 t492.length co21, .slice Ao24 t495.length co24] 33 (0, 0)) (BK499.out) hb); have n13_ := Aside0.mk (blk_below (g := gb507) (o := .cells #[.slice Ao28 t500.length co28, .slice Ao32 t503.length co32] 33 (0, 0)) (BK507.out) hb); have n14_ := Aside0.mk (blk_below (g := gb515) (o := .cells #[.slice Ao36 t508.length co36, .slice Ao41 t511.length co41] 33 (0, 0)) (BK515.out) hb); have n15_ := Aside0.mk (blk_below (g := gb523) (o := .cells #[.slice Ao45 t516.length co45, .slice Ao51 t519.length co51] 33 (0, 0)) (BK523.out) hb); have n16_ := Aside0.mk (below_step (HB.out) hb); clear HO484; clear HO487; clear HO491; clear HO494; clear HO497; clear HO502; clear HO505; clear HO510; clear HO513; clear HO518; clear HO521; clear BK488; clear BK499; clear BK507; clear BK515; clear BK523; clear HB; have HO484 := n0_; have HO487 := n1_; have HO494 := n3_; have HO497 := n4_; have HO502 := n5_; have HO505 := n6_; have HO510 := n7_; have HO513 := n8_; have HO518 := n9_; have HO521 := n10_; have BK488 := n11_; have BK499 := n12_; have BK507 := n13_; have BK515 := n14_; have BK523 := n15_; have HB := n16_; clear n0_ n1_ n3_ n4_ n5_ n6_ n7_ n8_ n9_ n10_ n11_ n12_ n13_ n14_ n15_ n16_; (try clear hb); (try clear hb2); (try clear hk); (try clear hi); have hcz97_0 : w96.cell? ⟨gb507, 0, none⟩ = some (.slice Ao28 t500.length co28) := (blk_cell BK507.out 0).trans rfl; have hcz97_1 : w96.cell? ⟨gb507, 1, none⟩ = some (.slice Ao32 t503.length co32) := (blk_cell BK507.out 1).trans rfl; have hfz97_0 := blk_frozen BK507.out 0; have hfz97_1 := blk_frozen BK507.out 1; have hnb98 := NB523_488.out; have hnc98 := NB488_523.out; have hnb99 := NB523_499.out; have hnc99 := NB499_523.out; have hcz100_0 : w96.cell? ⟨gb523, 0, none⟩ = some (.slice Ao45 t516.length co45) := (blk_cell BK523.out 0).trans rfl; have hcz100_1 : w96.cell? ⟨gb523, 1, none⟩ = some (.slice Ao51 t519.length co51) := (blk_cell BK523.out 1).trans rfl; have hfz100_0 := blk_frozen BK523.out 0; have hfz100_1 := blk_frozen BK523.out 1) | (go_at_call 29; (with_reducible refine (impl_SameSurface.calls k _ _ t500 _ _ t503 _ _ t516 _ _ t519 true _ ?side1 ?side2 ?side3 ?side4 ?side5 ?side6 ?side7 ?side8 A60.out).mono ?_); (case side1 => repeat (first | exact (Kd.R_reads' HO502.out).2.2 | (with_reducible refine Kd.C_alloc ?_ _) | (with_reducible refine Kd.C_drewN ?_ _) | (with_reducible refine Kd.C_drew ?_))); (case side2 => exact (Kd.R_reads' HO502.out).2.1); (case side3 => repeat (first | exact (Kd.R_reads' HO505.out).2.2 | (with_reducible refine Kd.C_alloc ?_ _) | (with_reducible refine Kd.C_drewN ?_ _) | (with_reducible refine Kd.C_drew ?_))); (case side4 => exact (Kd.R_reads' HO505.out).2.1); (case side5 => repeat (first | exact (Kd.R_reads' HO518.out).2.2 | (with_reducible refine Kd.C_alloc ?_ _) | (with_reducible refine Kd.C_drewN ?_ _) | (with_reducible refine Kd.C_drew ?_))); (case side6 => exact (Kd.R_reads' HO518.out).2.1); (case side7 => repeat (first | exact (Kd.R_reads' HO521.out).2.2 | (with_reducible refine Kd.C_alloc ?_ _) | (with_reducible refine Kd.C_drewN ?_ _) | (with_reducible refine Kd.C_drew ?_))); (case side8 => exact (Kd.R_reads' HO521.out).2.1); rintro e w101 ⟨rfl, hb⟩; have n0_ := Aside0.mk (Kd.R_below (HO484.out) hb); have n1_ := Aside0.mk (Kd.R_below (HO487.out) hb); have n3_ := Aside0.mk (Kd.R_below (HO494.out) hb); have n4_ := Aside0.mk (Kd.R_below (HO497.out) hb); have n5_ := Aside0.mk (Kd.R_below (HO502.out) hb); have n6_ := Aside0.mk (Kd.R_below (HO505.out) hb); have n7_ := Aside0.mk (Kd.R_below (HO510.out) hb); have n8_ := Aside0.mk (Kd.R_below (HO513.out) hb); have n9_ := Aside0.mk (Kd.R_below (HO518.out) hb); have n10_ := Aside0.mk (Kd.R_below (HO521.out) hb); have n11_ := Aside0.mk (blk_below (g := gb488) (o := .cells #[.slice Ao13 t482.length co13, .slice Ao15 t485.length co15] 33 (0, 0)) (BK488.out) hb); have n12_ := Aside0.mk (blk_below (g := gb499) (o := .cells #[.slice Ao21 t492.length co21, .slice Ao24 t495.length co24] 33 (0, 0)) (BK499.out) hb); have n13_ := Aside0.mk (blk_below (g := gb507) (o := .cells #[.slice Ao28 t500.length co28, .slice Ao32 t503.length co32] 33 (0, 0)) (BK507.out) hb); have n14_ := Aside0.mk (blk_below (g := gb515) (o := .cells #[.slice Ao36 t508.length co36, .slice Ao41 t511.length co41] 33 (0, 0)) (BK515.out) hb); have n15_ := Aside0.mk (blk_below (g := gb523) (o := .cells #[.slice Ao45 t516.length co45, .slice Ao51 t519.length co51] 33 (0, 0)) (BK523.out) hb); have n16_ := Aside0.mk (below_step (HB.out) hb); clear HO484; clear HO487; clear HO494; clear HO497; clear HO502; clear HO505; clear HO510; clear HO513; clear HO518; clear HO521; clear BK488; clear BK499; clear BK507; clear BK515; clear BK523; clear HB; have HO484 := n0_; have HO487 := n1_; have HO494 := n3_; have HO497 := n4_; have HO502 := n5_; have HO505 := n6_; have HO510 := n7_; have HO513 := n8_; have HO518 := n9_; have HO521 := n10_; have BK488 := n11_; have BK499 := n12_; have BK507 := n13_; have BK515 := n14_; have BK523 := n15_; have HB := n16_; clear n0_ n1_ n3_ n4_ n5_ n6_ n7_ n8_ n9_ n10_ n11_ n12_ n13_ n14_ n15_ n16_; (try clear hb); (try clear hb2); (try clear hk); (try clear hi); have hnb102 := NB488_499.out; have hnc102 := NB499_488.out; have hcz103_0 : w101.cell? ⟨gb488, 0, none⟩ = some (.slice Ao13 t482.length co13) := (blk_cell BK488.out 0).trans rfl; have hcz103_1 : w101.cell? ⟨gb488, 1, none⟩ = some (.slice Ao15 t485.length co15) := (blk_cell BK488.out 1).trans rfl; have hfz103_0 := blk_frozen BK488.out 0; have hfz103_1 := blk_frozen BK488.out 1; have hcz104_0 : w101.cell? ⟨gb499, 0, none⟩ = some (.slice Ao21 t492.length co21) := (blk_cell BK499.out 0).trans rfl; have hcz104_1 : w101.cell? ⟨gb499, 1, none⟩ = some (.slice Ao24 t495.length co24) := (blk_cell BK499.out 1).trans rfl; have hfz104_0 := blk_frozen BK499.out 0; have hfz104_1 := blk_frozen BK499.out 1) | (go_at_call 30; (with_reducible refine (impl_AreIsomorphic.calls k _ _ t482 _ _ t485 _ _ t492 _ _ t495 true _ ?side1 ?side2 ?side3 ?side4 ?side5 ?side6 ?side7 ?side8 A62.out).mono ?_); (case side1 => repeat (first | exact (Kd.R_reads' HO484.out).2.2 | (with_reducible refine Kd.C_alloc ?_ _) | (with_reducible refine Kd.C_drewN ?_ _) | (with_reducible refine Kd.C_drew ?_))); (case side2 => exact (Kd.R_reads' HO484.out).2.1); (case side3 => repeat (first | exact (Kd.R_reads' HO487.out).2.2 | (with_reducible refine Kd.C_alloc ?_ _) | (with_reducible refine Kd.C_drewN ?_ _) | (with_reducible refine Kd.C_drew ?_))); (case side4 => exact (Kd.R_reads' HO487.out).2.1); (case side5 => repeat (first | exact (Kd.R_reads' HO494.out).2.2 | (with_reducible refine Kd.C_alloc ?_ _) | (with_reducible refine Kd.C_drewN ?_ _) | (with_reducible refine Kd.C_drew ?_))); (case side6 => exact (Kd.R_reads' HO494.out).2.1); (case side7 => repeat (first | exact (Kd.R_reads' HO497.out).2.2 | (with_reducible refine Kd.C_alloc ?_ _) | (with_reducible refine Kd.C_drewN ?_ _) | (with_reducible refine Kd.C_drew ?_))); (case side8 => exact (Kd.R_reads' HO497.out).2.1); rintro e w105 ⟨rfl, hb⟩; have n0_ := Aside0.mk (Kd.R_below (HO484.out) hb); have n1_ := Aside0.mk (Kd.R_below (HO487.out) hb); have n3_ := Aside0.mk (Kd.R_below (HO494.out) hb); have n4_ := Aside0.mk (Kd.R_below (HO497.out) hb); have n5_ := Aside0.mk (Kd.R_below (HO502.out) hb); have n6_ := Aside0.mk (Kd.R_below (HO505.out) hb); have n7_ := Aside0.mk (Kd.R_below (HO510.out) hb); have n8_ := Aside0.mk (Kd.R_below (HO513.out) hb); have n9_ := Aside0.mk (Kd.R_below (HO518.out) hb); have n10_ := Aside0.mk (Kd.R_below (HO521.out) hb); have n11_ := Aside0.mk (blk_below (g := gb488) (o := .cells #[.slice Ao13 t482.length co13, .slice Ao15 t485.length co15] 33 (0, 0)) (BK488.out) hb); have n12_ := Aside0.mk (blk_below (g := gb499) (o := .cells #[.slice Ao21 t492.length co21, .slice Ao24 t495.length co24] 33 (0, 0)) (BK499.out) hb); have n13_ := Aside0.mk (blk_below (g := gb507) (o := .cells #[.slice Ao28 t500.length co28, .slice Ao32 t503.length co32] 33 (0, 0)) (BK507.out) hb); have n14_ := Aside0.mk (blk_below (g := gb515) (o := .cells #[.slice Ao36 t508.length co36, .slice Ao41 t511.length co41] 33 (0, 0)) (BK515.out) hb); have n15_ := Aside0.mk (blk_below (g := gb523) (o := .cells #[.slice Ao45 t516.length co45, .slice Ao51 t519.length co51] 33 (0, 0)) (BK523.out) hb); have n16_ := Aside0.mk (below_step (HB.out) hb); clear HO484; clear HO487; clear HO494; clear HO497; clear HO502; clear HO505; clear HO510; clear HO513; clear HO518; clear HO521; clear BK488; clear BK499; clear BK507; clear BK515; clear BK523; clear HB; have HO484 := n0_; have HO487 := n1_; have HO494 := n3_; have HO497 := n4_; have HO502 := n5_; have HO505 := n6_; have HO510 := n7_; have HO513 := n8_; have HO518 := n9_; have HO521 := n10_; have BK488 := n11_; have BK499 := n12_; have BK507 := n13_; have BK515 := n14_; have BK523 := n15_; have HB := n16_; clear n0_ n1_ n3_ n4_ n5_ n6_ n7_ n8_ n9_ n10_ n11_ n12_ n13_ n14_ n15_ n16_; (try clear hb); (try clear hb2); (try clear hk); (try clear hi); have hcz106_0 : w105.cell? ⟨gb499, 0, none⟩ = some (.slice Ao21 t492.length co21) := (blk_cell BK499.out 0).trans rfl; have hcz106_1 : w105.cell? ⟨gb499, 1, none⟩ = some (.slice Ao24 t495.length co24) := (blk_cell BK499.out 1).trans rfl; have hfz106_0 := blk_frozen BK499.out 0; have hfz106_1 := blk_frozen BK499.out 1) | (go_at_call 28; (with_reducible refine (impl_CountSymmetries.calls k _ _ t492 _ _ t495 t528 _ ?side1 ?side2 ?side3 ?side4 A86.out).mono ?_); (case side1 => repeat (first | exact (Kd.R_reads' HO494.out).2.2 | (with_reducible refine Kd.C_alloc ?_ _) | (with_reducible refine Kd.C_drewN ?_ _) | (with_reducible refine Kd.C_drew ?_))); (case side2 => exact (Kd.R_reads' HO494.out).2.1); (case side3 => repeat (first | exact (Kd.R_reads' HO497.out).2.2 | (with_reducible refine Kd.C_alloc ?_ _) | (with_reducible refine Kd.C_drewN ?_ _) | (with_reducible refine Kd.C_drew ?_))); (case side4 => exact (Kd.R_reads' HO497.out).2.1); rintro e w107 ⟨rfl, hb⟩; have n0_ := Aside0.mk (Kd.R_below (HO484.out) hb); have n1_ := Aside0.mk (Kd.R_below (HO487.out) hb); have n3_ := Aside0.mk (Kd.R_below (HO494.out) hb); have n4_ := Aside0.mk (Kd.R_below (HO497.out) hb); have n5_ := Aside0.mk (Kd.R_below (HO502.out) hb); have n6_ := Aside0.mk (Kd.R_below (HO505.out) hb); have n7_ := Aside0.mk (Kd.R_below (HO510.out) hb); have n8_ := Aside0.mk (Kd.R_below (HO513.out) hb); have n9_ := Aside0.mk (Kd.R_below (HO518.out) hb); have n10_ := Aside0.mk (Kd.R_below (HO521.out) hb); have n11_ := Aside0.mk (blk_below (g := gb488) (o := .cells #[.slice Ao13 t482.length co13, .slice Ao15 t485.length co15] 33 (0, 0)) (BK488.out) hb); have n12_ := Aside0.mk (blk_below (g := gb499) (o := .cells #[.slice Ao21 t492.length co21, .slice Ao24 t495.length co24] 33 (0, 0)) (BK499.out) hb); have n13_ := Aside0.mk (blk_below (g := gb507) (o := .cells #[.slice Ao28 t500.length co28, .slice Ao32 t503.length co32] 33 (0, 0)) (BK507.out) hb); have n14_ := Aside0.mk (blk_below (g := gb515) (o := .cells #[.slice Ao36 t508.length co36, .slice Ao41 t511.length co41] 33 (0, 0)) (BK515.out) hb); have n15_ := Aside0.mk (blk_below (g := gb523) (o := .cells #[.slice Ao45 t516.length co45, .slice Ao51 t519.length co51] 33 (0, 0)) (BK523.out) hb); have n16_ := Aside0.mk (below_step (HB.out) hb); clear HO484; clear HO487; clear HO494; clear HO497; clear HO502; clear HO505; clear HO510; clear HO513; clear HO518; clear HO521; clear BK488; clear BK499; clear BK507; clear BK515; clear BK523; clear HB; have HO484 := n0_; have HO487 := n1_; have HO494 := n3_; have HO497 := n4_; have HO502 := n5_; have HO505 := n6_; have HO510 := n7_; have HO513 := n8_; have HO518 := n9_; have HO521 := n10_; have BK488 := n11_; have BK499 := n12_; have BK507 := n13_; have BK515 := n14_; have BK523 := n15_; have HB := n16_; clear n0_ n1_ n3_ n4_ n5_ n6_ n7_ n8_ n9_ n10_ n11_ n12_ n13_ n14_ n15_ n16_; (try clear hb); (try clear hb2); (try clear hk); (try clear hi)))
             go_meet
             case rel => exact ⟨_, ((t524 != t528)), (by first | rfl | (simp; done) | (simp [*]; done)), H', ⟨by first | omega | exact Nat.le_refl _⟩, ⟨Kd.R_mono HO484.out (fun _ _ => trivial)⟩, ⟨Kd.R_mono HO487.out (fun _ _ => trivial)⟩, ⟨Kd.R_mono HO494.out (fun _ _ => trivial)⟩, ⟨Kd.R_mono HO497.out (fun _ _ => trivial)⟩, ⟨Kd.R_mono HO502.out (fun _ _ => trivial)⟩, ⟨Kd.R_mono HO505.out (fun _ _ => trivial)⟩, ⟨Kd.R_mono HO510.out (fun _ _ => trivial)⟩, ⟨Kd.R_mono HO513.out (fun _ _ => trivial)⟩, ⟨Kd.R_mono HO518.out (fun _ _ => trivial)⟩, ⟨Kd.R_mono HO521.out (fun _ _ => trivial)⟩, ⟨BK488.out⟩, ⟨BK499.out⟩, ⟨BK507.out⟩, ⟨BK515.out⟩, ⟨BK523.out⟩, ⟨HB.out⟩⟩
            ·rw [if_neg c85] at H
             have c85b0 : (((t482.length : Int) % t524) == 0) = false := beq_eq_false_iff_ne.mpr c85
             have c85b1 : (((t482.length : Int) % t524) != 0) = true := bne_iff_ne.mpr c85
             cases k with
             | zero => rw [laws_FnCanon.j0] at H; exact absurd H (by simp)
             | succ k_ => rw [laws_FnCanon.j0, if_pos rfl] at H; exact absurd H (by simp)
         ·replace c63 := Bool.eq_false_iff.mpr c63
          subst c63
          have H1 : (laws_FnCanon.j0 k l0 (t482.length : Int) true t482 t485) = some true := by rw [if_neg (show ¬ (false = true) by decide)] at H; exact H
          clear H
          have H := H1
          clear H1
          have H' := Aside0.mk H
          clear H
          have hnb127 := NB507_488.out
          have hnc127 := NB488_507.out
          have hnb128 := NB507_499.out
          have hnc128 := NB499_507.out
          have hnb129 := NB507_515.out
          have hnc129 := NB515_507.out
          have hnb130 := NB507_523.out
          have hnc130 := NB523_507.out
          have hcz131_0 : w53.cell? ⟨gb507, 0, none⟩ = some (.slice Ao28 t500.length co28) := (blk_cell BK507.out 0).trans rfl
          have hcz131_1 : w53.cell? ⟨gb507, 1, none⟩ = some (.slice Ao32 t503.length co32) := (blk_cell BK507.out 1).trans rfl
          have hfz131_0 := blk_frozen BK507.out 0
          have hfz131_1 := blk_frozen BK507.out 1
          have hnb132 := NB515_488.out
          have hnc132 := NB488_515.out
          have hnb133 := NB515_499.out
          have hnc133 := NB499_515.out
          have hnb134 := NB515_523.out
          have hnc134 := NB523_515.out
          have hcz135_0 : w53.cell? ⟨gb515, 0, none⟩ = some (.slice Ao36 t508.length co36) := (blk_cell BK515.out 0).trans rfl
          have hcz135_1 : w53.cell? ⟨gb515, 1, none⟩ = some (.slice Ao41 t511.length co41) := (blk_cell BK515.out 1).trans rfl
          have hfz135_0 := blk_frozen BK515.out 0
          have hfz135_1 := blk_frozen BK515.out 1
          go_wp2_with (first | (go_at_call 29; (with_reducible refine (impl_SameSurface.calls k _ _ t500 _ _ t503 _ _ t508 _ _ t511 true _ ?side1 ?side2 ?side3 ?side4 ?side5 ?side6 ?side7 ?side8 A58.out).mono ?_); (case side1 => repeat (first | exact (Kd.R_reads' HO502.out).2.2 | (with_reducible refine Kd.C_alloc ?_ _) | (with_reducible refine Kd.C_drewN ?_ _) | (with_reducible refine Kd.C_drew ?_))); (case side2 => exact (Kd.R_reads' HO502.out).2.1); (case side3 => repeat (first | exact (Kd.R_reads' HO505.out).2.2 | (with_reducible refine Kd.C_alloc ?_ _) | (with_reducible refine Kd.C_drewN ?_ _) | (with_reducible refine Kd.C_drew ?_))); (case side4 => exact (Kd.R_reads' HO505.out).2.1); (case side5 => repeat (first | exact (Kd.R_reads' HO510.out).2.2 | (with_reducible refine Kd.C_alloc ?_ _) | (with_reducible refine Kd.C_drewN ?_ _) | (with_reducible refine Kd.C_drew ?_))); (case side6 => exact (Kd.R_reads' HO510.out).2.1); (case side7 => repeat (first | exact (Kd.R_reads' HO513.out).2.2 | (with_reducible refine Kd.C_alloc ?_ _) | (with_reducible refine Kd.C_drewN ?_ _) | (with_reducible refine Kd.C_drew ?_))); (case side8 => exact (Kd.R_reads' HO513.out).2.1); rintro e w136 ⟨rfl, hb⟩; have n0_ := Aside0.mk (Kd.R_below (HO484.out) hb); have n1_ := Aside0.mk (Kd.R_below (HO487.out) hb); have n3_ := Aside0.mk (Kd.R_below (HO494.out) hb); have n4_ := Aside0.mk (Kd.R_below (HO497.out) hb); have n5_ := Aside0.mk (Kd.R_below (HO502.out) hb); have n6_ := Aside0.mk (Kd.R_below (HO505.out) hb); have n7_ := Aside0.mk (Kd.R_below (HO510.out) hb); have n8_ := Aside0.mk (Kd.R_below (HO513.out) hb); have n9_ := Aside0.mk (Kd.R_below (HO518.out) hb); have n10_ := Aside0.mk (Kd.R_below (HO521.out) hb); have n11_ := Aside0.mk (blk_below (g := gb488) (o := .cells #[.slice Ao13 t482.length co13, .slice Ao15 t485.length co15] 33 (0, 0)) (BK488.out) hb); have n12_ := Aside0.mk (blk_below (g := gb499) (o := .cells #[.slice Ao21 t492.length co21, .slice Ao24 t495.length co24] 33 (0, 0)) (BK499.out) hb); have n13_ := Aside0.mk (blk_below (g := gb507) (o := .cells #[.slice Ao28 t500.length co28, .slice Ao32 t503.length co32] 33 (0, 0)) (BK507.out) hb); have n14_ := Aside0.mk (blk_below (g := gb515) (o := .cells #[.slice Ao36 t508.length co36, .slice Ao41 t511.length co41] 33 (0, 0)) (BK515.out) hb); have n15_ := Aside0.mk (blk_below (g := gb523) (o := .cells #[.slice Ao45 t516.length co45, .slice Ao51 t519.length co51] 33 (0, 0)) (BK523.out) hb); have n16_ := Aside0.mk (below_step (HB.out) hb); clear HO484; clear HO487; clear HO491; clear HO494; clear HO497; clear HO502; clear HO505; clear HO510; clear HO513; clear HO518; clear HO521; clear BK488; clear BK499; clear BK507; clear BK515; clear BK523; clear HB; have HO484 := n0_; have HO487 := n1_; have HO494 := n3_; have HO497 := n4_; have HO502 := n5_; have HO505 := n6_; have HO510 := n7_; have HO513 := n8_; have HO518 := n9_; have HO521 := n10_; have BK488 := n11_; have BK499 := n12_; have BK507 := n13_; have BK515 := n14_; have BK523 := n15_; have HB := n16_; clear n0_ n1_ n3_ n4_ n5_ n6_ n7_ n8_ n9_ n10_ n11_ n12_ n13_ n14_ n15_ n16_; (try clear hb); (try clear hb2); (try clear hk); (try clear hi); have hcz137_0 : w136.cell? ⟨gb507, 0, none⟩ = some (.slice Ao28 t500.length co28) := (blk_cell BK507.out 0).trans rfl; have hcz137_1 : w136.cell? ⟨gb507, 1, none⟩ = some (.slice Ao32 t503.length co32) := (blk_cell BK507.out 1).trans rfl; have hfz137_0 := blk_frozen BK507.out 0; have hfz137_1 := blk_frozen BK507.out 1; have hnb138 := NB523_488.out; have hnc138 := NB488_523.out; have hnb139 := NB523_499.out; have hnc139 := NB499_523.out; have hcz140_0 : w136.cell? ⟨gb523, 0, none⟩ = some (.slice Ao45 t516.length co45) := (blk_cell BK523.out 0).trans rfl; have hcz140_1 : w136.cell? ⟨gb523, 1, none⟩ = some (.slice Ao51 t519.length co51) := (blk_cell BK523.out 1).trans rfl; have hfz140_0 := blk_frozen BK523.out 0; have hfz140_1 := blk_frozen BK523.out 1) | (go_at_call 29; (with_reducible refine (impl_SameSurface.calls k _ _ t500 _ _ t503 _ _ t516 _ _ t519 true _ ?side1 ?side2 ?side3 ?side4 ?side5 ?side6 ?side7 ?side8 A60.out).mono ?_); (case side1 => repeat (first | exact (Kd.R_reads' HO502.out).2.2 | (with_reducible refine Kd.C_alloc ?_ _) | (with_reducible refine Kd.C_drewN ?_ _) | (with_reducible refine Kd.C_drew ?_))); (case side2 => exact (Kd.R_reads' HO502.out).2.1); (case side3 => repeat (first | exact (Kd.R_reads' HO505.out).2.2 | (with_reducible refine Kd.C_alloc ?_ _) | (with_reducible refine Kd.C_drewN ?_ _) | (with_reducible refine Kd.C_drew ?_))); (case side4 => exact (Kd.R_reads' HO505.out).2.1); (case side5 => repeat (first | exact (Kd.R_reads' HO518.out).2.2 | (with_reducible refine Kd.C_alloc ?_ _) | (with_reducible refine Kd.C_drewN ?_ _) | (with_reducible refine Kd.C_drew ?_))); (case side6 => exact (Kd.R_reads' HO518.out).2.1); (case side7 => repeat (first | exact (Kd.R_reads' HO521.out).2.2 | (with_reducible refine Kd.C_alloc ?_ _) | (with_reducible refine Kd.C_drewN ?_ _) | (with_reducible refine Kd.C_drew ?_))); (case side8 => exact (Kd.R_reads' HO521.out).2.1); rintro e w141 ⟨rfl, hb⟩; have n0_ := Aside0.mk (Kd.R_below (HO484.out) hb); have n1_ := Aside0.mk (Kd.R_below (HO487.out) hb); have n3_ := Aside0.mk (Kd.R_below (HO494.out) hb); have n4_ := Aside0.mk (Kd.R_below (HO497.out) hb); have n5_ := Aside0.mk (Kd.R_below (HO502.out) hb); have n6_ := Aside0.mk (Kd.R_below (HO505.out) hb); have n7_ := Aside0.mk (Kd.R_below (HO510.out) hb); have n8_ := Aside0.mk (Kd.R_below (HO513.out) hb); have n9_ := Aside0.mk (Kd.R_below (HO518.out) hb); have n10_ := Aside0.mk (Kd.R_below (HO521.out) hb); have n11_ := Aside0.mk (blk_below (g := gb488) (o := .cells #[.slice Ao13 t482.length co13, .slice Ao15 t485.length co15] 33 (0, 0)) (BK488.out) hb); have n12_ := Aside0.mk (blk_below (g := gb499) (o := .cells #[.slice Ao21 t492.length co21, .slice Ao24 t495.length co24] 33 (0, 0)) (BK499.out) hb); have n13_ := Aside0.mk (blk_below (g := gb507) (o := .cells #[.slice Ao28 t500.length co28, .slice Ao32 t503.length co32] 33 (0, 0)) (BK507.out) hb); have n14_ := Aside0.mk (blk_below (g := gb515) (o := .cells #[.slice Ao36 t508.length co36, .slice Ao41 t511.length co41] 33 (0, 0)) (BK515.out) hb); have n15_ := Aside0.mk (blk_below (g := gb523) (o := .cells #[.slice Ao45 t516.length co45, .slice Ao51 t519.length co51] 33 (0, 0)) (BK523.out) hb); have n16_ := Aside0.mk (below_step (HB.out) hb); clear HO484; clear HO487; clear HO494; clear HO497; clear HO502; clear HO505; clear HO510; clear HO513; clear HO518; clear HO521; clear BK488; clear BK499; clear BK507; clear BK515; clear BK523; clear HB; have HO484 := n0_; have HO487 := n1_; have HO494 := n3_; have HO497 := n4_; have HO502 := n5_; have HO505 := n6_; have HO510 := n7_; have HO513 := n8_; have HO518 := n9_; have HO521 := n10_; have BK488 := n11_; have BK499 := n12_; have BK507 := n13_; have BK515 := n14_; have BK523 := n15_; have HB := n16_; clear n0_ n1_ n3_ n4_ n5_ n6_ n7_ n8_ n9_ n10_ n11_ n12_ n13_ n14_ n15_ n16_; (try clear hb); (try clear hb2); (try clear hk); (try clear hi); have hnb142 := NB488_499.out; have hnc142 := NB499_488.out; have hcz143_0 : w141.cell? ⟨gb488, 0, none⟩ = some (.slice Ao13 t482.length co13) := (blk_cell BK488.out 0).trans rfl; have hcz143_1 : w141.cell? ⟨gb488, 1, none⟩ = some (.slice Ao15 t485.length co15) := (blk_cell BK488.out 1).trans rfl; have hfz143_0 := blk_frozen BK488.out 0; have hfz143_1 := blk_frozen BK488.out 1; have hcz144_0 : w141.cell? ⟨gb499, 0, none⟩ = some (.slice Ao21 t492.length co21) := (blk_cell BK499.out 0).trans rfl; have hcz144_1 : w141.cell? ⟨gb499, 1, none⟩ = some (.slice Ao24 t495.length co24) := (blk_cell BK499.out 1).trans rfl; have hfz144_0 := blk_frozen BK499.out 0; have hfz144_1 := blk_frozen BK499.out 1) | (go_at_call 30; (with_reducible refine (impl_AreIsomorphic.calls k _ _ t482 _ _ t485 _ _ t492 _ _ t495 false _ ?side1 ?side2 ?side3 ?side4 ?side5 ?side6 ?side7 ?side8 A62.out).mono ?_); (case side1 => repeat (first | exact (Kd.R_reads' HO484.out).2.2 | (with_reducible refine Kd.C_alloc ?_ _) | (with_reducible refine Kd.C_drewN ?_ _) | (with_reducible refine Kd.C_drew ?_))); (case side2 => exact (Kd.R_reads' HO484.out).2.1); (case side3 => repeat (first | exact (Kd.R_reads' HO487.out).2.2 | (with_reducible refine Kd.C_alloc ?_ _) | (with_reducible refine Kd.C_drewN ?_ _) | (with_reducible refine Kd.C_drew ?_))); (case side4 => exact (Kd.R_reads' HO487.out).2.1); (case side5 => repeat (first | exact (Kd.R_reads' HO494.out).2.2 | (with_reducible refine Kd.C_alloc ?_ _) | (with_reducible refine Kd.C_drewN ?_ _) | (with_reducible refine Kd.C_drew ?_))); (case side6 => exact (Kd.R_reads' HO494.out).2.1); (case side7 => repeat (first | exact (Kd.R_reads' HO497.out).2.2 | (with_reducible refine Kd.C_alloc ?_ _) | (with_reducible refine Kd.C_drewN ?_ _) | (with_reducible refine Kd.C_drew ?_))); (case side8 => exact (Kd.R_reads' HO497.out).2.1); rintro e w145 ⟨rfl, hb⟩; have n0_ := Aside0.mk (Kd.R_below (HO484.out) hb); have n1_ := Aside0.mk (Kd.R_below (HO487.out) hb); have n3_ := Aside0.mk (Kd.R_below (HO494.out) hb); have n4_ := Aside0.mk (Kd.R_below (HO497.out) hb); have n5_ := Aside0.mk (Kd.R_below (HO502.out) hb); have n6_ := Aside0.mk (Kd.R_below (HO505.out) hb); have n7_ := Aside0.mk (Kd.R_below (HO510.out) hb); have n8_ := Aside0.mk (Kd.R_below (HO513.out) hb); have n9_ := Aside0.mk (Kd.R_below (HO518.out) hb); have n10_ := Aside0.mk (Kd.R_below (HO521.out) hb); have n11_ := Aside0.mk (blk_below (g := gb488) (o := .cells #[.slice Ao13 t482.length co13, .slice Ao15 t485.length co15] 33 (0, 0)) (BK488.out) hb); have n12_ := Aside0.mk (blk_below (g := gb499) (o := .cells #[.slice Ao21 t492.length co21, .slice Ao24 t495.length co24] 33 (0, 0)) (BK499.out) hb); have n13_ := Aside0.mk (blk_below (g := gb507) (o := .cells #[.slice Ao28 t500.length co28, .slice Ao32 t503.length co32] 33 (0, 0)) (BK507.out) hb); have n14_ := Aside0.mk (blk_below (g := gb515) (o := .cells #[.slice Ao36 t508.length co36, .slice Ao41 t511.length co41] 33 (0, 0)) (BK515.out) hb); have n15_ := Aside0.mk (blk_below (g := gb523) (o := .cells #[.slice Ao45 t516.length co45, .slice Ao51 t519.length co51] 33 (0, 0)) (BK523.out) hb); have n16_ := Aside0.mk (below_step (HB.out) hb); clear HO484; clear HO487; clear HO494; clear HO497; clear HO502; clear HO505; clear HO510; clear HO513; clear HO518; clear HO521; clear BK488; clear BK499; clear BK507; clear BK515; clear BK523; clear HB; have HO484 := n0_; have HO487 := n1_; have HO494 := n3_; have HO497 := n4_; have HO502 := n5_; have HO505 := n6_; have HO510 := n7_; have HO513 := n8_; have HO518 := n9_; have HO521 := n10_; have BK488 := n11_; have BK499 := n12_; have BK507 := n13_; have BK515 := n14_; have BK523 := n15_; have HB := n16_; clear n0_ n1_ n3_ n4_ n5_ n6_ n7_ n8_ n9_ n10_ n11_ n12_ n13_ n14_ n15_ n16_; (try clear hb); (try clear hb2); (try clear hk); (try clear hi)))
          go_meet
          case rel => exact ⟨_, (true), (by first | rfl | (simp; done) | (simp [*]; done)), H', ⟨by first | omega | exact Nat.le_refl _⟩, ⟨Kd.R_mono HO484.out (fun _ _ => trivial)⟩, ⟨Kd.R_mono HO487.out (fun _ _ => trivial)⟩, ⟨Kd.R_mono HO494.out (fun _ _ => trivial)⟩, ⟨Kd.R_mono HO497.out (fun _ _ => trivial)⟩, ⟨Kd.R_mono HO502.out (fun _ _ => trivial)⟩, ⟨Kd.R_mono HO505.out (fun _ _ => trivial)⟩, ⟨Kd.R_mono HO510.out (fun _ _ => trivial)⟩, ⟨Kd.R_mono HO513.out (fun _ _ => trivial)⟩, ⟨Kd.R_mono HO518.out (fun _ _ => trivial)⟩, ⟨Kd.R_mono HO521.out (fun _ _ => trivial)⟩, ⟨BK488.out⟩, ⟨BK499.out⟩, ⟨BK507.out⟩, ⟨BK515.out⟩, ⟨BK523.out⟩, ⟨HB.out⟩⟩
        ·replace c61 := Bool.eq_false_iff.mpr c61
         subst c61
         have H1 : (laws_FnCanon.j0 k l0 (t482.length : Int) true t482 t485) = some true := by rw [if_neg (show ¬ (false = true) by decide)] at H; exact H
         clear H
         have H := H1
         clear H1
         have H' := Aside0.mk H
         clear H
         have hnb146 := NB507_488.out
         have hnc146 := NB488_507.out
         have hnb147 := NB507_499.out
         have hnc147 := NB499_507.out
         have hnb148 := NB507_515.out
         have hnc148 := NB515_507.out
         have hnb149 := NB507_523.out
         have hnc149 := NB523_507.out
         have hcz150_0 : w53.cell? ⟨gb507, 0, none⟩ = some (.slice Ao28 t500.length co28) := (blk_cell BK507.out 0).trans rfl
         have hcz150_1 : w53.cell? ⟨gb507, 1, none⟩ = some (.slice Ao32 t503.length co32) := (blk_cell BK507.out 1).trans rfl
         have hfz150_0 := blk_frozen BK507.out 0
         have hfz150_1 := blk_frozen BK507.out 1
         have hnb151 := NB515_488.out
         have hnc151 := NB488_515.out
         have hnb152 := NB515_499.out
         have hnc152 := NB499_515.out
         have hnb153 := NB515_523.out
         have hnc153 := NB523_515.out
         have hcz154_0 : w53.cell? ⟨gb515, 0, none⟩ = some (.slice Ao36 t508.length co36) := (blk_cell BK515.out 0).trans rfl
         have hcz154_1 : w53.cell? ⟨gb515, 1, none⟩ = some (.slice Ao41 t511.length co41) := (blk_cell BK515.out 1).trans rfl
         have hfz154_0 := blk_frozen BK515.out 0
         have hfz154_1 := blk_frozen BK515.out 1
         go_wp2_with (first | (go_at_call 29; (with_reducible refine (impl_SameSurface.calls k _ _ t500 _ _ t503 _ _ t508 _ _ t511 true _ ?side1 ?side2 ?side3 ?side4 ?side5 ?side6 ?side7 ?side8 A58.out).mono ?_); (case side1 => repeat (first | exact (Kd.R_reads' HO502.out).2.2 | (with_reducible refine Kd.C_alloc ?_ _) | (with_reducible refine Kd.C_drewN ?_ _) | (with_reducible refine Kd.C_drew ?_))); (case side2 => exact (Kd.R_reads' HO502.out).2.1); (case side3 => repeat (first | exact (Kd.R_reads' HO505.out).2.2 | (with_reducible refine Kd.C_alloc ?_ _) | (with_reducible refine Kd.C_drewN ?_ _) | (with_reducible refine Kd.C_drew ?_))); (case side4 => exact (Kd.R_reads' HO505.out).2.1); (case side5 => repeat (first | exact (Kd.R_reads' HO510.out).2.2 | (with_reducible refine Kd.C_alloc ?_ _) | (with_reducible refine Kd.C_drewN ?_ _) | (with_reducible refine Kd.C_drew ?_))); (case side6 => exact (Kd.R_reads' HO510.out).2.1); (case side7 => repeat (first | exact (Kd.R_reads' HO513.out).2.2 | (with_reducible refine Kd.C_alloc ?_ _) | (with_reducible refine Kd.C_drewN ?_ _) | (with_reducible refine Kd.C_drew ?_))); (case side8 => exact (Kd.R_reads' HO513.out).2.1); rintro e w155 ⟨rfl, hb⟩; have n0_ := Aside0.mk (Kd.R_below (HO484.out) hb); have n1_ := Aside0.mk (Kd.R_below (HO487.out) hb); have n3_ := Aside0.mk (Kd.R_below (HO494.out) hb); have n4_ := Aside0.mk (Kd.R_below (HO497.out) hb); have n5_ := Aside0.mk (Kd.R_below (HO502.out) hb); have n6_ := Aside0.mk (Kd.R_below (HO505.out) hb); have n7_ := Aside0.mk (Kd.R_below (HO510.out) hb); have n8_ := Aside0.mk (Kd.R_below (HO513.out) hb); have n9_ := Aside0.mk (Kd.R_below (HO518.out) hb); have n10_ := Aside0.mk (Kd.R_below (HO521.out) hb); have n11_ := Aside0.mk (blk_below (g := gb488) (o := .cells #[.slice Ao13 t482.length co13, .slice Ao15 t485.length co15] 33 (0, 0)) (BK488.out) hb); have n12_ := Aside0.mk (blk_below (g := gb499) (o := .cells #[.slice Ao21 t492.length co21, .slice Ao24 t495.length co24] 33 (0, 0)) (BK499.out) hb); have n13_ := Aside0.mk (blk_below (g := gb507) (o := .cells #[.slice Ao28 t500.length co28, .slice Ao32 t503.length co32] 33 (0, 0)) (BK507.out) hb); have n14_ := Aside0.mk (blk_below (g := gb515) (o := .cells #[.slice Ao36 t508.length co36, .slice Ao41 t511.length co41] 33 (0, 0)) (BK515.out) hb); have n15_ := Aside0.mk (blk_below (g := gb523) (o := .cells #[.slice Ao45 t516.length co45, .slice Ao51 t519.length co51] 33 (0, 0)) (BK523.out) hb); have n16_ := Aside0.mk (below_step (HB.out) hb); clear HO484; clear HO487; clear HO491; clear HO494; clear HO497; clear HO502; clear HO505; clear HO510; clear HO513; clear HO518; clear HO521; clear BK488; clear BK499; clear BK507; clear BK515; clear BK523; clear HB; have HO484 := n0_; have HO487 := n1_; have HO494 := n3_; have HO497 := n4_; have HO502 := n5_; have HO505 := n6_; have HO510 := n7_; have HO513 := n8_; have HO518 := n9_; have HO521 := n10_; have BK488 := n11_; have BK499 := n12_; have BK507 := n13_; have BK515 := n14_; have BK523 := n15_; have HB := n16_; clear n0_ n1_ n3_ n4_ n5_ n6_ n7_ n8_ n9_ n10_ n11_ n12_ n13_ n14_ n15_ n16_; (try clear hb); (try clear hb2); (try clear hk); (try clear hi); have hcz156_0 : w155.cell? ⟨gb507, 0, none⟩ = some (.slice Ao28 t500.length co28) := (blk_cell BK507.out 0).trans rfl; have hcz156_1 : w155.cell? ⟨gb507, 1, none⟩ = some (.slice Ao32 t503.length co32) := (blk_cell BK507.out 1).trans rfl; have hfz156_0 := blk_frozen BK507.out 0; have hfz156_1 := blk_frozen BK507.out 1; have hnb157 := NB523_488.out; have hnc157 := NB488_523.out; have hnb158 := NB523_499.out; have hnc158 := NB499_523.out; have hcz159_0 : w155.cell? ⟨gb523, 0, none⟩ = some (.slice Ao45 t516.length co45) := (blk_cell BK523.out 0).trans rfl; have hcz159_1 : w155.cell? ⟨gb523, 1, none⟩ = some (.slice Ao51 t519.length co51) := (blk_cell BK523.out 1).trans rfl; have hfz159_0 := blk_frozen BK523.out 0; have hfz159_1 := blk_frozen BK523.out 1) | (go_at_call 29; (with_reducible refine (impl_SameSurface.calls k _ _ t500 _ _ t503 _ _ t516 _ _ t519 false _ ?side1 ?side2 ?side3 ?side4 ?side5 ?side6 ?side7 ?side8 A60.out).mono ?_); (case side1 => repeat (first | exact (Kd.R_reads' HO502.out).2.2 | (with_reducible refine Kd.C_alloc ?_ _) | (with_reducible refine Kd.C_drewN ?_ _) | (with_reducible refine Kd.C_drew ?_))); (case side2 => exact (Kd.R_reads' HO502.out).2.1); (case side3 => repeat (first | exact (Kd.R_reads' HO505.out).2.2 | (with_reducible refine Kd.C_alloc ?_ _) | (with_reducible refine Kd.C_drewN ?_ _) | (with_reducible refine Kd.C_drew ?_))); (case side4 => exact (Kd.R_reads' HO505.out).2.1); (case side5 => repeat (first | exact (Kd.R_reads' HO518.out).2.2 | (with_reducible refine Kd.C_alloc ?_ _) | (with_reducible refine Kd.C_drewN ?_ _) | (with_reducible refine Kd.C_drew ?_))); (case side6 => exact (Kd.R_reads' HO518.out).2.1); (case side7 => repeat (first | exact (Kd.R_reads' HO521.out).2.2 | (with_reducible refine Kd.C_alloc ?_ _) | (with_reducible refine Kd.C_drewN ?_ _) | (with_reducible refine Kd.C_drew ?_))); (case side8 => exact (Kd.R_reads' HO521.out).2.1); rintro e w160 ⟨rfl, hb⟩; have n0_ := Aside0.mk (Kd.R_below (HO484.out) hb); have n1_ := Aside0.mk (Kd.R_below (HO487.out) hb); have n3_ := Aside0.mk (Kd.R_below (HO494.out) hb); have n4_ := Aside0.mk (Kd.R_below (HO497.out) hb); have n5_ := Aside0.mk (Kd.R_below (HO502.out) hb); have n6_ := Aside0.mk (Kd.R_below (HO505.out) hb); have n7_ := Aside0.mk (Kd.R_below (HO510.out) hb); have n8_ := Aside0.mk (Kd.R_below (HO513.out) hb); have n9_ := Aside0.mk (Kd.R_below (HO518.out) hb); have n10_ := Aside0.mk (Kd.R_below (HO521.out) hb); have n11_ := Aside0.mk (blk_below (g := gb488) (o := .cells #[.slice Ao13 t482.length co13, .slice Ao15 t485.length co15] 33 (0, 0)) (BK488.out) hb); have n12_ := Aside0.mk (blk_below (g := gb499) (o := .cells #[.slice Ao21 t492.length co21, .slice Ao24 t495.length co24] 33 (0, 0)) (BK499.out) hb); have n13_ := Aside0.mk (blk_below (g := gb507) (o := .cells #[.slice Ao28 t500.length co28, .slice Ao32 t503.length co32] 33 (0, 0)) (BK507.out) hb); have n14_ := Aside0.mk (blk_below (g := gb515) (o := .cells #[.slice Ao36 t508.length co36, .slice Ao41 t511.length co41] 33 (0, 0)) (BK515.out) hb); have n15_ := Aside0.mk (blk_below (g := gb523) (o := .cells #[.slice Ao45 t516.length co45, .slice Ao51 t519.length co51] 33 (0, 0)) (BK523.out) hb); have n16_ := Aside0.mk (below_step (HB.out) hb); clear HO484; clear HO487; clear HO494; clear HO497; clear HO502; clear HO505; clear HO510; clear HO513; clear HO518; clear HO521; clear BK488; clear BK499; clear BK507; clear BK515; clear BK523; clear HB; have HO484 := n0_; have HO487 := n1_; have HO494 := n3_; have HO497 := n4_; have HO502 := n5_; have HO505 := n6_; have HO510 := n7_; have HO513 := n8_; have HO518 := n9_; have HO521 := n10_; have BK488 := n11_; have BK499 := n12_; have BK507 := n13_; have BK515 := n14_; have BK523 := n15_; have HB := n16_; clear n0_ n1_ n3_ n4_ n5_ n6_ n7_ n8_ n9_ n10_ n11_ n12_ n13_ n14_ n15_ n16_; (try clear hb); (try clear hb2); (try clear hk); (try clear hi)))
         go_meet
         case rel => exact ⟨_, (true), (by first | rfl | (simp; done) | (simp [*]; done)), H', ⟨by first | omega | exact Nat.le_refl _⟩, ⟨Kd.R_mono HO484.out (fun _ _ => trivial)⟩, ⟨Kd.R_mono HO487.out (fun _ _ => trivial)⟩, ⟨Kd.R_mono HO494.out (fun _ _ => trivial)⟩, ⟨Kd.R_mono HO497.out (fun _ _ => trivial)⟩, ⟨Kd.R_mono HO502.out (fun _ _ => trivial)⟩, ⟨Kd.R_mono HO505.out (fun _ _ => trivial)⟩, ⟨Kd.R_mono HO510.out (fun _ _ => trivial)⟩, ⟨Kd.R_mono HO513.out (fun _ _ => trivial)⟩, ⟨Kd.R_mono HO518.out (fun _ _ => trivial)⟩, ⟨Kd.R_mono HO521.out (fun _ _ => trivial)⟩, ⟨BK488.out⟩, ⟨BK499.out⟩, ⟨BK507.out⟩, ⟨BK515.out⟩, ⟨BK523.out⟩, ⟨HB.out⟩⟩
       ·replace c59 := Bool.eq_false_iff.mpr c59
        subst c59
        have H1 : (laws_FnCanon.j0 k l0 (t482.length : Int) true t482 t485) = some true := by rw [if_neg (show ¬ (false = true) by decide)] at H; exact H
        clear H
        have H := H1
        clear H1
        have H' := Aside0.mk H
        clear H
        have hnb161 := NB507_488.out
        have hnc161 := NB488_507.out
        have hnb162 := NB507_499.out
        have hnc162 := NB499_507.out
        have hnb163 := NB507_515.out
        have hnc163 := NB515_507.out
        have hnb164 := NB507_523.out
        have hnc164 := NB523_507.out
        have hcz165_0 : w53.cell? ⟨gb507, 0, none⟩ = some (.slice Ao28 t500.length co28) := (blk_cell BK507.out 0).trans rfl
        have hcz165_1 : w53.cell? ⟨gb507, 1, none⟩ = some (.slice Ao32 t503.length co32) := (blk_cell BK507.out 1).trans rfl
        have hfz165_0 := blk_frozen BK507.out 0
        have hfz165_1 := blk_frozen BK507.out 1
        have hnb166 := NB515_488.out
        have hnc166 := NB488_515.out
        have hnb167 := NB515_499.out
        have hnc167 := NB499_515.out
        have hnb168 := NB515_523.out
        have hnc168 := NB523_515.out
        have hcz169_0 : w53.cell? ⟨gb515, 0, none⟩ = some (.slice Ao36 t508.length co36) := (blk_cell BK515.out 0).trans rfl
        have hcz169_1 : w53.cell? ⟨gb515, 1, none⟩ = some (.slice Ao41 t511.length co41) := (blk_cell BK515.out 1).trans rfl
        have hfz169_0 := blk_frozen BK515.out 0
        have hfz169_1 := blk_frozen BK515.out 1
        go_wp2_with (first | (go_at_call 29; (with_reducible refine (impl_SameSurface.calls k _ _ t500 _ _ t503 _ _ t508 _ _ t511 false _ ?side1 ?side2 ?side3 ?side4 ?side5 ?side6 ?side7 ?side8 A58.out).mono ?_); (case side1 => repeat (first | exact (Kd.R_reads' HO502.out).2.2 | (with_reducible refine Kd.C_alloc ?_ _) | (with_reducible refine Kd.C_drewN ?_ _) | (with_reducible refine Kd.C_drew ?_))); (case side2 => exact (Kd.R_reads' HO502.out).2.1); (case side3 => repeat (first | exact (Kd.R_reads' HO505.out).2.2 | (with_reducible refine Kd.C_alloc ?_ _) | (with_reducible refine Kd.C_drewN ?_ _) | (with_reducible refine Kd.C_drew ?_))); (case side4 => exact (Kd.R_reads' HO505.out).2.1); (case side5 => repeat (first | exact (Kd.R_reads' HO510.out).2.2 | (with_reducible refine Kd.C_alloc ?_ _) | (with_reducible refine Kd.C_drewN ?_ _) | (with_reducible refine Kd.C_drew ?_))); (case side6 => exact (Kd.R_reads' HO510.out).2.1); (case side7 => repeat (first | exact (Kd.R_reads' HO513.out).2.2 | (with_reducible refine Kd.C_alloc ?_ _) | (with_reducible refine Kd.C_drewN ?_ _) | (with_reducible refine Kd.C_drew ?_))); (case side8 => exact (Kd.R_reads' HO513.out).2.1); rintro e w170 ⟨rfl, hb⟩; have n0_ := Aside0.mk (Kd.R_below (HO484.out) hb); have n1_ := Aside0.mk (Kd.R_below (HO487.out) hb); have n3_ := Aside0.mk (Kd.R_below (HO494.out) hb); have n4_ := Aside0.mk (Kd.R_below (HO497.out) hb); have n5_ := Aside0.mk (Kd.R_below (HO502.out) hb); have n6_ := Aside0.mk (Kd.R_below (HO505.out) hb); have n7_ := Aside0.mk (Kd.R_below (HO510.out) hb); have n8_ := Aside0.mk (Kd.R_below (HO513.out) hb); have n9_ := Aside0.mk (Kd.R_below (HO518.out) hb); have n10_ := Aside0.mk (Kd.R_below (HO521.out) hb); have n11_ := Aside0.mk (blk_below (g := gb488) (o := .cells #[.slice Ao13 t482.length co13, .slice Ao15 t485.length co15] 33 (0, 0)) (BK488.out) hb); have n12_ := Aside0.mk (blk_below (g := gb499) (o := .cells #[.slice Ao21 t492.length co21, .slice Ao24 t495.length co24] 33 (0, 0)) (BK499.out) hb); have n13_ := Aside0.mk (blk_below (g := gb507) (o := .cells #[.slice Ao28 t500.length co28, .slice Ao32 t503.length co32] 33 (0, 0)) (BK507.out) hb); have n14_ := Aside0.mk (blk_below (g := gb515) (o := .cells #[.slice Ao36 t508.length co36, .slice Ao41 t511.length co41] 33 (0, 0)) (BK515.out) hb); have n15_ := Aside0.mk (blk_below (g := gb523) (o := .cells #[.slice Ao45 t516.length co45, .slice Ao51 t519.length co51] 33 (0, 0)) (BK523.out) hb); have n16_ := Aside0.mk (below_step (HB.out) hb); clear HO484; clear HO487; clear HO491; clear HO494; clear HO497; clear HO502; clear HO505; clear HO510; clear HO513; clear HO518; clear HO521; clear BK488; clear BK499; clear BK507; clear BK515; clear BK523; clear HB; have HO484 := n0_; have HO487 := n1_; have HO494 := n3_; have HO497 := n4_; have HO502 := n5_; have HO505 := n6_; have HO510 := n7_; have HO513 := n8_; have HO518 := n9_; have HO521 := n10_; have BK488 := n11_; have BK499 := n12_; have BK507 := n13_; have BK515 := n14_; have BK523 := n15_; have HB := n16_; clear n0_ n1_ n3_ n4_ n5_ n6_ n7_ n8_ n9_ n10_ n11_ n12_ n13_ n14_ n15_ n16_; (try clear hb); (try clear hb2); (try clear hk); (try clear hi)))
        go_meet
        case rel => exact ⟨_, (true), (by first | rfl | (simp; done) | (simp [*]; done)), H', ⟨by first | omega | exact Nat.le_refl _⟩, ⟨Kd.R_mono HO484.out (fun _ _ => trivial)⟩, ⟨Kd.R_mono HO487.out (fun _ _ => trivial)⟩, ⟨Kd.R_mono HO494.out (fun _ _ => trivial)⟩, ⟨Kd.R_mono HO497.out (fun _ _ => trivial)⟩, ⟨Kd.R_mono HO502.out (fun _ _ => trivial)⟩, ⟨Kd.R_mono HO505.out (fun _ _ => trivial)⟩, ⟨Kd.R_mono HO510.out (fun _ _ => trivial)⟩, ⟨Kd.R_mono HO513.out (fun _ _ => trivial)⟩, ⟨Kd.R_mono HO518.out (fun _ _ => trivial)⟩, ⟨Kd.R_mono HO521.out (fun _ _ => trivial)⟩, ⟨BK488.out⟩, ⟨BK499.out⟩, ⟨BK507.out⟩, ⟨BK515.out⟩, ⟨BK523.out⟩, ⟨HB.out⟩⟩
      ·replace c57 := Bool.eq_false_iff.mpr c57
       subst c57
       have H1 : (laws_FnCanon.j0 k l0 (t482.length : Int) true t482 t485) = some true := by rw [if_neg (show ¬ (false = true) by decide)] at H; exact H
       clear H
       have H := H1
       clear H1
       have H' := Aside0.mk H
       clear H
       go_wp2
       go_meet
       case rel => exact ⟨_, (true), (by first | rfl | (simp; done) | (simp [*]; done)), H', ⟨by first | omega | exact Nat.le_refl _⟩, ⟨Kd.R_mono HO484.out (fun _ _ => trivial)⟩, ⟨Kd.R_mono HO487.out (fun _ _ => trivial)⟩, ⟨Kd.R_mono HO494.out (fun _ _ => trivial)⟩, ⟨Kd.R_mono HO497.out (fun _ _ => trivial)⟩, ⟨Kd.R_mono HO502.out (fun _ _ => trivial)⟩, ⟨Kd.R_mono HO505.out (fun _ _ => trivial)⟩, ⟨Kd.R_mono HO510.out (fun _ _ => trivial)⟩, ⟨Kd.R_mono HO513.out (fun _ _ => trivial)⟩, ⟨Kd.R_mono HO518.out (fun _ _ => trivial)⟩, ⟨Kd.R_mono HO521.out (fun _ _ => trivial)⟩, ⟨BK488.out⟩, ⟨BK499.out⟩, ⟨BK507.out⟩, ⟨BK515.out⟩, ⟨BK523.out⟩, ⟨HB.out⟩⟩
     ·replace c56 := Bool.eq_false_iff.mpr c56
      subst c56
      have H1 : (laws_FnCanon.j0 k l0 (t482.length : Int) true t482 t485) = some true := by rw [if_neg (show ¬ (false = true) by decide)] at H; exact H
      clear H
      have H := H1
      clear H1
      have H' := Aside0.mk H
      clear H
      go_wp2
      go_meet
      case rel => exact ⟨_, (true), (by first | rfl | (simp; done) | (simp [*]; done)), H', ⟨by first | omega | exact Nat.le_refl _⟩, ⟨Kd.R_mono HO484.out (fun _ _ => trivial)⟩, ⟨Kd.R_mono HO487.out (fun _ _ => trivial)⟩, ⟨Kd.R_mono HO494.out (fun _ _ => trivial)⟩, ⟨Kd.R_mono HO497.out (fun _ _ => trivial)⟩, ⟨Kd.R_mono HO502.out (fun _ _ => trivial)⟩, ⟨Kd.R_mono HO505.out (fun _ _ => trivial)⟩, ⟨Kd.R_mono HO510.out (fun _ _ => trivial)⟩, ⟨Kd.R_mono HO513.out (fun _ _ => trivial)⟩, ⟨Kd.R_mono HO518.out (fun _ _ => trivial)⟩, ⟨Kd.R_mono HO521.out (fun _ _ => trivial)⟩, ⟨BK488.out⟩, ⟨BK499.out⟩, ⟨BK507.out⟩, ⟨BK515.out⟩, ⟨BK523.out⟩, ⟨HB.out⟩⟩
    ·replace c55 := Bool.eq_false_iff.mpr c55
     subst c55
     have H1 : (laws_FnCanon.j0 k l0 (t482.length : Int) true t482 t485) = some true := by rw [if_neg (show ¬ (false = true) by decide)] at H; exact H
     clear H
     have H := H1
     clear H1
     have H' := Aside0.mk H
     clear H
     go_wp2
     go_meet
     case rel => exact ⟨_, (true), (by first | rfl | (simp; done) | (simp [*]; done)), H', ⟨by first | omega | exact Nat.le_refl _⟩, ⟨Kd.R_mono HO484.out (fun _ _ => trivial)⟩, ⟨Kd.R_mono HO487.out (fun _ _ => trivial)⟩, ⟨Kd.R_mono HO494.out (fun _ _ => trivial)⟩, ⟨Kd.R_mono HO497.out (fun _ _ => trivial)⟩, ⟨Kd.R_mono HO502.out (fun _ _ => trivial)⟩, ⟨Kd.R_mono HO505.out (fun _ _ => trivial)⟩, ⟨Kd.R_mono HO510.out (fun _ _ => trivial)⟩, ⟨Kd.R_mono HO513.out (fun _ _ => trivial)⟩, ⟨Kd.R_mono HO518.out (fun _ _ => trivial)⟩, ⟨Kd.R_mono HO521.out (fun _ _ => trivial)⟩, ⟨BK488.out⟩, ⟨BK499.out⟩, ⟨BK507.out⟩, ⟨BK515.out⟩, ⟨BK523.out⟩, ⟨HB.out⟩⟩
   ·replace c54 := Bool.eq_false_iff.mpr c54
    subst c54
    have H1 : (laws_FnCanon.j0 k l0 (t482.length : Int) true t482 t485) = some true := by rw [if_neg (show ¬ (false = true) by decide)] at H; exact H
    clear H
    have H := H1
    clear H1
    have H' := Aside0.mk H
    clear H
    go_wp2
    go_meet
    case rel => exact ⟨_, (true), (by first | rfl | (simp; done) | (simp [*]; done)), H', ⟨by first | omega | exact Nat.le_refl _⟩, ⟨Kd.R_mono HO484.out (fun _ _ => trivial)⟩, ⟨Kd.R_mono HO487.out (fun _ _ => trivial)⟩, ⟨Kd.R_mono HO494.out (fun _ _ => trivial)⟩, ⟨Kd.R_mono HO497.out (fun _ _ => trivial)⟩, ⟨Kd.R_mono HO502.out (fun _ _ => trivial)⟩, ⟨Kd.R_mono HO505.out (fun _ _ => trivial)⟩, ⟨Kd.R_mono HO510.out (fun _ _ => trivial)⟩, ⟨Kd.R_mono HO513.out (fun _ _ => trivial)⟩, ⟨Kd.R_mono HO518.out (fun _ _ => trivial)⟩, ⟨Kd.R_mono HO521.out (fun _ _ => trivial)⟩, ⟨BK488.out⟩, ⟨BK499.out⟩, ⟨BK507.out⟩, ⟨BK515.out⟩, ⟨BK523.out⟩, ⟨HB.out⟩⟩
  case rest =>
   clear HC10
   try clear c1
   try clear c2
   try clear c2b0
   try clear c2b1
   try clear p2
   try clear c3
   try clear c4
   try clear c5
   try clear c6
   try clear c7
   try clear c8
   try clear c9
   try clear c10
   try clear c11
   try clear c12
   try clear c13
   try clear c14
   try clear c15
   try clear c16
   try clear c22
   try clear c24
   try clear c25
   try clear c26
   try clear c27
   try clear c28
   try clear c29
   try clear c30
   try clear c37
   try clear c38
   try clear c39
   try clear c46
   try clear c47
   try clear c48
   try clear c49
   try clear c54
   try clear c55
   try clear c56
   try clear c57
   try clear c59
   try clear c61
   try clear c63
   try clear c64
   try clear c64b0
   try clear c65
   try clear c66
   try clear c67
   try clear c68
   try clear c70
   try clear c71
   try clear c72
   try clear c76
   try clear c77
   try clear c80
   try clear c84
   try clear c84b0
   try clear c84b1
   try clear c85
   try clear c85b0
   try clear c85b1
   try clear c87
   try clear c88
   try clear c89
   try clear c90
   try clear c92
   try clear c93
   try clear c94
   try clear c98
   try clear c99
   try clear c102
   try clear c108
   try clear c109
   try clear c110
   try clear c111
   try clear c113
   try clear c114
   try clear c115
   try clear c119
   try clear c120
   try clear c123
   try clear c127
   try clear c128
   try clear c129
   try clear c130
   try clear c132
   try clear c133
   try clear c134
   try clear c138
   try clear c139
   try clear c142
   try clear c146
   try clear c147
   try clear c148
   try clear c149
   try clear c151
   try clear c152
   try clear c153
   try clear c157
   try clear c158
   try clear c161
   try clear c162
   try clear c163
   try clear c164
   try clear c166
   try clear c167
   try clear c168
   try clear hcz100_0
   try clear hcz100_1
   try clear hcz103_0
   try clear hcz103_1
   try clear hcz104_0
   try clear hcz104_1
   try clear hcz106_0
   try clear hcz106_1
   try clear hcz112_0
   try clear hcz112_1
   try clear hcz116_0
   try clear hcz116_1
   try clear hcz118_0
   try clear hcz118_1
   try clear hcz121_0
   try clear hcz121_1
   try clear hcz124_0
   try clear hcz124_1
   try clear hcz125_0
   try clear hcz125_1
   try clear hcz131_0
   try clear hcz131_1
   try clear hcz135_0
   try clear hcz135_1
   try clear hcz137_0
   try clear hcz137_1
   try clear hcz140_0
   try clear hcz140_1
   try clear hcz143_0
   try clear hcz143_1
   try clear hcz144_0
   try clear hcz144_1
   try clear hcz14_0
   try clear hcz14_1
   try clear hcz150_0
   try clear hcz150_1
   try clear hcz154_0
   try clear hcz154_1
   try clear hcz156_0
   try clear hcz156_1
   try clear hcz159_0
   try clear hcz159_1
   try clear hcz165_0
   try clear hcz165_1
   try clear hcz169_0
   try clear hcz169_1
   try clear hcz17_0
   try clear hcz17_1
   try clear hcz23_0
   try clear hcz23_1
   try clear hcz25_0
   try clear hcz25_1
   try clear hcz31_0
   try clear hcz31_1
   try clear hcz33_0
   try clear hcz33_1
   try clear hcz40_0
   try clear hcz40_1
   try clear hcz42_0
   try clear hcz42_1
   try clear hcz50_0
   try clear hcz50_1
   try clear hcz52_0
   try clear hcz52_1
   try clear hcz69_0
   try clear hcz69_1
   try clear hcz73_0
   try clear hcz73_1
   try clear hcz75_0
   try clear hcz75_1
   try clear hcz78_0
   try clear hcz78_1
   try clear hcz81_0
   try clear hcz81_1
   try clear hcz82_0
   try clear hcz82_1
   try clear hcz91_0
   try clear hcz91_1
   try clear hcz95_0
   try clear hcz95_1
   try clear hcz97_0
   try clear hcz97_1
   try clear hfz100_0
   try clear hfz100_1
   try clear hfz103_0
   try clear hfz103_1
   try clear hfz104_0
   try clear hfz104_1
   try clear hfz106_0
   try clear hfz106_1
   try clear hfz112_0
   try clear hfz112_1
   try clear hfz116_0
   try clear hfz116_1
   try clear hfz118_0
   try clear hfz118_1
   try clear hfz121_0
   try clear hfz121_1
   try clear hfz124_0
   try clear hfz124_1
   try clear hfz125_0
   try clear hfz125_1
   try clear hfz131_0
   try clear hfz131_1
   try clear hfz135_0
   try clear hfz135_1
   try clear hfz137_0
   try clear hfz137_1
   try clear hfz140_0
   try clear hfz140_1
   try clear hfz143_0
   try clear hfz143_1
   try clear hfz144_0
   try clear hfz144_1
   try clear hfz14_0
   try clear hfz14_1
   try clear hfz150_0
   try clear hfz150_1
   try clear hfz154_0
   try clear hfz154_1
   try clear hfz156_0
   try clear hfz156_1
   try clear hfz159_0
   try clear hfz159_1
   try clear hfz165_0
   try clear hfz165_1
   try clear hfz169_0
   try clear hfz169_1
   try clear hfz17_0
   try clear hfz17_1
   try clear hfz23_0
   try clear hfz23_1
   try clear hfz25_0
   try clear hfz25_1
   try clear hfz31_0
   try clear hfz31_1
   try clear hfz33_0
   try clear hfz33_1
   try clear hfz40_0
   try clear hfz40_1
   try clear hfz42_0
   try clear hfz42_1
   try clear hfz50_0
   try clear hfz50_1
   try clear hfz52_0
   try clear hfz52_1
   try clear hfz69_0
   try clear hfz69_1
   try clear hfz73_0
   try clear hfz73_1
   try clear hfz75_0
   try clear hfz75_1
   try clear hfz78_0
   try clear hfz78_1
   try clear hfz81_0
   try clear hfz81_1
   try clear hfz82_0
   try clear hfz82_1
   try clear hfz91_0
   try clear hfz91_1
   try clear hfz95_0
   try clear hfz95_1
   try clear hfz97_0
   try clear hfz97_1
   obtain ⟨kq, x99_9, rfl, HA, HJ9, HO_489000, HO_489001, HO_500000, HO_500001, HO_508000, HO_508001, HO_516000, HO_516001, HO_524000, HO_524001, BK488, BK499, BK507, BK515, BK523, HB⟩ := hcut
   cases kq with
   | zero => exact absurd HA.out (by simp [laws_FnCanon.j0])
   | succ kj9 =>
    have H := HA.out
    clear HA
    simp only [laws_FnCanon.j0] at H
    by_cases c171 : x99_9 = true
    ·subst c171
     have H1 : (some false) = some true := by rw [if_pos rfl] at H; exact H
     clear H
     have H := H1
     clear H1
     exact absurd H (by simp)
    ·replace c171 := Bool.eq_false_iff.mpr c171
     subst c171
     have H1 : ((spec_MakeNum.f kj9 l0 60).bind fun t529 => (if (t482.length : Int) = 0 then (none) else ((impl_NamesFrom.f kj9 t482 t485 (Int.tmod t529 (t482.length : Int))).bind fun t530 => ((impl_RenameSurface.f kj9 t482 t485 t530).bind fun bt533 => (if bt533.2.2 = true then ((impl_PermOk.f t530).bind fun t541 => (if t541 = true then (if (t530.length : Int) = (t482.length : Int) then ((impl_AreIsomorphic.f kj9 bt533.1 bt533.2.1 t482 t485).bind fun t542 => (if t542 = true then ((impl_CountSquares.f kj9 t482 t485).bind fun t543 => (some (t543 == (t482.length : Int)))) else (some false))) else (some false)) else (some false))) else (some false)))))) = some true := by rw [if_neg (show ¬ (false = true) by decide)] at H; exact H
     clear H
     have H := H1
     clear H1
     replace H := Option.bind_eq_some_iff.mp H
     obtain ⟨t529, A1720, H⟩ := H
     replace H : (if (t482.length : Int) = 0 then (none) else ((impl_NamesFrom.f kj9 t482 t485 (Int.tmod t529 (t482.length : Int))).bind fun t530 => ((impl_RenameSurface.f kj9 t482 t485 t530).bind fun bt533 => (if bt533.2.2 = true then ((impl_PermOk.f t530).bind fun t541 => (if t541 = true then (if (t530.length : Int) = (t482.length : Int) then ((impl_AreIsomorphic.f kj9 bt533.1 bt533.2.1 t482 t485).bind fun t542 => (if t542 = true then ((impl_CountSquares.f kj9 t482 t485).bind fun t543 => (some (t543 == (t482.length : Int)))) else (some false))) else (some false)) else (some false))) else (some false))))) = some true := H
     have A172 := Aside0.mk A1720
     clear A1720
     by_cases c173 : (t482.length : Int) = 0
     ·rw [if_pos c173] at H
      exact absurd H (by simp)
     ·rw [if_neg c173] at H
      have c173b0 : ((t482.length : Int) == 0) = false := beq_eq_false_iff_ne.mpr c173
      have c173b1 : ((t482.length : Int) != 0) = true := bne_iff_ne.mpr c173
      have c173b2 : ¬ (t482 = []) := fun h_ => c173 (by rw [h_]; rfl)
      replace H := Option.bind_eq_some_iff.mp H
      obtain ⟨t530, A1740, H⟩ := H
      replace H : ((impl_RenameSurface.f kj9 t482 t485 t530).bind fun bt533 => (if bt533.2.2 = true then ((impl_PermOk.f t530).bind fun t541 => (if t541 = true then (if (t530.length : Int) = (t482.length : Int) then ((impl_AreIsomorphic.f kj9 bt533.1 bt533.2.1 t482 t485).bind fun t542 => (if t542 = true then ((impl_CountSquares.f kj9 t482 t485).bind fun t543 => (some (t543 == (t482.length : Int)))) else (some false))) else (some false)) else (some false))) else (some false))) = some true := H
      have A174 := Aside0.mk A1740
      clear A1740
      replace H := Option.bind_eq_some_iff.mp H
      obtain ⟨⟨t533, t536, t539⟩, A1750, H⟩ := H
      replace H : (if t539 = true then ((impl_PermOk.f t530).bind fun t541 => (if t541 = true then (if (t530.length : Int) = (t482.length : Int) then ((impl_AreIsomorphic.f kj9 t533 t536 t482 t485).bind fun t542 => (if t542 = true then ((impl_CountSquares.f kj9 t482 t485).bind fun t543 => (some (t543 == (t482.length : Int)))) else (some false))) else (some false)) else (some false))) else (some false)) = some true := H
      have A175 := Aside0.mk A1750
      clear A1750
      by_cases c176 : t539 = true
      ·subst c176
       have H1 : ((impl_PermOk.f t530).bind fun t541 => (if t541 = true then (if (t530.length : Int) = (t482.length : Int) then ((impl_AreIsomorphic.f kj9 t533 t536 t482 t485).bind fun t542 => (if t542 = true then ((impl_CountSquares.f kj9 t482 t485).bind fun t543 => (some (t543 == (t482.length : Int)))) else (some false))) else (some false)) else (some false))) = some true := by rw [if_pos rfl] at H; exact H
       clear H
       have H := H1
       clear H1
       replace H := Option.bind_eq_some_iff.mp H
       obtain ⟨t541, A1770, H⟩ := H
       replace H : (if t541 = true then (if (t530.length : Int) = (t482.length : Int) then ((impl_AreIsomorphic.f kj9 t533 t536 t482 t485).bind fun t542 => (if t542 = true then ((impl_CountSquares.f kj9 t482 t485).bind fun t543 => (some (t543 == (t482.length : Int)))) else (some false))) else (some false)) else (some false)) = some true := H
       have A177 := Aside0.mk A1770
       clear A1770
       by_cases c178 : t541 = true
       ·subst c178
        have H1 : (if (t530.length : Int) = (t482.length : Int) then ((impl_AreIsomorphic.f kj9 t533 t536 t482 t485).bind fun t542 => (if t542 = true then ((impl_CountSquares.f kj9 t482 t485).bind fun t543 => (some (t543 == (t482.length : Int)))) else (some false))) else (some false)) = some true := by rw [if_pos rfl] at H; exact H
        clear H
        have H := H1
        clear H1
        by_cases c179 : (t530.length : Int) = (t482.length : Int)
        ·rw [if_pos c179] at H
         have c179b0 : ((t530.length : Int) == (t482.length : Int)) = true := beq_iff_eq.mpr c179
         have c179b1 : ((t530.length : Int) != (t482.length : Int)) = false := bne_eq_false_iff_eq.mpr c179
         have c179b2 : (t530.length == t482.length) = true := by first | simpa using c179 | (simp at c179 ⊢; omega)
         clear c179
         replace H := Option.bind_eq_some_iff.mp H
         obtain ⟨t542, A1800, H⟩ := H
         replace H : (if t542 = true then ((impl_CountSquares.f kj9 t482 t485).bind fun t543 => (some (t543 == (t482.length : Int)))) else (some false)) = some true := H
         have A180 := Aside0.mk A1800
         clear A1800
         by_cases c181 : t542 = true
         ·subst c181
          have H1 : ((impl_CountSquares.f kj9 t482 t485).bind fun t543 => (some (t543 == (t482.length : Int)))) = some true := by rw [if_pos rfl] at H; exact H
          clear H
          have H := H1
          clear H1
          replace H := Option.bind_eq_some_iff.mp H
          obtain ⟨t543, A1820, H⟩ := H
          replace H : (some (t543 == (t482.length : Int))) = some true := H
          have A182 := Aside0.mk A1820
          clear A1820
          have hr_ := Option.some.inj H
          clear H
          try go_wp2
          have n0_ := Aside0.mk (Kd.R_drew HO_489000.out)
          have n1_ := Aside0.mk (Kd.R_drew HO_489001.out)
          have n2_ := Aside0.mk (Kd.R_drew HO_500000.out)
          have n3_ := Aside0.mk (Kd.R_drew HO_500001.out)
          have n4_ := Aside0.mk (Kd.R_drew HO_508000.out)
          have n5_ := Aside0.mk (Kd.R_drew HO_508001.out)
          have n6_ := Aside0.mk (Kd.R_drew HO_516000.out)
          have n7_ := Aside0.mk (Kd.R_drew HO_516001.out)
          have n8_ := Aside0.mk (Kd.R_drew HO_524000.out)
          have n9_ := Aside0.mk (Kd.R_drew HO_524001.out)
          have n10_ := Aside0.mk (blk_drew BK488.out)
          have n11_ := Aside0.mk (blk_drew BK499.out)
          have n12_ := Aside0.mk (blk_drew BK507.out)
          have n13_ := Aside0.mk (blk_drew BK515.out)
          have n14_ := Aside0.mk (blk_drew BK523.out)
          have n15_ := Aside0.mk (below_drew1 HB.out)
          clear HO_489000 HO_489001 HO_500000 HO_500001 HO_508000 HO_508001 HO_516000 HO_516001 HO_524000 HO_524001 BK488 BK499 BK507 BK515 BK523 HB
          have HO_489000 := n0_
          have HO_489001 := n1_
          have HO_500000 := n2_
          have HO_500001 := n3_
          have HO_508000 := n4_
          have HO_508001 := n5_
          have HO_516000 := n6_
          have HO_516001 := n7_
          have HO_524000 := n8_
          have HO_524001 := n9_
          have BK488 := n10_
          have BK499 := n11_
          have BK507 := n12_
          have BK515 := n13_
          have BK523 := n14_
          have HB := n15_
          clear n0_ n1_ n2_ n3_ n4_ n5_ n6_ n7_ n8_ n9_ n10_ n11_ n12_ n13_ n14_ n15_
          refine start_ (n := 7) (S := fun w' => w'.cell? ⟨gb488, 0, none⟩ = some (.slice Ao13 t482.length co13) ∧ w'.cell? ⟨gb488, 1, none⟩ = some (.slice Ao15 t485.length co15)) (ds := []) #[false, false, false, false, false, false, false] (by kernel_rfl) rfl rfl ⟨(blk_cell BK488.out 0).trans rfl, (blk_cell BK488.out 1).trans rfl⟩ (fun hHeld => ?_)
          generalize wc.drew = w183 at HO_489000 HO_489001 HO_500000 HO_500001 HO_508000 HO_508001 HO_516000 HO_516001 HO_524000 HO_524001 BK488 BK499 BK507 BK515 BK523 HB hHeld ⊢
          refine pure_ (i := 1) (N := some 101) (v := ?_) (a' := ?_) #[false, true, false, false, false, false, false] rfl rfl (by kernel_rfl) (fun _ _ _ h => h) (Or.inl ⟨by rfl, ?_⟩) ?_ ?_
          rotate_left
          ·intro w'
           go_simp
           with_reducible rfl
          rotate_left
          ·simp only [Act.put, List.setIfInBounds_toArray, List.set_cons_zero, List.set_cons_succ, i64_w, i32_w]
           rfl
          refine pure_ (i := 3) (N := some 103) (v := ?_) (a' := ?_) #[false, true, false, true, false, false, false] rfl rfl (by kernel_rfl) (fun _ _ _ h => h) (Or.inl ⟨by rfl, ?_⟩) ?_ ?_
          rotate_left
          ·intro w'
           go_simp
           with_reducible rfl
          rotate_left
          ·simp only [Act.put, List.setIfInBounds_toArray, List.set_cons_zero, List.set_cons_succ, i64_w, i32_w]
           rfl
          refine take_ (i := 0) (N := some 100) (v := ?_) (a' := ?_) #[true, true, false, true, false, false, false] rfl rfl (by kernel_rfl) (fun _ _ _ h => h) (Or.inl ⟨by rfl, ?_⟩) hHeld ?_ ?_
          rotate_left
          ·rintro w' ⟨s0, s1⟩
           go_simp
           with_reducible rfl
          rotate_left
          ·simp only [Act.put, List.setIfInBounds_toArray, List.set_cons_zero, List.set_cons_succ, i64_w, i32_w]
           rfl
          refine one_ (i := 2) (N := some 102) #[true, true, true, true, false, false, false] rfl rfl (by kernel_rfl) (by decide) (fun K hK => ?_)
          refine goes_ Try.func32 (by kernel_rfl) rfl #[.slice A0 l0.length c0, .int .i64 60] (by rfl) rfl rfl (by (try simp only [List.map_toArray, List.map_cons, List.map_nil]); first | done | rfl | (simp only [List.length_drop, List.length_take]; rfl)) ?_
          with_reducible refine (spec_MakeNum.calls kj9 _ _ l0 60 t529 _ ?side1 ?side2 A172.out).mono ?_
          (case side1 => repeat (first | exact (Kd.C_below HR0.out HB.out) | (with_reducible refine Kd.C_alloc ?_ _) | (with_reducible refine Kd.C_drewN ?_ _) | (with_reducible refine Kd.C_drew ?_)))
          (case side2 => exact HC0.out)
          rintro e w184 ⟨rfl, hb⟩
          refine ⟨_, rfl, ?_⟩
          have n0_ := Aside0.mk (Kd.R_below (HO_489000.out) hb)
          have n1_ := Aside0.mk (Kd.R_below (HO_489001.out) hb)
          have n2_ := Aside0.mk (Kd.R_below (HO_500000.out) hb)
          have n3_ := Aside0.mk (Kd.R_below (HO_500001.out) hb)
          have n4_ := Aside0.mk (Kd.R_below (HO_508000.out) hb)
          have n5_ := Aside0.mk (Kd.R_below (HO_508001.out) hb)
          have n6_ := Aside0.mk (Kd.R_below (HO_516000.out) hb)
          have n7_ := Aside0.mk (Kd.R_below (HO_516001.out) hb)
          have n8_ := Aside0.mk (Kd.R_below (HO_524000.out) hb)
          have n9_ := Aside0.mk (Kd.R_below (HO_524001.out) hb)
          have n10_ := Aside0.mk (blk_below (g := gb488) (o := .cells #[.slice Ao13 t482.length co13, .slice Ao15 t485.length co15] 33 (0, 0)) (BK488.out) hb)
          have n11_ := Aside0.mk (blk_below (g := gb499) (o := .cells #[.slice Ao21 t492.length co21, .slice Ao24 t495.length co24] 33 (0, 0)) (BK499.out) hb)
          have n12_ := Aside0.mk (blk_below (g := gb507) (o := .cells #[.slice Ao28 t500.length co28, .slice Ao32 t503.length co32] 33 (0, 0)) (BK507.out) hb)
          have n13_ := Aside0.mk (blk_below (g := gb515) (o := .cells #[.slice Ao36 t508.length co36, .slice Ao41 t511.length co41] 33 (0, 0)) (BK515.out) hb)
          have n14_ := Aside0.mk (blk_below (g := gb523) (o := .cells #[.slice Ao45 t516.length co45, .slice Ao51 t519.length co51] 33 (0, 0)) (BK523.out) hb)
          have n15_ := Aside0.mk (below_step (HB.out) hb)
          clear HO_489000 HO_489001 HO_500000 HO_500001 HO_508000 HO_508001 HO_516000 HO_516001 HO_524000 HO_524001 BK488 BK499 BK507 BK515 BK523 HB
          have HO_489000 := n0_
          have HO_489001 := n1_
          have HO_500000 := n2_
          have HO_500001 := n3_
          have HO_508000 := n4_
          have HO_508001 := n5_
          have HO_516000 := n6_
          have HO_516001 := n7_
          have HO_524000 := n8_
          have HO_524001 := n9_
          have BK488 := n10_
          have BK499 := n11_
          have BK507 := n12_
          have BK515 := n13_
          have BK523 := n14_
          have HB := n15_
          clear n0_ n1_ n2_ n3_ n4_ n5_ n6_ n7_ n8_ n9_ n10_ n11_ n12_ n13_ n14_ n15_
          (try clear hb)
          (try clear hb2)
          (try clear hk)
          (try clear hi)
          refine hK.out _ _ ⟨(blk_cell BK488.out 0).trans rfl, (blk_cell BK488.out 1).trans rfl⟩ (fun hHeld => ?_)
          clear hK K
          refine norm_ (a' := ?_) ?_ ?_
          rotate_left
          ·show Act.put _ (some 102) _ = _
           simp only [Act.put, List.setIfInBounds_toArray, List.set_cons_zero, List.set_cons_succ, i64_w, i32_w]
           rfl
          refine pure_ (i := 4) (N := some 104) (v := ?_) (a' := ?_) #[true, true, true, true, true, false, false] rfl rfl (by kernel_rfl) (fun _ _ _ h => h) (Or.inl ⟨by rfl, ?_⟩) ?_ ?_
          rotate_left
          ·intro w'
           go_simp
           with_reducible rfl
          rotate_left
          ·simp only [Act.put, List.setIfInBounds_toArray, List.set_cons_zero, List.set_cons_succ, i64_w, i32_w]
           rfl
          refine one_ (i := 5) (N := some 105) #[true, true, true, true, true, true, false] rfl rfl (by kernel_rfl) (by decide) (fun K hK => ?_)
          refine goes_ Try.func31 (by kernel_rfl) rfl #[.agg #[.slice Ao13 t482.length co13, .slice Ao15 t485.length co15], .int .i64 (Int.tmod t529 (t482.length : Int))] (by rfl) rfl rfl (by (try simp only [List.map_toArray, List.map_cons, List.map_nil]); first | done | rfl | (simp only [List.length_drop, List.length_take]; rfl)) ?_
          with_reducible refine (impl_NamesFrom.calls kj9 _ _ t482 _ _ t485 (Int.tmod t529 (t482.length : Int)) t530 _ ?side1 ?side2 ?side3 ?side4 A174.out).mono ?_
          (case side1 => repeat (first | exact (Kd.R_reads' HO_489000.out).2.2 | (with_reducible refine Kd.C_alloc ?_ _) | (with_reducible refine Kd.C_drewN ?_ _) | (with_reducible refine Kd.C_drew ?_)))
          (case side2 => exact (Kd.R_reads' HO_489000.out).2.1)
          (case side3 => repeat (first | exact (Kd.R_reads' HO_489001.out).2.2 | (with_reducible refine Kd.C_alloc ?_ _) | (with_reducible refine Kd.C_drewN ?_ _) | (with_reducible refine Kd.C_drew ?_)))
          (case side4 => exact (Kd.R_reads' HO_489001.out).2.1)
          rintro e w185 ⟨v531, rfl, ho0, hb⟩
          refine ⟨_, rfl, ?_⟩
          have n0_ := Aside0.mk (Kd.R_below (HO_489000.out) hb)
          have n1_ := Aside0.mk (Kd.R_below (HO_489001.out) hb)
          have n2_ := Aside0.mk (Kd.R_below (HO_500000.out) hb)
          have n3_ := Aside0.mk (Kd.R_below (HO_500001.out) hb)
          have n4_ := Aside0.mk (Kd.R_below (HO_508000.out) hb)
          have n5_ := Aside0.mk (Kd.R_below (HO_508001.out) hb)
          have n6_ := Aside0.mk (Kd.R_below (HO_516000.out) hb)
          have n7_ := Aside0.mk (Kd.R_below (HO_516001.out) hb)
          have n8_ := Aside0.mk (Kd.R_below (HO_524000.out) hb)
          have n9_ := Aside0.mk (Kd.R_below (HO_524001.out) hb)
          have n10_ := Aside0.mk (R_fresh ho0 (below_size (HB.out)))
          have n11_ := Aside0.mk (blk_below (g := gb488) (o := .cells #[.slice Ao13 t482.length co13, .slice Ao15 t485.length co15] 33 (0, 0)) (BK488.out) hb)
          have n12_ := Aside0.mk (blk_below (g := gb499) (o := .cells #[.slice Ao21 t492.length co21, .slice Ao24 t495.length co24] 33 (0, 0)) (BK499.out) hb)
          have n13_ := Aside0.mk (blk_below (g := gb507) (o := .cells #[.slice Ao28 t500.length co28, .slice Ao32 t503.length co32] 33 (0, 0)) (BK507.out) hb)
          have n14_ := Aside0.mk (blk_below (g := gb515) (o := .cells #[.slice Ao36 t508.length co36, .slice Ao41 t511.length co41] 33 (0, 0)) (BK515.out) hb)
          have n15_ := Aside0.mk (blk_below (g := gb523) (o := .cells #[.slice Ao45 t516.length co45, .slice Ao51 t519.length co51] 33 (0, 0)) (BK523.out) hb)
          have n16_ := Aside0.mk (below_step (HB.out) hb)
          clear HO_489000 HO_489001 HO_500000 HO_500001 HO_508000 HO_508001 HO_516000 HO_516001 HO_524000 HO_524001 BK488 BK499 BK507 BK515 BK523 HB
          have HO_489000 := n0_
          have HO_489001 := n1_
          have HO_500000 := n2_
          have HO_500001 := n3_
          have HO_508000 := n4_
          have HO_508001 := n5_
          have HO_516000 := n6_
          have HO_516001 := n7_
          have HO_524000 := n8_
          have HO_524001 := n9_
          have HO532 := n10_
          have BK488 := n11_
          have BK499 := n12_
          have BK507 := n13_
          have BK515 := n14_
          have BK523 := n15_
          have HB := n16_
          clear n0_ n1_ n2_ n3_ n4_ n5_ n6_ n7_ n8_ n9_ n10_ n11_ n12_ n13_ n14_ n15_ n16_
          (try clear hb)
          (try clear hb2)
          (try clear hk)
          (try clear hi)
          (try clear ho0)
          refine hK.out _ _ ⟨(blk_cell BK488.out 0).trans rfl, (blk_cell BK488.out 1).trans rfl⟩ (fun hHeld => ?_)
          clear hK K
          refine norm_ (a' := ?_) ?_ ?_
          rotate_left
          ·show Act.put _ (some 105) _ = _
           simp only [Act.put, List.setIfInBounds_toArray, List.set_cons_zero, List.set_cons_succ, i64_w, i32_w]
           rfl
          refine pure_ (i := 6) (N := some 15) (v := ?_) (a' := ?_) #[true, true, true, true, true, true, true] rfl rfl (by kernel_rfl) (fun _ _ _ h => h) (Or.inl ⟨by rfl, ?_⟩) ?_ ?_
          rotate_left
          ·intro w'
           go_simp
           with_reducible rfl
          rotate_left
          ·simp only [Act.put, List.setIfInBounds_toArray, List.set_cons_zero, List.set_cons_succ, i64_w, i32_w]
           rfl
          refine done_ (by kernel_rfl) ?_
          have hnb186 := NB488_499.out
          have hnc186 := NB499_488.out
          have hnb187 := NB488_507.out
          have hnc187 := NB507_488.out
          have hnb188 := NB488_515.out
          have hnc188 := NB515_488.out
          have hnb189 := NB488_523.out
          have hnc189 := NB523_488.out
          have hcz190_0 : w185.cell? ⟨gb488, 0, none⟩ = some (.slice Ao13 t482.length co13) := (blk_cell BK488.out 0).trans rfl
          have hcz190_1 : w185.cell? ⟨gb488, 1, none⟩ = some (.slice Ao15 t485.length co15) := (blk_cell BK488.out 1).trans rfl
          have hfz190_0 := blk_frozen BK488.out 0
          have hfz190_1 := blk_frozen BK488.out 1
          obtain ⟨Ao191, co191, eo191⟩ := Kd.R_slice HO532.out
          subst eo191
          try go_wp2_with (first | ((with_reducible refine gate_callee (f := 26) rfl ?_); refine goesL_ (some 109) rfl rfl Try.func26 (by kernel_rfl) rfl #[.agg #[.slice Ao13 t482.length co13, .slice Ao15 t485.length co15], .slice Ao191 t530.length co191] rfl (by (try simp only [List.map_toArray, List.map_cons, List.map_nil]); first | done | rfl | (simp only [List.length_drop, List.length_take]; rfl)) ?_; (with_reducible refine (impl_RenameSurface.calls kj9 _ _ t482 _ _ t485 _ _ t530 t533 t536 true _ ?side1 ?side2 ?side3 ?side4 ?side5 ?side6 A175.out).mono ?_); (case side1 => repeat (first | exact (Kd.R_reads' HO_489000.out).2.2 | (with_reducible refine Kd.C_alloc ?_ _) | (with_reducible refine Kd.C_drewN ?_ _) | (with_reducible refine Kd.C_drew ?_))); (case side2 => exact (Kd.R_reads' HO_489000.out).2.1); (case side3 => repeat (first | exact (Kd.R_reads' HO_489001.out).2.2 | (with_reducible refine Kd.C_alloc ?_ _) | (with_reducible refine Kd.C_drewN ?_ _) | (with_reducible refine Kd.C_drew ?_))); (case side4 => exact (Kd.R_reads' HO_489001.out).2.1); (case side5 => repeat (first | exact (Kd.R_reads' HO532.out).2.2 | (with_reducible refine Kd.C_alloc ?_ _) | (with_reducible refine Kd.C_drewN ?_ _) | (with_reducible refine Kd.C_drew ?_))); (case side6 => exact (Kd.R_reads' HO532.out).2.1); rintro e w192 ⟨v534, v537, rfl, ho0, ho1, hb⟩; refine ⟨_, rfl, ?_⟩; have n0_ := Aside0.mk (Kd.R_below (by (with_reducible repeat (first | apply Kd.R_alloc | apply Kd.R_drewN | apply Kd.R_drew)); exact HO_489000.out) hb); have n1_ := Aside0.mk (Kd.R_below (by (with_reducible repeat (first | apply Kd.R_alloc | apply Kd.R_drewN | apply Kd.R_drew)); exact HO_489001.out) hb); have n10_ := Aside0.mk (Kd.R_below (by (with_reducible repeat (first | apply Kd.R_alloc | apply Kd.R_drewN | apply Kd.R_drew)); exact HO532.out) hb); have n11_ := Aside0.mk (R_fresh ho0 (below_size (by repeat (first | (with_reducible first | exact HB.out | apply below_alloc | apply pw_below_drewN | apply below_drew1 | refine below_set ?_ GE488.out | refine below_set ?_ GE499.out | refine below_set ?_ GE507.out | refine below_set ?_ GE515.out | refine below_set ?_ GE523.out) | exact HB.out)))); have n12_ := Aside0.mk (R_fresh ho1 (below_size (by repeat (first | (with_reducible first | exact HB.out | apply below_alloc | apply pw_below_drewN | apply below_drew1 | refine below_set ?_ GE488.out | refine below_set ?_ GE499.out | refine below_set ?_ GE507.out | refine below_set ?_ GE515.out | refine below_set ?_ GE523.out) | exact HB.out)))); have n13_ := Aside0.mk (blk_below (g := gb488) (o := .cells #[.slice Ao13 t482.length co13, .slice Ao15 t485.length co15] 33 (0, 0)) (by (with_reducible repeat (first | refine blk_drewN ?_ _ | refine blk_drew ?_ | refine blk_alloc ?_ _)); exact BK488.out) hb); have n14_ := Aside0.mk (blk_below (g := gb499) (o := .cells #[.slice Ao21 t492.length co21, .slice Ao24 t495.length co24] 33 (0, 0)) (by (with_reducible repeat (first | refine blk_drewN ?_ _ | refine blk_drew ?_ | refine blk_alloc ?_ _)); exact BK499.out) hb); have n15_ := Aside0.mk (blk_below (g := gb507) (o := .cells #[.slice Ao28 t500.length co28, .slice Ao32 t503.length co32] 33 (0, 0)) (by (with_reducible repeat (first | refine blk_drewN ?_ _ | refine blk_drew ?_ | refine blk_alloc ?_ _)); exact BK507.out) hb); have n16_ := Aside0.mk (blk_below (g := gb515) (o := .cells #[.slice Ao36 t508.length co36, .slice Ao41 t511.length co41] 33 (0, 0)) (by (with_reducible repeat (first | refine blk_drewN ?_ _ | refine blk_drew ?_ | refine blk_alloc ?_ _)); exact BK515.out) hb); have n17_ := Aside0.mk (blk_below (g := gb523) (o := .cells #[.slice Ao45 t516.length co45, .slice Ao51 t519.length co51] 33 (0, 0)) (by (with_reducible repeat (first | refine blk_drewN ?_ _ | refine blk_drew ?_ | refine blk_alloc ?_ _)); exact BK523.out) hb); have n18_ := Aside0.mk (below_step (by repeat (first | (with_reducible first | exact HB.out | apply below_alloc | apply pw_below_drewN | apply below_drew1 | refine below_set ?_ GE488.out | refine below_set ?_ GE499.out | refine below_set ?_ GE507.out | refine below_set ?_ GE515.out | refine below_set ?_ GE523.out) | exact HB.out)) hb); clear HO_489000; clear HO_489001; clear HO_500000; clear HO_500001; clear HO_508000; clear HO_508001; clear HO_516000; clear HO_516001; clear HO_524000; clear HO_524001; clear HO532; clear BK488; clear BK499; clear BK507; clear BK515; clear BK523; clear HB; have HO_489000 := n0_; have HO_489001 := n1_; have HO532 := n10_; have HO535 := n11_; have HO538 := n12_; have BK488 := n13_; have BK499 := n14_; have BK507 := n15_; have BK515 := n16_; have BK523 := n17_; have HB := n18_; clear n0_ n1_ n10_ n11_ n12_ n13_ n14_ n15_ n16_ n17_ n18_; (try clear hb); (try clear hb2); (try clear hk); (try clear hi); (try clear ho0); (try clear ho1)) | ((with_reducible refine gate_dst (N := 16) rfl ?_); (try (refine gate_guard (by rfl) ?_; dsimp only)); refine box_event ?hg (N := 16) ?hd (cs := #[.slice none 0 0, .slice none 0 0]) (t := 33) ?hr ?_; (case hd => rfl); (case hg => rfl); (case hr => first | (go_simp; done) | (go_simp; rfl)); intro gb540 hg w193 hbox hb; have n0_ := Aside0.mk (Kd.R_below (by (with_reducible repeat (first | apply Kd.R_alloc | apply Kd.R_drewN | apply Kd.R_drew)); exact HO_489000.out) hb); have n1_ := Aside0.mk (Kd.R_below (by (with_reducible repeat (first | apply Kd.R_alloc | apply Kd.R_drewN | apply Kd.R_drew)); exact HO_489001.out) hb); have n10_ := Aside0.mk (Kd.R_below (by (with_reducible repeat (first | apply Kd.R_alloc | apply Kd.R_drewN | apply Kd.R_drew)); exact HO532.out) hb); have n11_ := Aside0.mk (Kd.R_below (by (with_reducible repeat (first | apply Kd.R_alloc | apply Kd.R_drewN | apply Kd.R_drew)); exact HO535.out) hb); have n12_ := Aside0.mk (Kd.R_below (by (with_reducible repeat (first | apply Kd.R_alloc | apply Kd.R_drewN | apply Kd.R_drew)); exact HO538.out) hb); have n13_ := Aside0.mk (blk_below (g := gb488) (o := .cells #[.slice Ao13 t482.length co13, .slice Ao15 t485.length co15] 33 (0, 0)) (by (with_reducible repeat (first | refine blk_drewN ?_ _ | refine blk_drew ?_ | refine blk_alloc ?_ _)); exact BK488.out) hb); have n18_ := Aside0.mk (below_step (by repeat (first | (with_reducible first | exact HB.out | apply below_alloc | apply pw_below_drewN | apply below_drew1 | refine below_set ?_ GE488.out | refine below_set ?_ GE499.out | refine below_set ?_ GE507.out | refine below_set ?_ GE515.out | refine below_set ?_ GE523.out) | exact HB.out)) hb); have n19_ := Aside0.mk (hbox); have n20_ := Aside0.mk ((by rw [hg]; exact (below_size (by repeat (first | (with_reducible first | exact HB.out | apply below_alloc | apply pw_below_drewN | apply below_drew1 | refine below_set ?_ GE488.out | refine below_set ?_ GE499.out | refine below_set ?_ GE507.out | refine below_set ?_ GE515.out | refine below_set ?_ GE523.out) | exact HB.out))) : w.heap.size ≤ gb540)); have n21_ := Aside0.mk ((by rw [hg]; exact (below_size (by repeat (first | (with_reducible first | exact HB.out | apply below_alloc | apply pw_below_drewN | apply below_drew1 | refine below_set ?_ GE488.out | refine below_set ?_ GE499.out | refine below_set ?_ GE507.out | refine below_set ?_ GE515.out | refine below_set ?_ GE523.out) | exact HB.out))) : w.heap.size ≤ gb540)); have n22_ := Aside0.mk ((by rw [hg]; exact Nat.ne_of_lt (blk_lt (g := gb488) (o := .cells #[.slice Ao13 t482.length co13, .slice Ao15 t485.length co15] 33 (0, 0)) (by (with_reducible repeat (first | refine blk_drewN ?_ _ | refine blk_drew ?_ | refine blk_alloc ?_ _)); exact BK488.out)) : gb488 ≠ gb540)); have n23_ := Aside0.mk ((by rw [hg]; exact Nat.ne_of_gt (blk_lt (g := gb488) (o := .cells #[.slice Ao13 t482.length co13, .slice Ao15 t485.length co15] 33 (0, 0)) (by (with_reducible repeat (first | refine blk_drewN ?_ _ | refine blk_drew ?_ | refine blk_alloc ?_ _)); exact BK488.out)) : gb540 ≠ gb488)); have n24_ := Aside0.mk ((by rw [hg]; exact Nat.ne_of_lt (blk_lt (g := gb499) (o := .cells #[.slice Ao21 t492.length co21, .slice Ao24 t495.length co24] 33 (0, 0)) (by (with_reducible repeat (first | refine blk_drewN ?_ _ | refine blk_drew ?_ | refine blk_alloc ?_ _)); exact BK499.out)) : gb499 ≠ gb540)); have n25_ := Aside0.mk ((by rw [hg]; exact Nat.ne_of_gt (blk_lt (g := gb499) (o := .cells #[.slice Ao21 t492.length co21, .slice Ao24 t495.length co24] 33 (0, 0)) (by (with_reducible repeat (first | refine blk_drewN ?_ _ | refine blk_drew ?_ | refine blk_alloc ?_ _)); exact BK499.out)) : gb540 ≠ gb499)); have n26_ := Aside0.mk ((by rw [hg]; exact Nat.ne_of_lt (blk_lt (g := gb507) (o := .cells #[.slice Ao28 t500.length co28, .slice Ao32 t503.length co32] 33 (0, 0)) (by (with_reducible repeat (first | refine blk_drewN ?_ _ | refine blk_drew ?_ | refine blk_alloc ?_ _)); exact BK507.out)) : gb507 ≠ gb540)); have n27_ := Aside0.mk ((by rw [hg]; exact Nat.ne_of_gt (blk_lt (g := gb507) (o := .cells #[.slice Ao28 t500.length co28, .slice Ao32 t503.length co32] 33 (0, 0)) (by (with_reducible repeat (first | refine blk_drewN ?_ _ | refine blk_drew ?_ | refine blk_alloc ?_ _)); exact BK507.out)) : gb540 ≠ gb507)); have n28_ := Aside0.mk ((by rw [hg]; exact Nat.ne_of_lt (blk_lt (g := gb515) (o := .cells #[.slice Ao36 t508.length co36, .slice Ao41 t511.length co41] 33 (0, 0)) (by (with_reducible repeat (first | refine blk_drewN ?_ _ | refine blk_drew ?_ | refine blk_alloc ?_ _)); exact BK515.out)) : gb515 ≠ gb540)); have n29_ := Aside0.mk ((by rw [hg]; exact Nat.ne_of_gt (blk_lt (g := gb515) (o := .cells #[.slice Ao36 t508.length co36, .slice Ao41 t511.length co41] 33 (0, 0)) (by (with_reducible repeat (first | refine blk_drewN ?_ _ | refine blk_drew ?_ | refine blk_alloc ?_ _)); exact BK515.out)) : gb540 ≠ gb515)); have n30_ := Aside0.mk ((by rw [hg]; exact Nat.ne_of_lt (blk_lt (g := gb523) (o := .cells #[.slice Ao45 t516.length co45, .slice Ao51 t519.length co51] 33 (0, 0)) (by (with_reducible repeat (first | refine blk_drewN ?_ _ | refine blk_drew ?_ | refine blk_alloc ?_ _)); exact BK523.out)) : gb523 ≠ gb540)); have n31_ := Aside0.mk ((by rw [hg]; exact Nat.ne_of_gt (blk_lt (g := gb523) (o := .cells #[.slice Ao45 t516.length co45, .slice Ao51 t519.length co51] 33 (0, 0)) (by (with_reducible repeat (first | refine blk_drewN ?_ _ | refine blk_drew ?_ | refine blk_alloc ?_ _)); exact BK523.out)) : gb540 ≠ gb523)); clear HO_489000; clear HO_489001; clear HO532; clear HO535; clear HO538; clear BK488; clear BK499; clear BK507; clear BK515; clear BK523; clear HB; have HO_489000 := n0_; have HO_489001 := n1_; have HO532 := n10_; have HO535 := n11_; have HO538 := n12_; have BK488 := n13_; have HB := n18_; have BK540 := n19_; have GW540 := n20_; have GE540 := n21_; have NB488_540 := n22_; have NB540_488 := n23_; have NB499_540 := n24_; have NB540_499 := n25_; have NB507_540 := n26_; have NB540_507 := n27_; have NB515_540 := n28_; have NB540_515 := n29_; have NB523_540 := n30_; have NB540_523 := n31_; clear n0_ n1_ n10_ n11_ n12_ n13_ n18_ n19_ n20_ n21_ n22_ n23_ n24_ n25_ n26_ n27_ n28_ n29_ n30_ n31_; clear hb hbox hg; obtain ⟨Ao194, co194, eo194⟩ := Kd.R_slice HO535.out; subst eo194; have hnb195 := NB540_488.out; have hnc195 := NB488_540.out; have hnb196 := NB540_499.out; have hnc196 := NB499_540.out; have hnb197 := NB540_507.out; have hnc197 := NB507_540.out; have hnb198 := NB540_515.out; have hnc198 := NB515_540.out; have hnb199 := NB540_523.out; have hnc199 := NB523_540.out; have hcz200_0 : w193.cell? ⟨gb540, 0, none⟩ = some (.slice none 0 0) := (blk_cell BK540.out 0).trans rfl; have hcz200_1 : w193.cell? ⟨gb540, 1, none⟩ = some (.slice none 0 0) := (blk_cell BK540.out 1).trans rfl; have hfz200_0 := blk_frozen BK540.out 0; have hfz200_1 := blk_frozen BK540.out 1; obtain ⟨Ao201, co201, eo201⟩ := Kd.R_slice HO538.out; subst eo201) | (go_at_call 33; (with_reducible refine (impl_PermOk.calls _ _ t530 true _ ?side1 ?side2 A177.out).mono ?_); (case side1 => refine (Kd.R_reads' (e := 3) (base := w.heap.size) (ok := fun _ => True) (n := t530.length) (c := co191) ?_).2.2; exact (by (with_reducible repeat (first | apply Kd.R_alloc | apply Kd.R_drewN | apply Kd.R_drew)); exact (Kd.R_mono (Kd.R_far (p := ⟨gb540, 1, none⟩) (Kd.R_far (p := ⟨gb540, 0, none⟩) (Kd.R_types HO532.out BK540.out (by decide)) (fun _ hk => hk.2) (.slice Ao194 t533.length co194)) (fun _ hk => hk.2) (.slice Ao201 t536.length co201)) (fun _ _ => trivial)))); (case side2 => exact (Kd.R_reads' HO532.out).2.1); rintro e w202 ⟨rfl, hb⟩; have n0_ := Aside0.mk (Kd.R_below (by (with_reducible repeat (first | apply Kd.R_alloc | apply Kd.R_drewN | apply Kd.R_drew)); exact (Kd.R_mono (Kd.R_far (p := ⟨gb540, 1, none⟩) (Kd.R_far (p := ⟨gb540, 0, none⟩) (Kd.R_types HO_489000.out BK540.out (by decide)) (fun _ hk => hk.2) (.slice Ao194 t533.length co194)) (fun _ hk => hk.2) (.slice Ao201 t536.length co201)) (fun _ _ => trivial))) hb); have n1_ := Aside0.mk (Kd.R_below (by (with_reducible repeat (first | apply Kd.R_alloc | apply Kd.R_drewN | apply Kd.R_drew)); exact (Kd.R_mono (Kd.R_far (p := ⟨gb540, 1, none⟩) (Kd.R_far (p := ⟨gb540, 0, none⟩) (Kd.R_types HO_489001.out BK540.out (by decide)) (fun _ hk => hk.2) (.slice Ao194 t533.length co194)) (fun _ hk => hk.2) (.slice Ao201 t536.length co201)) (fun _ _ => trivial))) hb); have n11_ := Aside0.mk (Kd.R_below (by (with_reducible repeat (first | apply Kd.R_alloc | apply Kd.R_drewN | apply Kd.R_drew)); exact (Kd.R_mono (Kd.R_far (p := ⟨gb540, 1, none⟩) (Kd.R_far (p := ⟨gb540, 0, none⟩) (Kd.R_types HO535.out BK540.out (by decide)) (fun _ hk => hk.2) (.slice Ao194 t533.length co194)) (fun _ hk => hk.2) (.slice Ao201 t536.length co201)) (fun _ _ => trivial))) hb); have n12_ := Aside0.mk (Kd.R_below (by (with_reducible repeat (first | apply Kd.R_alloc | apply Kd.R_drewN | apply Kd.R_drew)); exact (Kd.R_mono (Kd.R_far (p := ⟨gb540, 1, none⟩) (Kd.R_far (p := ⟨gb540, 0, none⟩) (Kd.R_types HO538.out BK540.out (by decide)) (fun _ hk => hk.2) (.slice Ao194 t533.length co194)) (fun _ hk => hk.2) (.slice Ao201 t536.length co201)) (fun _ _ => trivial))) hb); have n13_ := Aside0.mk (blk_below (g := gb488) (o := .cells #[.slice Ao13 t482.length co13, .slice Ao15 t485.length co15] 33 (0, 0)) (by (with_reducible repeat (first | refine blk_drewN ?_ _ | refine blk_drew ?_ | refine blk_alloc ?_ _)); refine blk_far ?_ NB488_540.out _; (with_reducible repeat (first | refine blk_drewN ?_ _ | refine blk_drew ?_ | refine blk_alloc ?_ _)); refine blk_far ?_ NB488_540.out _; (with_reducible repeat (first | refine blk_drewN ?_ _ | refine blk_drew ?_ | refine blk_alloc ?_ _)); exact BK488.out) hb); have n18_ := Aside0.mk (blk_below (g := gb540) (o := .cells #[.slice Ao194 t533.length co194, .slice Ao201 t536.length co201] 33 (0, 0)) (by (with_reducible repeat (first | refine blk_drewN ?_ _ | refine blk_drew ?_ | refine blk_alloc ?_ _)); refine blk_put (cs := #[.slice Ao194 t533.length co194, .slice none 0 0]) ?_ 1 _ rfl; (with_reducible repeat (first | refine blk_drewN ?_ _ | refine blk_drew ?_ | refine blk_alloc ?_ _)); refine blk_put (cs := #[.slice none 0 0, .slice none 0 0]) ?_ 0 _ rfl; (with_reducible repeat (first | refine blk_drewN ?_ _ | refine blk_drew ?_ | refine blk_alloc ?_ _)); exact BK540.out) hb); have n19_ := Aside0.mk (below_step (by repeat (first | (with_reducible first | exact HB.out | apply below_alloc | apply pw_below_drewN | apply below_drew1 | refine below_set ?_ GE488.out | refine below_set ?_ GE499.out | refine below_set ?_ GE507.out | refine below_set ?_ GE515.out | refine below_set ?_ GE523.out | refine below_set ?_ GE540.out) | exact HB.out)) hb); clear HO_489000; clear HO_489001; clear HO532; clear HO535; clear HO538; clear BK488; clear BK540; clear HB; have HO_489000 := n0_; have HO_489001 := n1_; have HO535 := n11_; have HO538 := n12_; have BK488 := n13_; have BK540 := n18_; have HB := n19_; clear n0_ n1_ n11_ n12_ n13_ n18_ n19_; (try clear hb); (try clear hb2); (try clear hk); (try clear hi); have hcz203_0 : w202.cell? ⟨gb540, 0, none⟩ = some (.slice Ao194 t533.length co194) := (blk_cell BK540.out 0).trans rfl; have hcz203_1 : w202.cell? ⟨gb540, 1, none⟩ = some (.slice Ao201 t536.length co201) := (blk_cell BK540.out 1).trans rfl; have hfz203_0 := blk_frozen BK540.out 0; have hfz203_1 := blk_frozen BK540.out 1; have hcz204_0 : w202.cell? ⟨gb488, 0, none⟩ = some (.slice Ao13 t482.length co13) := (blk_cell BK488.out 0).trans rfl; have hcz204_1 : w202.cell? ⟨gb488, 1, none⟩ = some (.slice Ao15 t485.length co15) := (blk_cell BK488.out 1).trans rfl; have hfz204_0 := blk_frozen BK488.out 0; have hfz204_1 := blk_frozen BK488.out 1) | (go_at_call 30; (with_reducible refine (impl_AreIsomorphic.calls kj9 _ _ t533 _ _ t536 _ _ t482 _ _ t485 true _ ?side1 ?side2 ?side3 ?side4 ?side5 ?side6 ?side7 ?side8 A180.out).mono ?_); (case side1 => repeat (first | exact (Kd.R_reads' HO535.out).2.2 | (with_reducible refine Kd.C_alloc ?_ _) | (with_reducible refine Kd.C_drewN ?_ _) | (with_reducible refine Kd.C_drew ?_))); (case side2 => exact (Kd.R_reads' HO535.out).2.1); (case side3 => repeat (first | exact (Kd.R_reads' HO538.out).2.2 | (with_reducible refine Kd.C_alloc ?_ _) | (with_reducible refine Kd.C_drewN ?_ _) | (with_reducible refine Kd.C_drew ?_))); (case side4 => exact (Kd.R_reads' HO538.out).2.1); (case side5 => repeat (first | exact (Kd.R_reads' HO_489000.out).2.2 | (with_reducible refine Kd.C_alloc ?_ _) | (with_reducible refine Kd.C_drewN ?_ _) | (with_reducible refine Kd.C_drew ?_))); (case side6 => exact (Kd.R_reads' HO_489000.out).2.1); (case side7 => repeat (first | exact (Kd.R_reads' HO_489001.out).2.2 | (with_reducible refine Kd.C_alloc ?_ _) | (with_reducible refine Kd.C_drewN ?_ _) | (with_reducible refine Kd.C_drew ?_))); (case side8 => exact (Kd.R_reads' HO_489001.out).2.1); rintro e w205 ⟨rfl, hb⟩; have n0_ := Aside0.mk (Kd.R_below (by (with_reducible repeat (first | apply Kd.R_alloc | apply Kd.R_drewN | apply Kd.R_drew)); exact HO_489000.out) hb); have n1_ := Aside0.mk (Kd.R_below (by (with_reducible repeat (first | apply Kd.R_alloc | apply Kd.R_drewN | apply Kd.R_drew)); exact HO_489001.out) hb); have n13_ := Aside0.mk (blk_below (g := gb488) (o := .cells #[.slice Ao13 t482.length co13, .slice Ao15 t485.length co15] 33 (0, 0)) (by (with_reducible repeat (first | refine blk_drewN ?_ _ | refine blk_drew ?_ | refine blk_alloc ?_ _)); exact BK488.out) hb); have n19_ := Aside0.mk (below_step (by repeat (first | (with_reducible first | exact HB.out | apply below_alloc | apply pw_below_drewN | apply below_drew1 | refine below_set ?_ GE488.out | refine below_set ?_ GE499.out | refine below_set ?_ GE507.out | refine below_set ?_ GE515.out | refine below_set ?_ GE523.out | refine below_set ?_ GE540.out) | exact HB.out)) hb); clear HO_489000; clear HO_489001; clear HO535; clear HO538; clear BK488; clear BK540; clear HB; have HO_489000 := n0_; have HO_489001 := n1_; have BK488 := n13_; have HB := n19_; clear n0_ n1_ n13_ n19_; (try clear hb); (try clear hb2); (try clear hk); (try clear hi); have hcz206_0 : w205.cell? ⟨gb488, 0, none⟩ = some (.slice Ao13 t482.length co13) := (blk_cell BK488.out 0).trans rfl; have hcz206_1 : w205.cell? ⟨gb488, 1, none⟩ = some (.slice Ao15 t485.length co15) := (blk_cell BK488.out 1).trans rfl; have hfz206_0 := blk_frozen BK488.out 0; have hfz206_1 := blk_frozen BK488.out 1) | (go_at_call 34; (with_reducible refine (impl_CountSquares.calls kj9 _ _ t482 _ _ t485 t543 _ ?side1 ?side2 ?side3 ?side4 A182.out).mono ?_); (case side1 => repeat (first | exact (Kd.R_reads' HO_489000.out).2.2 | (with_reducible refine Kd.C_alloc ?_ _) | (with_reducible refine Kd.C_drewN ?_ _) | (with_reducible refine Kd.C_drew ?_))); (case side2 => exact (Kd.R_reads' HO_489000.out).2.1); (case side3 => repeat (first | exact (Kd.R_reads' HO_489001.out).2.2 | (with_reducible refine Kd.C_alloc ?_ _) | (with_reducible refine Kd.C_drewN ?_ _) | (with_reducible refine Kd.C_drew ?_))); (case side4 => exact (Kd.R_reads' HO_489001.out).2.1); rintro e w207 ⟨rfl, hb⟩; have n19_ := Aside0.mk (below_step (by repeat (first | (with_reducible first | exact HB.out | apply below_alloc | apply pw_below_drewN | apply below_drew1 | refine below_set ?_ GE488.out | refine below_set ?_ GE499.out | refine below_set ?_ GE507.out | refine below_set ?_ GE515.out | refine below_set ?_ GE523.out | refine below_set ?_ GE540.out) | exact HB.out)) hb); clear HO_489000; clear HO_489001; clear BK488; clear HB; have HB := n19_; clear n19_; (try clear hb); (try clear hb2); (try clear hk); (try clear hi)))
          go_ret
          exact ⟨by first | rfl | (simp [errW_none, errW_some] <;> rfl) | (simp [*, errW_none, errW_some] <;> rfl), HB.out⟩
         ·replace c181 := Bool.eq_false_iff.mpr c181
          subst c181
          have H1 : (some false) = some true := by rw [if_neg (show ¬ (false = true) by decide)] at H; exact H
          clear H
          have H := H1
          clear H1
          exact absurd H (by simp)
        ·rw [if_neg c179] at H
         have c179b0 : ((t530.length : Int) == (t482.length : Int)) = false := beq_eq_false_iff_ne.mpr c179
         have c179b1 : ((t530.length : Int) != (t482.length : Int)) = true := bne_iff_ne.mpr c179
         have c179b2 : (t530.length == t482.length) = false := by first | simpa using c179 | (simp at c179 ⊢; omega)
         exact absurd H (by simp)
       ·replace c178 := Bool.eq_false_iff.mpr c178
        subst c178
        have H1 : (some false) = some true := by rw [if_neg (show ¬ (false = true) by decide)] at H; exact H
        clear H
        have H := H1
        clear H1
        exact absurd H (by simp)
      ·replace c176 := Bool.eq_false_iff.mpr c176
       subst c176
       have H1 : (some false) = some true := by rw [if_neg (show ¬ (false = true) by decide)] at H; exact H
       clear H
       have H := H1
       clear H1
       exact absurd H (by simp)

/-- The pure statement of laws_FnCanon. -/
def laws_FnCanon.Pure : Prop := ∀ (l0 : List Int), l0.length ≤ maxLen → l0.length * 1 ≤ 140737488351232 → (∀ x ∈ l0, (Lit.int .u8 x).wf = true) → ∃ k, laws_FnCanon.f k l0 = some true
theorem laws_FnCanon.walk (P : laws_FnCanon.Pure) (a0 : Option Addr) (len0 cap0 : Nat) (z0 : List Int) (w : World) (w0 : ((a0 = none ∧ len0 = 0 ∧ cap0 = 0 ∧ z0 = []) ∨ ∃ x, a0 = some x ∧ len0 ≤ cap0 ∧ cap0 ≤ maxLen ∧ z0.length = cap0 ∧ (∀ i, i < z0.length → w.cell? (x.add i) = some (.int .u8 (z0.getD i 0))) ∧ ∀ n ∈ z0, (Lit.int .u8 n).wf = true)) (y0 : len0 * 1 ≤ 140737488351232) :
  Calls Try.prog 8 #[.slice a0 len0 cap0] w fun e w' => e = .returned (.bool true) ∧ Below w.heap.size w w' := by
 obtain ⟨l0, rfl, hr0, hm0, hw0, hc0⟩ := ReadsInt.ofRowC w0
 obtain ⟨k, h⟩ := P l0 hm0 y0 hw0
 refine (laws_FnCanon.calls_true k _ _ l0 w (Kd.C_of_reads (d := (0 : Int)) (h1 := fun _ => rfl) hr0) hc0 h).mono ?_
 rintro e w' ⟨rfl, hd⟩
 exact ⟨rfl, hd⟩

end Go.Proofs.Ytlohmpgbjgidpaa.P
