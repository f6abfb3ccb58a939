-- MADE by this project's printer (wip/mk) out of the translation; Lean checks it.
import Derived.Test.YtlohmpgbjgidpabPx0
import Derived.Test.YtlohmpgbjgidpabPx62
import Derived.Test.YtlohmpgbjgidpabPx65
import Derived.Test.YtlohmpgbjgidpabPx67
import Derived.Test.YtlohmpgbjgidpabPx87
import Derived.Test.YtlohmpgbjgidpabPx88
import Derived.Test.YtlohmpgbjgidpabPx90
import Derived.Test.YtlohmpgbjgidpabPx91
import Derived.Test.YtlohmpgbjgidpabPx92
import Derived.Test.YtlohmpgbjgidpabPx93
namespace Go.Proofs.Ytlohmpgbjgidpab.P
open Go.RowKit Go.Proofs.YtlohmpgbjgidpabW.PrintWords Go.Proofs.YtlohmpgbjgidpabW.PrintLast Go.Proofs.YtlohmpgbjgidpabW.PrintMore
attribute [local go_sem] max2_int min2_int max_two min_two max_three min_three max_four min_four   -- for this text's walks alone
set_option linter.unusedVariables false
set_option linter.unusedSimpArgs false

/-! ### laws_FnCorners: function 9 -/
mutual
def laws_FnCorners.j0 : Nat → List (List Int) → Bool → List Int → List Int → Option (Bool)
 | 0, _, _, _, _ => none
 | k + 1, x6, x58, x697000, x697001 => if x58 = true then (some false) else (laws_FnCorners.l0 k x6 (x697000.length : Int) 0 x697000 x697001)
def laws_FnCorners.l0 : Nat → List (List Int) → Int → Int → List Int → List Int → Option (Bool)
 | 0, _, _, _, _, _ => none
 | k + 1, x6, x61, x62, x697000, x697001 => if x62 < x61 then (laws_FnCorners.l1 k x6 x62 0 x61 x62 x6 (x6.length : Int) 0 x697000 x697001) else (some true)
def laws_FnCorners.l1 : Nat → List (List Int) → Int → Int → Int → Int → List (List Int) → Int → Int → List Int → List Int → Option (Bool)
 | 0, _, _, _, _, _, _, _, _, _, _ => none
 | k + 1, x6, x8, x9, x61, x62, x65, x66, x67, x697000, x697001 => if x67 < x66 then (if 0 ≤ x67 then (if x67 < (x65.length : Int) then ((laws_has.f k (rd_L3 x65 x67) x8).bind fun t713 => (if t713 = true then (laws_FnCorners.l1 k x6 x8 ((rd_L3 x65 x67).length : Int) x61 x62 x65 x66 (wrap64 (x67 + 1)) x697000 x697001) else (laws_FnCorners.l1 k x6 x8 x9 x61 x62 x65 x66 (wrap64 (x67 + 1)) x697000 x697001))) else (none)) else (none)) else ((impl_IsRegularCorner.f k x697000 x697001 x8).bind fun t714 => (if (t714 != (x9 == 1)) = true then (some false) else (laws_FnCorners.l0 k x6 x61 (wrap64 (x62 + 1)) x697000 x697001)))
end
def laws_FnCorners.f (k : Nat) (l0 : List Int) : Option (Bool) := if (l0.length : Int) > 1048576 then (some true) else ((spec_MakeSurface.f k l0).bind fun bt690 => ((impl_AnglesOf.f k bt690.1 bt690.2).bind fun t697 => ((impl_StratumOf.f k bt690.1 bt690.2).bind fun t700 => ((impl_CornersOf.f k bt690.1 bt690.2).bind fun t703 => ((impl_GenusOf.f k bt690.1 bt690.2).bind fun t706 => ((laws_total.f k t697).bind fun t707 => (if t707 = (bt690.1.length : Int) then (if (t703.length : Int) = (t697.length : Int) then (if t706 < 1 then (laws_FnCorners.j0 k t703 true bt690.1 bt690.2) else ((laws_total.f k t700).bind fun t708 => (if t708 = (wrap64 ((wrap64 (2 * t706)) - 2)) then ((impl_AroundOf.f k bt690.1 bt690.2).bind fun t709 => (laws_FnCorners.j0 k t703 ((t709.length : Int) != (bt690.1.length : Int)) bt690.1 bt690.2)) else (laws_FnCorners.j0 k t703 true bt690.1 bt690.2)))) else (laws_FnCorners.j0 k t703 true bt690.1 bt690.2)) else (laws_FnCorners.j0 k t703 true bt690.1 bt690.2))))))))
theorem laws_FnCorners.mono_l : ∀ k, (∀ y0 y1 y2 y3, LeO (laws_FnCorners.j0 k y0 y1 y2 y3) (laws_FnCorners.j0 (k + 1) y0 y1 y2 y3)) ∧ (∀ y0 y1 y2 y3 y4, LeO (laws_FnCorners.l0 k y0 y1 y2 y3 y4) (laws_FnCorners.l0 (k + 1) y0 y1 y2 y3 y4)) ∧ (∀ y0 y1 y2 y3 y4 y5 y6 y7 y8 y9, LeO (laws_FnCorners.l1 k y0 y1 y2 y3 y4 y5 y6 y7 y8 y9) (laws_FnCorners.l1 (k + 1) y0 y1 y2 y3 y4 y5 y6 y7 y8 y9))
 | 0 => ⟨fun _ _ _ _ r h => by simp [laws_FnCorners.j0] at h, fun _ _ _ _ _ r h => by simp [laws_FnCorners.l0] at h, fun _ _ _ _ _ _ _ _ _ _ r h => by simp [laws_FnCorners.l1] at h⟩
 | k + 1 => by
  obtain ⟨ih0, ih1, ih2⟩ := laws_FnCorners.mono_l k
  refine ⟨?_, ?_, ?_⟩
  ·intro y0 y1 y2 y3
   unfold laws_FnCorners.j0
   repeat' first
   | (with_reducible exact ih0 _ _ _ _)
   | (with_reducible exact ih1 _ _ _ _ _)
   | (with_reducible exact ih2 _ _ _ _ _ _ _ _ _ _)
   | (with_reducible exact impl_AnglesOf.mono _ _ _)
   | (with_reducible exact impl_AroundOf.mono _ _ _)
   | (with_reducible exact impl_CornersOf.mono _ _ _)
   | (with_reducible exact impl_GenusOf.mono _ _ _)
   | (with_reducible exact impl_IsRegularCorner.mono _ _ _ _)
   | (with_reducible exact impl_StratumOf.mono _ _ _)
   | (with_reducible exact laws_has.mono _ _ _)
   | (with_reducible exact laws_total.mono _ _)
   | (with_reducible exact spec_MakeSurface.mono _ _)
   | (with_reducible exact LeO.refl _)
   | (with_reducible exact LeO.none _)
   | (with_reducible refine LeO.ite ?_ ?_)
   | (with_reducible refine LeO.bind ?_ (fun _ => ?_))
   | exact ih0 _ _ _ _
   | exact ih1 _ _ _ _ _
   | exact ih2 _ _ _ _ _ _ _ _ _ _
   | exact impl_AnglesOf.mono _ _ _
   | exact impl_AroundOf.mono _ _ _
   | exact impl_CornersOf.mono _ _ _
   | exact impl_GenusOf.mono _ _ _
   | exact impl_IsRegularCorner.mono _ _ _ _
   | exact impl_StratumOf.mono _ _ _
   | exact laws_has.mono _ _ _
   | exact laws_total.mono _ _
   | exact spec_MakeSurface.mono _ _
   | exact LeO.none _
   | refine LeO.ite ?_ ?_
   | refine LeO.bind ?_ (fun _ => ?_)
  ·intro y0 y1 y2 y3 y4
   unfold laws_FnCorners.l0
   repeat' first
   | (with_reducible exact ih0 _ _ _ _)
   | (with_reducible exact ih1 _ _ _ _ _)
   | (with_reducible exact ih2 _ _ _ _ _ _ _ _ _ _)
   | (with_reducible exact impl_AnglesOf.mono _ _ _)
   | (with_reducible exact impl_AroundOf.mono _ _ _)
   | (with_reducible exact impl_CornersOf.mono _ _ _)
   | (with_reducible exact impl_GenusOf.mono _ _ _)
   | (with_reducible exact impl_IsRegularCorner.mono _ _ _ _)
   | (with_reducible exact impl_StratumOf.mono _ _ _)
   | (with_reducible exact laws_has.mono _ _ _)
   | (with_reducible exact laws_total.mono _ _)
   | (with_reducible exact spec_MakeSurface.mono _ _)
   | (with_reducible exact LeO.refl _)
   | (with_reducible exact LeO.none _)
   | (with_reducible refine LeO.ite ?_ ?_)
   | (with_reducible refine LeO.bind ?_ (fun _ => ?_))
   | exact ih0 _ _ _ _
   | exact ih1 _ _ _ _ _
   | exact ih2 _ _ _ _ _ _ _ _ _ _
   | exact impl_AnglesOf.mono _ _ _
   | exact impl_AroundOf.mono _ _ _
   | exact impl_CornersOf.mono _ _ _
   | exact impl_GenusOf.mono _ _ _
   | exact impl_IsRegularCorner.mono _ _ _ _
   | exact impl_StratumOf.mono _ _ _
   | exact laws_has.mono _ _ _
   | exact laws_total.mono _ _
   | exact spec_MakeSurface.mono _ _
   | exact LeO.none _
   | refine LeO.ite ?_ ?_
   | refine LeO.bind ?_ (fun _ => ?_)
  ·intro y0 y1 y2 y3 y4 y5 y6 y7 y8 y9
   unfold laws_FnCorners.l1
   repeat' first
   | (with_reducible exact ih0 _ _ _ _)
   | (with_reducible exact ih1 _ _ _ _ _)
   | (with_reducible exact ih2 _ _ _ _ _ _ _ _ _ _)
   | (with_reducible exact impl_AnglesOf.mono _ _ _)
   | (with_reducible exact impl_AroundOf.mono _ _ _)
   | (with_reducible exact impl_CornersOf.mono _ _ _)
   | (with_reducible exact impl_GenusOf.mono _ _ _)
   | (with_reducible exact impl_IsRegularCorner.mono _ _ _ _)
   | (with_reducible exact impl_StratumOf.mono _ _ _)
   | (with_reducible exact laws_has.mono _ _ _)
   | (with_reducible exact laws_total.mono _ _)
   | (with_reducible exact spec_MakeSurface.mono _ _)
   | (with_reducible exact LeO.refl _)
   | (with_reducible exact LeO.none _)
   | (with_reducible refine LeO.ite ?_ ?_)
   | (with_reducible refine LeO.bind ?_ (fun _ => ?_))
   | exact ih0 _ _ _ _
   | exact ih1 _ _ _ _ _
   | exact ih2 _ _ _ _ _ _ _ _ _ _
   | exact impl_AnglesOf.mono _ _ _
   | exact impl_AroundOf.mono _ _ _
   | exact impl_CornersOf.mono _ _ _
   | exact impl_GenusOf.mono _ _ _
   | exact impl_IsRegularCorner.mono _ _ _ _
   | exact impl_StratumOf.mono _ _ _
   | exact laws_has.mono _ _ _
   | exact laws_total.mono _ _
   | exact spec_MakeSurface.mono _ _
   | exact LeO.none _
   | refine LeO.ite ?_ ?_
   | refine LeO.bind ?_ (fun _ => ?_)
theorem laws_FnCorners.mono : ∀ a0 k, LeO (laws_FnCorners.f k a0) (laws_FnCorners.f (k + 1) a0) := by
 intro a0 k
 obtain ⟨ih0, ih1, ih2⟩ := laws_FnCorners.mono_l k
 unfold laws_FnCorners.f
 repeat' first
   | (with_reducible exact ih0 _ _ _ _)
   | (with_reducible exact ih1 _ _ _ _ _)
   | (with_reducible exact ih2 _ _ _ _ _ _ _ _ _ _)
   | (with_reducible exact impl_AnglesOf.mono _ _ _)
   | (with_reducible exact impl_AroundOf.mono _ _ _)
   | (with_reducible exact impl_CornersOf.mono _ _ _)
   | (with_reducible exact impl_GenusOf.mono _ _ _)
   | (with_reducible exact impl_IsRegularCorner.mono _ _ _ _)
   | (with_reducible exact impl_StratumOf.mono _ _ _)
   | (with_reducible exact laws_has.mono _ _ _)
   | (with_reducible exact laws_total.mono _ _)
   | (with_reducible exact spec_MakeSurface.mono _ _)
   | (with_reducible exact LeO.refl _)
   | (with_reducible exact LeO.none _)
   | (with_reducible refine LeO.ite ?_ ?_)
   | (with_reducible refine LeO.bind ?_ (fun _ => ?_))
   | exact ih0 _ _ _ _
   | exact ih1 _ _ _ _ _
   | exact ih2 _ _ _ _ _ _ _ _ _ _
   | exact impl_AnglesOf.mono _ _ _
   | exact impl_AroundOf.mono _ _ _
   | exact impl_CornersOf.mono _ _ _
   | exact impl_GenusOf.mono _ _ _
   | exact impl_IsRegularCorner.mono _ _ _ _
   | exact impl_StratumOf.mono _ _ _
   | exact laws_has.mono _ _ _
   | exact laws_total.mono _ _
   | exact spec_MakeSurface.mono _ _
   | exact LeO.none _
   | refine LeO.ite ?_ ?_
   | refine LeO.bind ?_ (fun _ => ?_)
def laws_FnCorners.T8 : Bool × List (List Nat × List Nat) := (true, [([], []), ([0], [0]), ([], []), ([2], [2]), ([3], [3]), ([1, 4], [1, 4]), ([5, 1], [5]), ([6], [6]), ([7, 6], [6, 7]), ([6], [6]), ([9, 6], [6, 9]), ([8, 10, 6], [6, 8, 10]), ([6, 11], [6, 11]), ([12, 6], [12]), ([13], [13]), ([14, 13], [13, 14]), ([13, 15], [13, 15]), ([16, 13], [16]), ([17], [17]), ([18, 17, 17], [17, 18]), ([17], [17]), ([20, 17], [17, 20]), ([21, 17], [17, 21]), ([19, 22, 17], [17, 19, 22]), ([17, 23], [17, 23]), ([24, 19], [24]), ([25], [25]), ([26, 25, 25], [25, 26]), ([27, 25], [25, 27]), ([25], [25]), ([29, 25], [25, 29]), ([30, 25], [25, 30]), ([28, 31, 25], [25, 28, 31]), ([25, 32], [25, 32])])
def laws_FnCorners.B8 : List Nat := [0, 1, 0, 4, 12, 31, 63, 127, 255, 127, 639, 2047, 4095, 8191, 16383, 32767, 65535, 131071, 262143, 524287, 262143, 1310719, 3407871, 8388607, 16777215, 33554431, 67108863, 134217727, 268435455, 67108863, 603979775, 1677721599, 4294967295, 8589934591]
theorem laws_FnCorners.tab8 : rtab .any (opsOf Try.f9 8) = laws_FnCorners.T8 := by kernel_rfl
theorem laws_FnCorners.bits8 : waitsOk laws_FnCorners.T8.2 laws_FnCorners.B8 = true := by kernel_rfl
set_option maxHeartbeats 8000000 in
set_option maxRecDepth 100000 in
theorem laws_FnCorners.calls_true (k : Nat) (A0 : Option Addr) (c0 : Nat) (l0 : List Int) (w : World) (hr0 : Kd.C (Kd.int .u8) w A0 l0.length l0) (hc0 : l0.length ≤ c0) (h : laws_FnCorners.f k l0 = some true) :
  Calls Try.prog 9 #[.slice A0 l0.length c0] w fun e w' => e = .returned (.bool true) ∧ Below w.heap.size w w' := by
 have hu29 := Try.underlying29
 have HR0 := Aside0.mk hr0
 have HC0 := Aside0.mk hc0
 clear hr0 hc0
 have HB := Aside0.mk (Below.refl w.heap.size w)
 have H : (if (l0.length : Int) > 1048576 then (some true) else ((spec_MakeSurface.f k l0).bind fun bt690 => ((impl_AnglesOf.f k bt690.1 bt690.2).bind fun t697 => ((impl_StratumOf.f k bt690.1 bt690.2).bind fun t700 => ((impl_CornersOf.f k bt690.1 bt690.2).bind fun t703 => ((impl_GenusOf.f k bt690.1 bt690.2).bind fun t706 => ((laws_total.f k t697).bind fun t707 => (if t707 = (bt690.1.length : Int) then (if (t703.length : Int) = (t697.length : Int) then (if t706 < 1 then (laws_FnCorners.j0 k t703 true bt690.1 bt690.2) else ((laws_total.f k t700).bind fun t708 => (if t708 = (wrap64 ((wrap64 (2 * t706)) - 2)) then ((impl_AroundOf.f k bt690.1 bt690.2).bind fun t709 => (laws_FnCorners.j0 k t703 ((t709.length : Int) != (bt690.1.length : Int)) bt690.1 bt690.2)) else (laws_FnCorners.j0 k t703 true bt690.1 bt690.2)))) else (laws_FnCorners.j0 k t703 true bt690.1 bt690.2)) else (laws_FnCorners.j0 k t703 true bt690.1 bt690.2))))))))) = some true := h
 clear h
 by_cases c2 : (l0.length : Int) > 1048576
 ·rw [if_pos c2] at H
  have c2b0 : decide (1048576 < (l0.length : Int)) = true := decide_eq_true c2
  have c2b1 : decide (1048576 < l0.length) = true := decide_eq_true (by omega)
  clear c2
  go_enter Try.func9, Try.ntmps9
  go_wp2
  go_ret
  exact ⟨by first | rfl | (simp [errW_none, errW_some] <;> rfl) | (simp [*, errW_none, errW_some] <;> rfl), by repeat (first | (with_reducible first | exact HB.out | apply below_alloc | apply pw_below_drewN | apply below_drew1) | exact HB.out)⟩
 ·rw [if_neg c2] at H
  have c2b0 : decide (1048576 < (l0.length : Int)) = false := decide_eq_false c2
  (try simp only [hl712_0] at c2b0)
  have c2b1 : decide (1048576 < l0.length) = false := decide_eq_false (by omega)
  (try simp only [hl712_0] at c2b1)
  clear c2
  replace H := Option.bind_eq_some_iff.mp H
  obtain ⟨⟨t690, t693⟩, A30, H⟩ := H
  replace H : ((impl_AnglesOf.f k t690 t693).bind fun t697 => ((impl_StratumOf.f k t690 t693).bind fun t700 => ((impl_CornersOf.f k t690 t693).bind fun t703 => ((impl_GenusOf.f k t690 t693).bind fun t706 => ((laws_total.f k t697).bind fun t707 => (if t707 = (t690.length : Int) then (if (t703.length : Int) = (t697.length : Int) then (if t706 < 1 then (laws_FnCorners.j0 k t703 true t690 t693) else ((laws_total.f k t700).bind fun t708 => (if t708 = (wrap64 ((wrap64 (2 * t706)) - 2)) then ((impl_AroundOf.f k t690 t693).bind fun t709 => (laws_FnCorners.j0 k t703 ((t709.length : Int) != (t690.length : Int)) t690 t693)) else (laws_FnCorners.j0 k t703 true t690 t693)))) else (laws_FnCorners.j0 k t703 true t690 t693)) else (laws_FnCorners.j0 k t703 true t690 t693))))))) = some true := H
  have A3 := Aside0.mk A30
  clear A30
  replace H := Option.bind_eq_some_iff.mp H
  obtain ⟨t697, A40, H⟩ := H
  replace H : ((impl_StratumOf.f k t690 t693).bind fun t700 => ((impl_CornersOf.f k t690 t693).bind fun t703 => ((impl_GenusOf.f k t690 t693).bind fun t706 => ((laws_total.f k t697).bind fun t707 => (if t707 = (t690.length : Int) then (if (t703.length : Int) = (t697.length : Int) then (if t706 < 1 then (laws_FnCorners.j0 k t703 true t690 t693) else ((laws_total.f k t700).bind fun t708 => (if t708 = (wrap64 ((wrap64 (2 * t706)) - 2)) then ((impl_AroundOf.f k t690 t693).bind fun t709 => (laws_FnCorners.j0 k t703 ((t709.length : Int) != (t690.length : Int)) t690 t693)) else (laws_FnCorners.j0 k t703 true t690 t693)))) else (laws_FnCorners.j0 k t703 true t690 t693)) else (laws_FnCorners.j0 k t703 true t690 t693)))))) = some true := H
  have A4 := Aside0.mk A40
  clear A40
  replace H := Option.bind_eq_some_iff.mp H
  obtain ⟨t700, A50, H⟩ := H
  replace H : ((impl_CornersOf.f k t690 t693).bind fun t703 => ((impl_GenusOf.f k t690 t693).bind fun t706 => ((laws_total.f k t697).bind fun t707 => (if t707 = (t690.length : Int) then (if (t703.length : Int) = (t697.length : Int) then (if t706 < 1 then (laws_FnCorners.j0 k t703 true t690 t693) else ((laws_total.f k t700).bind fun t708 => (if t708 = (wrap64 ((wrap64 (2 * t706)) - 2)) then ((impl_AroundOf.f k t690 t693).bind fun t709 => (laws_FnCorners.j0 k t703 ((t709.length : Int) != (t690.length : Int)) t690 t693)) else (laws_FnCorners.j0 k t703 true t690 t693)))) else (laws_FnCorners.j0 k t703 true t690 t693)) else (laws_FnCorners.j0 k t703 true t690 t693))))) = some true := H
  have A5 := Aside0.mk A50
  clear A50
  replace H := Option.bind_eq_some_iff.mp H
  obtain ⟨t703, A60, H⟩ := H
  replace H : ((impl_GenusOf.f k t690 t693).bind fun t706 => ((laws_total.f k t697).bind fun t707 => (if t707 = (t690.length : Int) then (if (t703.length : Int) = (t697.length : Int) then (if t706 < 1 then (laws_FnCorners.j0 k t703 true t690 t693) else ((laws_total.f k t700).bind fun t708 => (if t708 = (wrap64 ((wrap64 (2 * t706)) - 2)) then ((impl_AroundOf.f k t690 t693).bind fun t709 => (laws_FnCorners.j0 k t703 ((t709.length : Int) != (t690.length : Int)) t690 t693)) else (laws_FnCorners.j0 k t703 true t690 t693)))) else (laws_FnCorners.j0 k t703 true t690 t693)) else (laws_FnCorners.j0 k t703 true t690 t693)))) = some true := H
  have A6 := Aside0.mk A60
  clear A60
  replace H := Option.bind_eq_some_iff.mp H
  obtain ⟨t706, A70, H⟩ := H
  replace H : ((laws_total.f k t697).bind fun t707 => (if t707 = (t690.length : Int) then (if (t703.length : Int) = (t697.length : Int) then (if t706 < 1 then (laws_FnCorners.j0 k t703 true t690 t693) else ((laws_total.f k t700).bind fun t708 => (if t708 = (wrap64 ((wrap64 (2 * t706)) - 2)) then ((impl_AroundOf.f k t690 t693).bind fun t709 => (laws_FnCorners.j0 k t703 ((t709.length : Int) != (t690.length : Int)) t690 t693)) else (laws_FnCorners.j0 k t703 true t690 t693)))) else (laws_FnCorners.j0 k t703 true t690 t693)) else (laws_FnCorners.j0 k t703 true t690 t693))) = some true := H
  have A7 := Aside0.mk A70
  clear A70
  have HC8 := Aside0.mk H
  clear H
  go_enter Try.func9, Try.ntmps9
  go_upto_region 8 with (first | ((with_reducible refine gate_callee (f := 40) rfl ?_); refine goesL_ (some 16) rfl rfl Try.func40 (by kernel_rfl) rfl #[.slice A0 l0.length c0] rfl (by (try simp only [List.map_toArray, List.map_cons, List.map_nil]); first | done | rfl | (simp only [List.length_drop, List.length_take]; rfl)) ?_; (with_reducible refine (spec_MakeSurface.calls k _ _ l0 t690 t693 _ ?side1 ?side2 A3.out).mono ?_); (case side1 => repeat (first | exact HR0.out | (with_reducible refine Kd.C_alloc ?_ _) | (with_reducible refine Kd.C_drewN ?_ _) | (with_reducible refine Kd.C_drew ?_))); (case side2 => exact HC0.out); rintro e w9 ⟨v691, v694, rfl, ho0, ho1, hb⟩; refine ⟨_, rfl, ?_⟩; have n0_ := Aside0.mk (Kd.R_lower ho0 (below_size (by repeat (first | (with_reducible first | exact HB.out | apply below_alloc | apply pw_below_drewN | apply below_drew1) | exact HB.out)))); have n1_ := Aside0.mk (Kd.R_lower ho1 (below_size (by repeat (first | (with_reducible first | exact HB.out | apply below_alloc | apply pw_below_drewN | apply below_drew1) | exact HB.out)))); have n2_ := Aside0.mk (below_step (by repeat (first | (with_reducible first | exact HB.out | apply below_alloc | apply pw_below_drewN | apply below_drew1) | exact HB.out)) hb); clear HB; have HO692 := n0_; have HO695 := n1_; have HB := n2_; clear n0_ n1_ n2_; (try clear hb); (try clear hb2); (try clear hk); (try clear hi); (try clear ho0); (try clear ho1)) | ((with_reducible refine gate_dst (N := 3) rfl ?_); (try (refine gate_guard (by rfl) ?_; dsimp only)); refine box_event ?hg (N := 3) ?hd (cs := #[.slice none 0 0, .slice none 0 0]) (t := 29) ?hr ?_; (case hd => rfl); (case hg => rfl); (case hr => first | (go_simp; done) | (go_simp; rfl)); intro gb696 hg w10 hbox hb; have n0_ := Aside0.mk (Kd.R_below (by (with_reducible repeat (first | apply Kd.R_alloc | apply Kd.R_drewN | apply Kd.R_drew)); exact HO692.out) hb); have n1_ := Aside0.mk (Kd.R_below (by (with_reducible repeat (first | apply Kd.R_alloc | apply Kd.R_drewN | apply Kd.R_drew)); exact HO695.out) hb); have n2_ := Aside0.mk (below_step (by repeat (first | (with_reducible first | exact HB.out | apply below_alloc | apply pw_below_drewN | apply below_drew1) | exact HB.out)) hb); have n3_ := Aside0.mk (hbox); have n4_ := Aside0.mk ((by rw [hg]; exact (below_size (by repeat (first | (with_reducible first | exact HB.out | apply below_alloc | apply pw_below_drewN | apply below_drew1) | exact HB.out))) : w.heap.size ≤ gb696)); have n5_ := Aside0.mk ((by rw [hg]; exact (below_size (by repeat (first | (with_reducible first | exact HB.out | apply below_alloc | apply pw_below_drewN | apply below_drew1) | exact HB.out))) : w.heap.size ≤ gb696)); clear HO692; clear HO695; clear HB; have HO692 := n0_; have HO695 := n1_; have HB := n2_; have BK696 := n3_; have GW696 := n4_; have GE696 := n5_; clear n0_ n1_ n2_ n3_ n4_ n5_; clear hb hbox hg; obtain ⟨Ao11, co11, eo11⟩ := Kd.R_slice HO692.out; subst eo11; have hcz12_0 : w10.cell? ⟨gb696, 0, none⟩ = some (.slice none 0 0) := (blk_cell BK696.out 0).trans rfl; have hcz12_1 : w10.cell? ⟨gb696, 1, none⟩ = some (.slice none 0 0) := (blk_cell BK696.out 1).trans rfl; have hfz12_0 := blk_frozen BK696.out 0; have hfz12_1 := blk_frozen BK696.out 1; obtain ⟨Ao13, co13, eo13⟩ := Kd.R_slice HO695.out; subst eo13) | ((with_reducible refine gate_callee (f := 41) rfl ?_); refine goesL_ (some 18) rfl rfl Try.func41 (by kernel_rfl) rfl #[.agg #[.slice Ao11 t690.length co11, .slice Ao13 t693.length co13]] rfl (by (try simp only [List.map_toArray, List.map_cons, List.map_nil]); first | done | rfl | (simp only [List.length_drop, List.length_take]; rfl)) ?_; (with_reducible refine (impl_AnglesOf.calls k _ _ t690 _ _ t693 t697 _ ?side1 ?side2 ?side3 ?side4 A4.out).mono ?_); (case side1 => refine (Kd.R_reads' (e := 3) (base := w.heap.size) (ok := fun k_ => some k_ ≠ (.slice Ao13 t693.length co13 : Value).ownBlock) (n := t690.length) (c := co11) ?_).2.2; exact (by (with_reducible repeat (first | apply Kd.R_alloc | apply Kd.R_drewN | apply Kd.R_drew)); exact (Kd.R_mono (Kd.R_far (p := ⟨gb696, 1, none⟩) (Kd.R_far (p := ⟨gb696, 0, none⟩) (Kd.R_types HO692.out BK696.out (by decide)) (fun _ hk => hk.2) (.slice Ao11 t690.length co11)) (fun _ hk => hk.2) (.slice Ao13 t693.length co13)) (fun _ h_ => h_.1)))); (case side2 => exact (Kd.R_reads' HO692.out).2.1); (case side3 => refine (Kd.R_reads' (e := 3) (base := w.heap.size) (ok := fun k_ => some k_ ≠ (.slice Ao11 t690.length co11 : Value).ownBlock) (n := t693.length) (c := co13) ?_).2.2; exact (by (with_reducible repeat (first | apply Kd.R_alloc | apply Kd.R_drewN | apply Kd.R_drew)); exact (Kd.R_mono (Kd.R_far (p := ⟨gb696, 1, none⟩) (Kd.R_far (p := ⟨gb696, 0, none⟩) (Kd.R_types HO695.out BK696.out (by decide)) (fun _ hk => hk.2) (.slice Ao11 t690.length co11)) (fun _ hk => hk.2) (.slice Ao13 t693.length co13)) (fun _ h_ => h_.1)))); (case side4 => exact (Kd.R_reads' HO695.out).2.1); rintro e w14 ⟨v698, rfl, ho0, hb⟩; refine ⟨_, rfl, ?_⟩; have n0_ := Aside0.mk (Kd.R_elder' (by (with_reducible repeat (first | apply Kd.R_alloc | apply Kd.R_drewN | apply Kd.R_drew)); exact (Kd.R_mono (Kd.R_far (p := ⟨gb696, 1, none⟩) (Kd.R_far (p := ⟨gb696, 0, none⟩) (Kd.R_types HO692.out BK696.out (by decide)) (fun _ hk => hk.2) (.slice Ao11 t690.length co11)) (fun _ hk => hk.2) (.slice Ao13 t693.length co13)) (fun _ h_ => h_.1))) (Kd.R_base ho0) hb); have n1_ := Aside0.mk (Kd.R_elder' (by (with_reducible repeat (first | apply Kd.R_alloc | apply Kd.R_drewN | apply Kd.R_drew)); exact (Kd.R_mono (Kd.R_far (p := ⟨gb696, 1, none⟩) (Kd.R_far (p := ⟨gb696, 0, none⟩) (Kd.R_types HO695.out BK696.out (by decide)) (fun _ hk => hk.2) (.slice Ao11 t690.length co11)) (fun _ hk => hk.2) (.slice Ao13 t693.length co13)) (fun _ h_ => h_.1))) (Kd.R_base ho0) hb); have n2_ := Aside0.mk (Kd.R_lower (Kd.R_new' (Kd.R_new' ho0 (Kd.R_lt (by (with_reducible repeat (first | apply Kd.R_alloc | apply Kd.R_drewN | apply Kd.R_drew)); exact (Kd.R_mono (Kd.R_far (p := ⟨gb696, 1, none⟩) (Kd.R_far (p := ⟨gb696, 0, none⟩) (Kd.R_types HO692.out BK696.out (by decide)) (fun _ hk => hk.2) (.slice Ao11 t690.length co11)) (fun _ hk => hk.2) (.slice Ao13 t693.length co13)) (fun _ h_ => h_.1))))) (Kd.R_lt (by (with_reducible repeat (first | apply Kd.R_alloc | apply Kd.R_drewN | apply Kd.R_drew)); exact (Kd.R_mono (Kd.R_far (p := ⟨gb696, 1, none⟩) (Kd.R_far (p := ⟨gb696, 0, none⟩) (Kd.R_types HO695.out BK696.out (by decide)) (fun _ hk => hk.2) (.slice Ao11 t690.length co11)) (fun _ hk => hk.2) (.slice Ao13 t693.length co13)) (fun _ h_ => h_.1))))) (below_size (by repeat (first | (with_reducible first | exact HB.out | apply below_alloc | apply pw_below_drewN | apply below_drew1 | refine below_set ?_ GE696.out) | exact HB.out)))); have n3_ := Aside0.mk (blk_below (g := gb696) (o := .cells #[.slice Ao11 t690.length co11, .slice Ao13 t693.length co13] 29 (0, 0)) (by (with_reducible repeat (first | refine blk_drewN ?_ _ | refine blk_drew ?_ | refine blk_alloc ?_ _)); refine blk_put (cs := #[.slice Ao11 t690.length co11, .slice none 0 0]) ?_ 1 _ rfl; (with_reducible repeat (first | refine blk_drewN ?_ _ | refine blk_drew ?_ | refine blk_alloc ?_ _)); refine blk_put (cs := #[.slice none 0 0, .slice none 0 0]) ?_ 0 _ rfl; (with_reducible repeat (first | refine blk_drewN ?_ _ | refine blk_drew ?_ | refine blk_alloc ?_ _)); exact BK696.out) hb); have n4_ := Aside0.mk (below_step (by repeat (first | (with_reducible first | exact HB.out | apply below_alloc | apply pw_below_drewN | apply below_drew1 | refine below_set ?_ GE696.out) | exact HB.out)) hb); clear HO692; clear HO695; clear BK696; clear HB; have HO692 := n0_; have HO695 := n1_; have HO699 := n2_; have BK696 := n3_; have HB := n4_; clear n0_ n1_ n2_ n3_ n4_; (try clear hb); (try clear hb2); (try clear hk); (try clear hi); (try clear ho0); have hcz15_0 : w14.cell? ⟨gb696, 0, none⟩ = some (.slice Ao11 t690.length co11) := (blk_cell BK696.out 0).trans rfl; have hcz15_1 : w14.cell? ⟨gb696, 1, none⟩ = some (.slice Ao13 t693.length co13) := (blk_cell BK696.out 1).trans rfl; have hfz15_0 := blk_frozen BK696.out 0; have hfz15_1 := blk_frozen BK696.out 1) | ((with_reducible refine gate_callee (f := 42) rfl ?_); refine goesL_ (some 20) rfl rfl Try.func42 (by kernel_rfl) rfl #[.agg #[.slice Ao11 t690.length co11, .slice Ao13 t693.length co13]] rfl (by (try simp only [List.map_toArray, List.map_cons, List.map_nil]); first | done | rfl | (simp only [List.length_drop, List.length_take]; rfl)) ?_; (with_reducible refine (impl_StratumOf.calls k _ _ t690 _ _ t693 t700 _ ?side1 ?side2 ?side3 ?side4 A5.out).mono ?_); (case side1 => repeat (first | exact (Kd.R_reads' HO692.out).2.2 | (with_reducible refine Kd.C_alloc ?_ _) | (with_reducible refine Kd.C_drewN ?_ _) | (with_reducible refine Kd.C_drew ?_))); (case side2 => exact (Kd.R_reads' HO692.out).2.1); (case side3 => repeat (first | exact (Kd.R_reads' HO695.out).2.2 | (with_reducible refine Kd.C_alloc ?_ _) | (with_reducible refine Kd.C_drewN ?_ _) | (with_reducible refine Kd.C_drew ?_))); (case side4 => exact (Kd.R_reads' HO695.out).2.1); rintro e w16 ⟨v701, rfl, ho0, hb⟩; refine ⟨_, rfl, ?_⟩; have n0_ := Aside0.mk (Kd.R_elder' (by (with_reducible repeat (first | apply Kd.R_alloc | apply Kd.R_drewN | apply Kd.R_drew)); exact HO692.out) (Kd.R_base ho0) hb); have n1_ := Aside0.mk (Kd.R_elder' (by (with_reducible repeat (first | apply Kd.R_alloc | apply Kd.R_drewN | apply Kd.R_drew)); exact HO695.out) (Kd.R_base ho0) hb); have n2_ := Aside0.mk (Kd.R_elder' (by (with_reducible repeat (first | apply Kd.R_alloc | apply Kd.R_drewN | apply Kd.R_drew)); exact HO699.out) (Kd.R_base ho0) hb); have n3_ := Aside0.mk (Kd.R_lower (Kd.R_new' (Kd.R_new' (Kd.R_new' ho0 (Kd.R_lt (by (with_reducible repeat (first | apply Kd.R_alloc | apply Kd.R_drewN | apply Kd.R_drew)); exact HO692.out))) (Kd.R_lt (by (with_reducible repeat (first | apply Kd.R_alloc | apply Kd.R_drewN | apply Kd.R_drew)); exact HO695.out))) (Kd.R_lt (by (with_reducible repeat (first | apply Kd.R_alloc | apply Kd.R_drewN | apply Kd.R_drew)); exact HO699.out))) (below_size (by repeat (first | (with_reducible first | exact HB.out | apply below_alloc | apply pw_below_drewN | apply below_drew1 | refine below_set ?_ GE696.out) | exact HB.out)))); have n4_ := Aside0.mk (blk_below (g := gb696) (o := .cells #[.slice Ao11 t690.length co11, .slice Ao13 t693.length co13] 29 (0, 0)) (by (with_reducible repeat (first | refine blk_drewN ?_ _ | refine blk_drew ?_ | refine blk_alloc ?_ _)); exact BK696.out) hb); have n5_ := Aside0.mk (below_step (by repeat (first | (with_reducible first | exact HB.out | apply below_alloc | apply pw_below_drewN | apply below_drew1 | refine below_set ?_ GE696.out) | exact HB.out)) hb); clear HO692; clear HO695; clear HO699; clear BK696; clear HB; have HO692 := n0_; have HO695 := n1_; have HO699 := n2_; have HO702 := n3_; have BK696 := n4_; have HB := n5_; clear n0_ n1_ n2_ n3_ n4_ n5_; (try clear hb); (try clear hb2); (try clear hk); (try clear hi); (try clear ho0); have hcz17_0 : w16.cell? ⟨gb696, 0, none⟩ = some (.slice Ao11 t690.length co11) := (blk_cell BK696.out 0).trans rfl; have hcz17_1 : w16.cell? ⟨gb696, 1, none⟩ = some (.slice Ao13 t693.length co13) := (blk_cell BK696.out 1).trans rfl; have hfz17_0 := blk_frozen BK696.out 0; have hfz17_1 := blk_frozen BK696.out 1) | ((with_reducible refine gate_callee (f := 43) rfl ?_); refine goesL_ (some 22) rfl rfl Try.func43 (by kernel_rfl) rfl #[.agg #[.slice Ao11 t690.length co11, .slice Ao13 t693.length co13]] rfl (by (try simp only [List.map_toArray, List.map_cons, List.map_nil]); first | done | rfl | (simp only [List.length_drop, List.length_take]; rfl)) ?_; (with_reducible refine (impl_CornersOf.calls k _ _ t690 _ _ t693 t703 _ ?side1 ?side2 ?side3 ?side4 A6.out).mono ?_); (case side1 => repeat (first | exact (Kd.R_reads' HO692.out).2.2 | (with_reducible refine Kd.C_alloc ?_ _) | (with_reducible refine Kd.C_drewN ?_ _) | (with_reducible refine Kd.C_drew ?_))); (case side2 => exact (Kd.R_reads' HO692.out).2.1); (case side3 => repeat (first | exact (Kd.R_reads' HO695.out).2.2 | (with_reducible refine Kd.C_alloc ?_ _) | (with_reducible refine Kd.C_drewN ?_ _) | (with_reducible refine Kd.C_drew ?_))); (case side4 => exact (Kd.R_reads' HO695.out).2.1); rintro e w18 ⟨v704, rfl, ho0, hb⟩; refine ⟨_, rfl, ?_⟩; have n0_ := Aside0.mk (Kd.R_below (by (with_reducible repeat (first | apply Kd.R_alloc | apply Kd.R_drewN | apply Kd.R_drew)); exact HO692.out) hb); have n1_ := Aside0.mk (Kd.R_below (by (with_reducible repeat (first | apply Kd.R_alloc | apply Kd.R_drewN | apply Kd.R_drew)); exact HO695.out) hb); have n2_ := Aside0.mk (Kd.R_below (by (with_reducible repeat (first | apply Kd.R_alloc | apply Kd.R_drewN | apply Kd.R_drew)); exact HO699.out) hb); have n3_ := Aside0.mk (Kd.R_below (by (with_reducible repeat (first | apply Kd.R_alloc | apply Kd.R_drewN | apply Kd.R_drew)); exact HO702.out) hb); have n4_ := Aside0.mk (Kd.S_lower (Kd.S_new' (Kd.S_new' (Kd.S_new' (Kd.S_new' ho0 (Kd.R_lt (by (with_reducible repeat (first | apply Kd.R_alloc | apply Kd.R_drewN | apply Kd.R_drew)); exact HO692.out))) (Kd.R_lt (by (with_reducible repeat (first | apply Kd.R_alloc | apply Kd.R_drewN | apply Kd.R_drew)); exact HO695.out))) (Kd.R_lt (by (with_reducible repeat (first | apply Kd.R_alloc | apply Kd.R_drewN | apply Kd.R_drew)); exact HO699.out))) (Kd.R_lt (by (with_reducible repeat (first | apply Kd.R_alloc | apply Kd.R_drewN | apply Kd.R_drew)); exact HO702.out))) (below_size (by repeat (first | (with_reducible first | exact HB.out | apply below_alloc | apply pw_below_drewN | apply below_drew1 | refine below_set ?_ GE696.out) | exact HB.out)))); have n5_ := Aside0.mk (blk_below (g := gb696) (o := .cells #[.slice Ao11 t690.length co11, .slice Ao13 t693.length co13] 29 (0, 0)) (by (with_reducible repeat (first | refine blk_drewN ?_ _ | refine blk_drew ?_ | refine blk_alloc ?_ _)); exact BK696.out) hb); have n6_ := Aside0.mk (below_step (by repeat (first | (with_reducible first | exact HB.out | apply below_alloc | apply pw_below_drewN | apply below_drew1 | refine below_set ?_ GE696.out) | exact HB.out)) hb); clear HO692; clear HO695; clear HO699; clear HO702; clear BK696; clear HB; have HO692 := n0_; have HO695 := n1_; have HO699 := n2_; have HO702 := n3_; have HO705 := n4_; have BK696 := n5_; have HB := n6_; clear n0_ n1_ n2_ n3_ n4_ n5_ n6_; (try clear hb); (try clear hb2); (try clear hk); (try clear hi); (try clear ho0); have hcz19_0 : w18.cell? ⟨gb696, 0, none⟩ = some (.slice Ao11 t690.length co11) := (blk_cell BK696.out 0).trans rfl; have hcz19_1 : w18.cell? ⟨gb696, 1, none⟩ = some (.slice Ao13 t693.length co13) := (blk_cell BK696.out 1).trans rfl; have hfz19_0 := blk_frozen BK696.out 0; have hfz19_1 := blk_frozen BK696.out 1) | ((with_reducible refine gate_callee (f := 44) rfl ?_); refine goesL_ (some 24) rfl rfl Try.func44 (by kernel_rfl) rfl #[.agg #[.slice Ao11 t690.length co11, .slice Ao13 t693.length co13]] rfl (by (try simp only [List.map_toArray, List.map_cons, List.map_nil]); first | done | rfl | (simp only [List.length_drop, List.length_take]; rfl)) ?_; (with_reducible refine (impl_GenusOf.calls k _ _ t690 _ _ t693 t706 _ ?side1 ?side2 ?side3 ?side4 A7.out).mono ?_); (case side1 => repeat (first | exact (Kd.R_reads' HO692.out).2.2 | (with_reducible refine Kd.C_alloc ?_ _) | (with_reducible refine Kd.C_drewN ?_ _) | (with_reducible refine Kd.C_drew ?_))); (case side2 => exact (Kd.R_reads' HO692.out).2.1); (case side3 => repeat (first | exact (Kd.R_reads' HO695.out).2.2 | (with_reducible refine Kd.C_alloc ?_ _) | (with_reducible refine Kd.C_drewN ?_ _) | (with_reducible refine Kd.C_drew ?_))); (case side4 => exact (Kd.R_reads' HO695.out).2.1); rintro e w20 ⟨rfl, hb⟩; refine ⟨_, rfl, ?_⟩; have n0_ := Aside0.mk (Kd.R_below (by (with_reducible repeat (first | apply Kd.R_alloc | apply Kd.R_drewN | apply Kd.R_drew)); exact HO692.out) hb); have n1_ := Aside0.mk (Kd.R_below (by (with_reducible repeat (first | apply Kd.R_alloc | apply Kd.R_drewN | apply Kd.R_drew)); exact HO695.out) hb); have n2_ := Aside0.mk (Kd.R_below (by (with_reducible repeat (first | apply Kd.R_alloc | apply Kd.R_drewN | apply Kd.R_drew)); exact HO699.out) hb); have n3_ := Aside0.mk (Kd.R_below (by (with_reducible repeat (first | apply Kd.R_alloc | apply Kd.R_drewN | apply Kd.R_drew)); exact HO702.out) hb); have n4_ := Aside0.mk (Kd.S_below (by (with_reducible repeat (first | apply Kd.S_alloc | apply Kd.S_drewN | apply Kd.S_drew)); exact HO705.out) hb); have n5_ := Aside0.mk (blk_below (g := gb696) (o := .cells #[.slice Ao11 t690.length co11, .slice Ao13 t693.length co13] 29 (0, 0)) (by (with_reducible repeat (first | refine blk_drewN ?_ _ | refine blk_drew ?_ | refine blk_alloc ?_ _)); exact BK696.out) hb); have n6_ := Aside0.mk (below_step (by repeat (first | (with_reducible first | exact HB.out | apply below_alloc | apply pw_below_drewN | apply below_drew1 | refine below_set ?_ GE696.out) | exact HB.out)) hb); clear HO692; clear HO695; clear HO699; clear HO702; clear HO705; clear BK696; clear HB; have HO692 := n0_; have HO695 := n1_; have HO699 := n2_; have HO702 := n3_; have HO705 := n4_; have BK696 := n5_; have HB := n6_; clear n0_ n1_ n2_ n3_ n4_ n5_ n6_; (try clear hb); (try clear hb2); (try clear hk); (try clear hi)))
  (try simp only [Act.put, List.setIfInBounds_toArray, List.set_cons_zero, List.set_cons_succ])
  go_cut [58] (fun v58 wc => ∃ (kq : Nat) (x58_7 : Bool), v58 = .bool x58_7 ∧ Aside0 (laws_FnCorners.j0 kq t703 x58_7 t690 t693 = some true) ∧ Aside0 (kq ≤ k) ∧ Aside0 (Kd.S (Kd.slice 3 (Kd.int .i64)) 27 wc w.heap.size (fun k_ => some k_ ≠ ((.slice Ao11 t690.length co11) : Value).ownBlock ∧ some k_ ≠ ((.slice Ao13 t693.length co13) : Value).ownBlock) v704 t703) ∧ Aside0 (Kd.R (Kd.int .i64) 3 wc w.heap.size (fun k_ => some k_ ≠ ((.slice Ao13 t693.length co13) : Value).ownBlock) (.slice Ao11 t690.length co11) t690) ∧ Aside0 (Kd.R (Kd.int .i64) 3 wc w.heap.size (fun k_ => some k_ ≠ ((.slice Ao11 t690.length co11) : Value).ownBlock) (.slice Ao13 t693.length co13) t693) ∧ Aside0 (wc.heap[gb696]? = some (.cells #[(.slice Ao11 t690.length co11), (.slice Ao13 t693.length co13)] 29 (0, 0))) ∧ Aside0 (Below w.heap.size w wc))
  case first =>
   have H := HC8.out
   clear HC8
   replace H := Option.bind_eq_some_iff.mp H
   obtain ⟨t707, A210, H⟩ := H
   replace H : (if t707 = (t690.length : Int) then (if (t703.length : Int) = (t697.length : Int) then (if t706 < 1 then (laws_FnCorners.j0 k t703 true t690 t693) else ((laws_total.f k t700).bind fun t708 => (if t708 = (wrap64 ((wrap64 (2 * t706)) - 2)) then ((impl_AroundOf.f k t690 t693).bind fun t709 => (laws_FnCorners.j0 k t703 ((t709.length : Int) != (t690.length : Int)) t690 t693)) else (laws_FnCorners.j0 k t703 true t690 t693)))) else (laws_FnCorners.j0 k t703 true t690 t693)) else (laws_FnCorners.j0 k t703 true t690 t693)) = some true := H
   have A21 := Aside0.mk A210
   clear A210
   by_cases c22 : t707 = (t690.length : Int)
   ·rw [if_pos c22] at H
    have c22b0 : (t707 == (t690.length : Int)) = true := beq_iff_eq.mpr c22
    have c22b1 : (t707 != (t690.length : Int)) = false := bne_eq_false_iff_eq.mpr c22
    clear c22
    (first | rw [c22b0] | (simp only [i64_w, i32_w]; rw [c22b0]) | skip)
    by_cases c23 : (t703.length : Int) = (t697.length : Int)
    ·rw [if_pos c23] at H
     have c23b0 : ((t703.length : Int) == (t697.length : Int)) = true := beq_iff_eq.mpr c23
     have c23b1 : ((t703.length : Int) != (t697.length : Int)) = false := bne_eq_false_iff_eq.mpr c23
     have c23b2 : (t703.length == t697.length) = true := by first | simpa using c23 | (simp at c23 ⊢; omega)
     clear c23
     by_cases c24 : t706 < 1
     ·rw [if_pos c24] at H
      have c24b0 : decide (t706 < 1) = true := decide_eq_true c24
      clear c24
      cases k with
      | zero => rw [laws_FnCorners.j0] at H; exact absurd H (by simp)
      | succ k_ => rw [laws_FnCorners.j0, if_pos rfl] at H; exact absurd H (by simp)
     ·rw [if_neg c24] at H
      have c24b0 : decide (t706 < 1) = false := decide_eq_false c24
      clear c24
      replace H := Option.bind_eq_some_iff.mp H
      obtain ⟨t708, A280, H⟩ := H
      replace H : (if t708 = (wrap64 ((wrap64 (2 * t706)) - 2)) then ((impl_AroundOf.f k t690 t693).bind fun t709 => (laws_FnCorners.j0 k t703 ((t709.length : Int) != (t690.length : Int)) t690 t693)) else (laws_FnCorners.j0 k t703 true t690 t693)) = some true := H
      have A28 := Aside0.mk A280
      clear A280
      by_cases c29 : t708 = (wrap64 ((wrap64 (2 * t706)) - 2))
      ·rw [if_pos c29] at H
       have c29b0 : (t708 == (wrap64 ((wrap64 (2 * t706)) - 2))) = true := beq_iff_eq.mpr c29
       have c29b1 : (t708 != (wrap64 ((wrap64 (2 * t706)) - 2))) = false := bne_eq_false_iff_eq.mpr c29
       clear c29
       replace H := Option.bind_eq_some_iff.mp H
       obtain ⟨t709, A300, H⟩ := H
       replace H : (laws_FnCorners.j0 k t703 ((t709.length : Int) != (t690.length : Int)) t690 t693) = some true := H
       have A30 := Aside0.mk A300
       clear A300
       have H' := Aside0.mk H
       clear H
       try go_wp2
       have n0_ := Aside0.mk (Kd.R_drew HO692.out)
       have n1_ := Aside0.mk (Kd.R_drew HO695.out)
       have n2_ := Aside0.mk (Kd.R_drew HO699.out)
       have n3_ := Aside0.mk (Kd.R_drew HO702.out)
       have n4_ := Aside0.mk (Kd.S_drew HO705.out)
       have n5_ := Aside0.mk (blk_drew BK696.out)
       have n6_ := Aside0.mk (below_drew1 HB.out)
       clear HO692 HO695 HO699 HO702 HO705 BK696 HB
       have HO692 := n0_
       have HO695 := n1_
       have HO699 := n2_
       have HO702 := n3_
       have HO705 := n4_
       have BK696 := n5_
       have HB := n6_
       clear n0_ n1_ n2_ n3_ n4_ n5_ n6_
       obtain ⟨Ao32, co32, eo32⟩ := Kd.R_slice HO699.out
       (first | subst eo32 | (injection eo32 with f1_ f2_ f3_; have f4_ := f1_.symm; have f5_ := f3_.symm; clear f1_ f2_ f3_; subst f4_; subst f5_))
       refine start_ (n := 34) (S := fun w' => w'.cell? ⟨gb696, 0, none⟩ = some (.slice Ao11 t690.length co11) ∧ w'.cell? ⟨gb696, 1, none⟩ = some (.slice Ao13 t693.length co13)) (ds := []) #[false, false, false, false, false, false, false, false, false, false, false, false, false, false, false, false, false, false, false, false, false, false, false, false, false, false, false, false, false, false, false, false, false, false] (by kernel_rfl) rfl rfl ⟨(blk_cell BK696.out 0).trans rfl, (blk_cell BK696.out 1).trans rfl⟩ (fun hHeld => ?_); refine with_tabW laws_FnCorners.tab8 laws_FnCorners.bits8 (fun HT_ HW_ => ?_)
       generalize w20.drew = w31 at HO692 HO695 HO699 HO702 HO705 BK696 HB hHeld ⊢
       refine pure_ (i := 0) (N := some 25) (v := ?_) (a' := ?_) #[true, false, false, false, false, false, false, false, false, false, false, false, false, false, false, false, false, false, false, false, false, false, false, false, false, false, false, false, false, false, false, false, false, false] rfl rfl (any_of HT_.out (by kernel_rfl)) (fun _ _ _ h => h) (Or.inl ⟨by rfl, ?_⟩) ?_ ?_
       rotate_left
       ·intro w'
        go_simp
        with_reducible rfl
       rotate_left
       ·simp only [Act.put, List.setIfInBounds_toArray, List.set_cons_zero, List.set_cons_succ, i64_w, i32_w]
        rfl
       refine pure_ (i := 2) (N := some 27) (v := ?_) (a' := ?_) #[true, false, true, false, false, false, false, false, false, false, false, false, false, false, false, false, false, false, false, false, false, false, false, false, false, false, false, false, false, false, false, false, false, false] rfl rfl (any_of HT_.out (by kernel_rfl)) (fun _ _ _ h => h) (Or.inl ⟨by rfl, ?_⟩) ?_ ?_
       rotate_left
       ·intro w'
        go_simp
        with_reducible rfl
       rotate_left
       ·simp only [Act.put, List.setIfInBounds_toArray, List.set_cons_zero, List.set_cons_succ, i64_w, i32_w]
        rfl
       refine take_ (i := 3) (N := some 28) (v := ?_) (a' := ?_) #[true, false, true, true, false, false, false, false, false, false, false, false, false, false, false, false, false, false, false, false, false, false, false, false, false, false, false, false, false, false, false, false, false, false] rfl rfl (take_ofW HT_.out HW_.out (by kernel_rfl)) (fun _ _ _ h => h) (Or.inl ⟨by rfl, ?_⟩) hHeld ?_ ?_
       rotate_left
       ·rintro w' ⟨s0, s1⟩
        go_simp
        with_reducible rfl
       rotate_left
       ·simp only [Act.put, List.setIfInBounds_toArray, List.set_cons_zero, List.set_cons_succ, i64_w, i32_w]
        rfl
       refine pure_ (i := 4) (N := some 29) (v := ?_) (a' := ?_) #[true, false, true, true, true, false, false, false, false, false, false, false, false, false, false, false, false, false, false, false, false, false, false, false, false, false, false, false, false, false, false, false, false, false] rfl rfl (any_of HT_.out (by kernel_rfl)) (fun _ _ _ h => h) (Or.inl ⟨by rfl, ?_⟩) ?_ ?_
       rotate_left
       ·intro w'
        go_simp
        with_reducible rfl
       rotate_left
       ·simp only [Act.put, List.setIfInBounds_toArray, List.set_cons_zero, List.set_cons_succ, i64_w, i32_w]
        rfl
       refine one_ (i := 1) (N := some 26) #[true, true, true, true, true, false, false, false, false, false, false, false, false, false, false, false, false, false, false, false, false, false, false, false, false, false, false, false, false, false, false, false, false, false] rfl rfl (one_of HT_.out (by kernel_rfl)) (by decide) (fun K hK => ?_)
       refine goes_ Try.func45 (by kernel_rfl) rfl #[.slice Ao32 t697.length co32] (by rfl) rfl rfl (by (try simp only [List.map_toArray, List.map_cons, List.map_nil]); first | done | rfl | (simp only [List.length_drop, List.length_take]; rfl)) ?_
       with_reducible refine (laws_total.calls k _ _ t697 t707 _ ?side1 ?side2 A21.out).mono ?_
       (case side1 => repeat (first | exact (Kd.R_reads' HO699.out).2.2 | (with_reducible refine Kd.C_alloc ?_ _) | (with_reducible refine Kd.C_drewN ?_ _) | (with_reducible refine Kd.C_drew ?_)))
       (case side2 => exact (Kd.R_reads' HO699.out).2.1)
       rintro e w' ⟨rfl, ⟨nd, rfl⟩⟩
       refine ⟨_, rfl, ?_⟩
       obtain ⟨Ao33, co33, eo33⟩ := Kd.S_slice HO705.out
       (first | subst eo33 | (injection eo33 with f1_ f2_ f3_; have f4_ := f1_.symm; have f5_ := f3_.symm; clear f1_ f2_ f3_; subst f4_; subst f5_))
       obtain ⟨Ao34, co34, eo34⟩ := Kd.R_slice HO702.out
       (first | subst eo34 | (injection eo34 with f1_ f2_ f3_; have f4_ := f1_.symm; have f5_ := f3_.symm; clear f1_ f2_ f3_; subst f4_; subst f5_))
       refine hK.out _ _ ⟨(blk_cell BK696.out 0).trans rfl, (blk_cell BK696.out 1).trans rfl⟩ (fun hHeld => ?_)
       clear hK K
       refine norm_ (a' := ?_) ?_ ?_
       rotate_left
       ·show Act.put _ (some 26) _ = _
        simp only [Act.put, List.setIfInBounds_toArray, List.set_cons_zero, List.set_cons_succ, i64_w, i32_w]
        rfl
       refine pure_ (i := 5) (N := some 30) (v := ?_) (a' := ?_) #[true, true, true, true, true, true, false, false, false, false, false, false, false, false, false, false, false, false, false, false, false, false, false, false, false, false, false, false, false, false, false, false, false, false] rfl rfl (any_of HT_.out (by kernel_rfl)) (fun _ _ _ h => h) (Or.inl ⟨by rfl, ?_⟩) ?_ ?_
       rotate_left
       ·intro w'
        go_simp
        with_reducible rfl
       rotate_left
       ·simp only [Act.put, List.setIfInBounds_toArray, List.set_cons_zero, List.set_cons_succ, i64_w, i32_w]
        rfl
       refine pure_ (i := 6) (N := some 31) (v := ?_) (a' := ?_) #[true, true, true, true, true, true, true, false, false, false, false, false, false, false, false, false, false, false, false, false, false, false, false, false, false, false, false, false, false, false, false, false, false, false] rfl rfl (any_of HT_.out (by kernel_rfl)) (fun _ _ _ h => h) (Or.inl ⟨by rfl, ?_⟩) ?_ ?_
       rotate_left
       ·intro w'
        go_simp
        with_reducible rfl
       rotate_left
       ·simp only [Act.put, List.setIfInBounds_toArray, List.set_cons_zero, List.set_cons_succ, i64_w, i32_w]
        rfl
       refine pure_ (i := 7) (N := some 32) (v := ?_) (a' := ?_) #[true, true, true, true, true, true, true, true, false, false, false, false, false, false, false, false, false, false, false, false, false, false, false, false, false, false, false, false, false, false, false, false, false, false] rfl rfl (any_of HT_.out (by kernel_rfl)) (fun _ _ _ h => h) (Or.inl ⟨by rfl, ?_⟩) ?_ ?_
       rotate_left
       ·intro w'
        go_simp
        with_reducible rfl
       rotate_left
       ·simp only [Act.put, List.setIfInBounds_toArray, List.set_cons_zero, List.set_cons_succ, i64_w, i32_w]
        rfl
       refine pure_ (i := 8) (N := some 33) (v := ?_) (a' := ?_) #[true, true, true, true, true, true, true, true, true, false, false, false, false, false, false, false, false, false, false, false, false, false, false, false, false, false, false, false, false, false, false, false, false, false] rfl rfl (any_of HT_.out (by kernel_rfl)) (fun _ _ _ h => h) (Or.inl ⟨by rfl, ?_⟩) ?_ ?_
       rotate_left
       ·intro w'
        go_simp
        with_reducible rfl
       rotate_left
       ·simp only [Act.put, List.setIfInBounds_toArray, List.set_cons_zero, List.set_cons_succ, i64_w, i32_w]
        rfl
       refine pure_ (i := 9) (N := some 34) (v := ?_) (a' := ?_) #[true, true, true, true, true, true, true, true, true, true, false, false, false, false, false, false, false, false, false, false, false, false, false, false, false, false, false, false, false, false, false, false, false, false] rfl rfl (any_of HT_.out (by kernel_rfl)) (fun _ _ _ h => h) (Or.inl ⟨by rfl, ?_⟩) ?_ ?_
       rotate_left
       ·intro w'
        go_simp
        with_reducible rfl
       rotate_left
       ·simp only [Act.put, List.setIfInBounds_toArray, List.set_cons_zero, List.set_cons_succ, i64_w, i32_w]
        rfl
       refine pure_ (i := 10) (N := some 35) (v := ?_) (a' := ?_) #[true, true, true, true, true, true, true, true, true, true, true, false, false, false, false, false, false, false, false, false, false, false, false, false, false, false, false, false, false, false, false, false, false, false] rfl rfl (any_of HT_.out (by kernel_rfl)) (fun _ _ _ h => h) (Or.inl ⟨by rfl, ?_⟩) ?_ ?_
       rotate_left
       ·intro w'
        go_simp
        with_reducible rfl
       rotate_left
       ·simp only [Act.put, List.setIfInBounds_toArray, List.set_cons_zero, List.set_cons_succ, i64_w, i32_w]
        rfl
       refine pure_ (i := 11) (N := some 36) (v := ?_) (a' := ?_) #[true, true, true, true, true, true, true, true, true, true, true, true, false, false, false, false, false, false, false, false, false, false, false, false, false, false, false, false, false, false, false, false, false, false] rfl rfl (any_of HT_.out (by kernel_rfl)) (fun _ _ _ h => h) (Or.inl ⟨by rfl, ?_⟩) ?_ ?_
       rotate_left
       ·intro w'
        go_simp
        with_reducible rfl
       rotate_left
       ·simp only [Act.put, List.setIfInBounds_toArray, List.set_cons_zero, List.set_cons_succ, i64_w, i32_w]
        rfl
       refine pure_ (i := 12) (N := some 37) (v := ?_) (a' := ?_) #[true, true, true, true, true, true, true, true, true, true, true, true, true, false, false, false, false, false, false, false, false, false, false, false, false, false, false, false, false, false, false, false, false, false] rfl rfl (any_of HT_.out (by kernel_rfl)) (fun _ _ _ h => h) (Or.inl ⟨by rfl, ?_⟩) ?_ ?_
       rotate_left
       ·intro w'
        go_simp
        with_reducible rfl
       rotate_left
       ·simp only [Act.put, List.setIfInBounds_toArray, List.set_cons_zero, List.set_cons_succ, i64_w, i32_w]
        rfl
       refine pure_ (i := 13) (N := some 38) (v := ?_) (a' := ?_) #[true, true, true, true, true, true, true, true, true, true, true, true, true, true, false, false, false, false, false, false, false, false, false, false, false, false, false, false, false, false, false, false, false, false] rfl rfl (any_of HT_.out (by kernel_rfl)) (fun _ _ _ h => h) (Or.inl ⟨by rfl, ?_⟩) ?_ ?_
       rotate_left
       ·intro w'
        go_simp
        with_reducible rfl
       rotate_left
       ·simp only [Act.put, List.setIfInBounds_toArray, List.set_cons_zero, List.set_cons_succ, i64_w, i32_w]
        rfl
       refine pure_ (i := 14) (N := some 39) (v := ?_) (a' := ?_) #[true, true, true, true, true, true, true, true, true, true, true, true, true, true, true, false, false, false, false, false, false, false, false, false, false, false, false, false, false, false, false, false, false, false] rfl rfl (any_of HT_.out (by kernel_rfl)) (fun _ _ _ h => h) (Or.inl ⟨by rfl, ?_⟩) ?_ ?_
       rotate_left
       ·intro w'
        go_simp
        with_reducible rfl
       rotate_left
       ·simp only [Act.put, List.setIfInBounds_toArray, List.set_cons_zero, List.set_cons_succ, i64_w, i32_w]
        rfl
       refine pure_ (i := 15) (N := some 40) (v := ?_) (a' := ?_) #[true, true, true, true, true, true, true, true, true, true, true, true, true, true, true, true, false, false, false, false, false, false, false, false, false, false, false, false, false, false, false, false, false, false] rfl rfl (any_of HT_.out (by kernel_rfl)) (fun _ _ _ h => h) (Or.inl ⟨by rfl, ?_⟩) ?_ ?_
       rotate_left
       ·intro w'
        go_simp
        with_reducible rfl
       rotate_left
       ·simp only [Act.put, List.setIfInBounds_toArray, List.set_cons_zero, List.set_cons_succ, i64_w, i32_w]
        rfl
       refine pure_ (i := 16) (N := some 41) (v := ?_) (a' := ?_) #[true, true, true, true, true, true, true, true, true, true, true, true, true, true, true, true, true, false, false, false, false, false, false, false, false, false, false, false, false, false, false, false, false, false] rfl rfl (any_of HT_.out (by kernel_rfl)) (fun _ _ _ h => h) (Or.inl ⟨by rfl, ?_⟩) ?_ ?_
       rotate_left
       ·intro w'
        go_simp
        with_reducible rfl
       rotate_left
       ·simp only [Act.put, List.setIfInBounds_toArray, List.set_cons_zero, List.set_cons_succ, i64_w, i32_w]
        rfl
       refine pure_ (i := 17) (N := some 42) (v := ?_) (a' := ?_) #[true, true, true, true, true, true, true, true, true, true, true, true, true, true, true, true, true, true, false, false, false, false, false, false, false, false, false, false, false, false, false, false, false, false] rfl rfl (any_of HT_.out (by kernel_rfl)) (fun _ _ _ h => h) (Or.inl ⟨by rfl, ?_⟩) ?_ ?_
       rotate_left
       ·intro w'
        go_simp
        with_reducible rfl
       rotate_left
       ·simp only [Act.put, List.setIfInBounds_toArray, List.set_cons_zero, List.set_cons_succ, i64_w, i32_w]
        rfl
       refine pure_ (i := 18) (N := some 43) (v := ?_) (a' := ?_) #[true, true, true, true, true, true, true, true, true, true, true, true, true, true, true, true, true, true, true, false, false, false, false, false, false, false, false, false, false, false, false, false, false, false] rfl rfl (any_of HT_.out (by kernel_rfl)) (fun _ _ _ h => h) (Or.inl ⟨by rfl, ?_⟩) ?_ ?_
       rotate_left
       ·intro w'
        go_simp
        with_reducible rfl
       rotate_left
       ·simp only [Act.put, List.setIfInBounds_toArray, List.set_cons_zero, List.set_cons_succ, i64_w, i32_w]
        rfl
       refine pure_ (i := 20) (N := some 45) (v := ?_) (a' := ?_) #[true, true, true, true, true, true, true, true, true, true, true, true, true, true, true, true, true, true, true, false, true, false, false, false, false, false, false, false, false, false, false, false, false, false] rfl rfl (any_of HT_.out (by kernel_rfl)) (fun _ _ _ h => h) (Or.inl ⟨by rfl, ?_⟩) ?_ ?_
       rotate_left
       ·intro w'
        go_simp
        with_reducible rfl
       rotate_left
       ·simp only [Act.put, List.setIfInBounds_toArray, List.set_cons_zero, List.set_cons_succ, i64_w, i32_w]
        rfl
       refine pure_ (i := 21) (N := some 46) (v := ?_) (a' := ?_) #[true, true, true, true, true, true, true, true, true, true, true, true, true, true, true, true, true, true, true, false, true, true, false, false, false, false, false, false, false, false, false, false, false, false] rfl rfl (any_of HT_.out (by kernel_rfl)) (fun _ _ _ h => h) (Or.inl ⟨by rfl, ?_⟩) ?_ ?_
       rotate_left
       ·intro w'
        go_simp
        with_reducible rfl
       rotate_left
       ·simp only [Act.put, List.setIfInBounds_toArray, List.set_cons_zero, List.set_cons_succ, i64_w, i32_w]
        rfl
       refine pure_ (i := 22) (N := some 47) (v := ?_) (a' := ?_) #[true, true, true, true, true, true, true, true, true, true, true, true, true, true, true, true, true, true, true, false, true, true, true, false, false, false, false, false, false, false, false, false, false, false] rfl rfl (any_of HT_.out (by kernel_rfl)) (fun _ _ _ h => h) (Or.inl ⟨by rfl, ?_⟩) ?_ ?_
       rotate_left
       ·intro w'
        go_simp
        with_reducible rfl
       rotate_left
       ·simp only [Act.put, List.setIfInBounds_toArray, List.set_cons_zero, List.set_cons_succ, i64_w, i32_w]
        rfl
       refine one_ (i := 19) (N := some 44) #[true, true, true, true, true, true, true, true, true, true, true, true, true, true, true, true, true, true, true, true, true, true, true, false, false, false, false, false, false, false, false, false, false, false] rfl rfl (one_of HT_.out (by kernel_rfl)) (by decide) (fun K hK => ?_)
       refine goes_ Try.func45 (by kernel_rfl) rfl #[.slice Ao34 t700.length co34] (by rfl) rfl rfl (by (try simp only [List.map_toArray, List.map_cons, List.map_nil]); first | done | rfl | (simp only [List.length_drop, List.length_take]; rfl)) ?_
       with_reducible refine (laws_total.calls k _ _ t700 t708 _ ?side1 ?side2 A28.out).mono ?_
       (case side1 => repeat (first | exact (Kd.R_reads' HO702.out).2.2 | (with_reducible refine Kd.C_alloc ?_ _) | (with_reducible refine Kd.C_drewN ?_ _) | (with_reducible refine Kd.C_drew ?_)))
       (case side2 => exact (Kd.R_reads' HO702.out).2.1)
       rintro e w' ⟨rfl, ⟨nd, rfl⟩⟩
       refine ⟨_, rfl, ?_⟩
       refine hK.out _ _ ⟨(blk_cell BK696.out 0).trans rfl, (blk_cell BK696.out 1).trans rfl⟩ (fun hHeld => ?_)
       clear hK K
       refine norm_ (a' := ?_) ?_ ?_
       rotate_left
       ·show Act.put _ (some 44) _ = _
        simp only [Act.put, List.setIfInBounds_toArray, List.set_cons_zero, List.set_cons_succ, i64_w, i32_w]
        rfl
       refine pure_ (i := 23) (N := some 48) (v := ?_) (a' := ?_) #[true, true, true, true, true, true, true, true, true, true, true, true, true, true, true, true, true, true, true, true, true, true, true, true, false, false, false, false, false, false, false, false, false, false] rfl rfl (any_of HT_.out (by kernel_rfl)) (fun _ _ _ h => h) (Or.inl ⟨by rfl, ?_⟩) ?_ ?_
       rotate_left
       ·intro w'
        go_simp
        with_reducible rfl
       rotate_left
       ·simp only [Act.put, List.setIfInBounds_toArray, List.set_cons_zero, List.set_cons_succ, i64_w, i32_w]
        rfl
       refine pure_ (i := 24) (N := some 49) (v := ?_) (a' := ?_) #[true, true, true, true, true, true, true, true, true, true, true, true, true, true, true, true, true, true, true, true, true, true, true, true, true, false, false, false, false, false, false, false, false, false] rfl rfl (any_of HT_.out (by kernel_rfl)) (fun _ _ _ h => h) (Or.inl ⟨by rfl, ?_⟩) ?_ ?_
       rotate_left
       ·intro w'
        go_simp
        with_reducible rfl
       rotate_left
       ·simp only [Act.put, List.setIfInBounds_toArray, List.set_cons_zero, List.set_cons_succ, i64_w, i32_w]
        rfl
       refine pure_ (i := 25) (N := some 50) (v := ?_) (a' := ?_) #[true, true, true, true, true, true, true, true, true, true, true, true, true, true, true, true, true, true, true, true, true, true, true, true, true, true, false, false, false, false, false, false, false, false] rfl rfl (any_of HT_.out (by kernel_rfl)) (fun _ _ _ h => h) (Or.inl ⟨by rfl, ?_⟩) ?_ ?_
       rotate_left
       ·intro w'
        go_simp
        with_reducible rfl
       rotate_left
       ·simp only [Act.put, List.setIfInBounds_toArray, List.set_cons_zero, List.set_cons_succ, i64_w, i32_w]
        rfl
       refine pure_ (i := 29) (N := some 54) (v := ?_) (a' := ?_) #[true, true, true, true, true, true, true, true, true, true, true, true, true, true, true, true, true, true, true, true, true, true, true, true, true, true, false, false, false, true, false, false, false, false] rfl rfl (any_of HT_.out (by kernel_rfl)) (fun _ _ _ h => h) (Or.inl ⟨by rfl, ?_⟩) ?_ ?_
       rotate_left
       ·intro w'
        go_simp
        with_reducible rfl
       rotate_left
       ·simp only [Act.put, List.setIfInBounds_toArray, List.set_cons_zero, List.set_cons_succ, i64_w, i32_w]
        rfl
       refine take_ (i := 26) (N := some 51) (v := ?_) (a' := ?_) #[true, true, true, true, true, true, true, true, true, true, true, true, true, true, true, true, true, true, true, true, true, true, true, true, true, true, true, false, false, true, false, false, false, false] rfl rfl (take_ofW HT_.out HW_.out (by kernel_rfl)) (fun _ _ _ h => h) (Or.inl ⟨by rfl, ?_⟩) hHeld ?_ ?_
       rotate_left
       ·rintro w' ⟨s0, s1⟩
        go_simp
        with_reducible rfl
       rotate_left
       ·simp only [Act.put, List.setIfInBounds_toArray, List.set_cons_zero, List.set_cons_succ, i64_w, i32_w]
        rfl
       refine take_ (i := 30) (N := some 55) (v := ?_) (a' := ?_) #[true, true, true, true, true, true, true, true, true, true, true, true, true, true, true, true, true, true, true, true, true, true, true, true, true, true, true, false, false, true, true, false, false, false] rfl rfl (take_ofW HT_.out HW_.out (by kernel_rfl)) (fun _ _ _ h => h) (Or.inl ⟨by rfl, ?_⟩) hHeld ?_ ?_
       rotate_left
       ·rintro w' ⟨s0, s1⟩
        go_simp
        with_reducible rfl
       rotate_left
       ·simp only [Act.put, List.setIfInBounds_toArray, List.set_cons_zero, List.set_cons_succ, i64_w, i32_w]
        rfl
       refine pure_ (i := 31) (N := some 56) (v := ?_) (a' := ?_) #[true, true, true, true, true, true, true, true, true, true, true, true, true, true, true, true, true, true, true, true, true, true, true, true, true, true, true, false, false, true, true, true, false, false] rfl rfl (any_of HT_.out (by kernel_rfl)) (fun _ _ _ h => h) (Or.inl ⟨by rfl, ?_⟩) ?_ ?_
       rotate_left
       ·intro w'
        go_simp
        with_reducible rfl
       rotate_left
       ·simp only [Act.put, List.setIfInBounds_toArray, List.set_cons_zero, List.set_cons_succ, i64_w, i32_w]
        rfl
       refine one_ (i := 27) (N := some 52) #[true, true, true, true, true, true, true, true, true, true, true, true, true, true, true, true, true, true, true, true, true, true, true, true, true, true, true, true, false, true, true, true, false, false] rfl rfl (one_of HT_.out (by kernel_rfl)) (by decide) (fun K hK => ?_)
       refine goes_ Try.func46 (by kernel_rfl) rfl #[.agg #[.slice Ao11 t690.length co11, .slice Ao13 t693.length co13]] (by rfl) rfl rfl (by (try simp only [List.map_toArray, List.map_cons, List.map_nil]); first | done | rfl | (simp only [List.length_drop, List.length_take]; rfl)) ?_
       with_reducible refine (impl_AroundOf.calls k _ _ t690 _ _ t693 t709 _ ?side1 ?side2 ?side3 ?side4 A30.out).mono ?_
       (case side1 => repeat (first | exact (Kd.R_reads' HO692.out).2.2 | (with_reducible refine Kd.C_alloc ?_ _) | (with_reducible refine Kd.C_drewN ?_ _) | (with_reducible refine Kd.C_drew ?_)))
       (case side2 => exact (Kd.R_reads' HO692.out).2.1)
       (case side3 => repeat (first | exact (Kd.R_reads' HO695.out).2.2 | (with_reducible refine Kd.C_alloc ?_ _) | (with_reducible refine Kd.C_drewN ?_ _) | (with_reducible refine Kd.C_drew ?_)))
       (case side4 => exact (Kd.R_reads' HO695.out).2.1)
       rintro e w35 ⟨v710, rfl, ho0, hb⟩
       refine ⟨_, rfl, ?_⟩
       have n0_ := Aside0.mk (Kd.R_elder' (by (with_reducible repeat (first | apply Kd.R_alloc | apply Kd.R_drewN | apply Kd.R_drew)); exact HO692.out) (Kd.R_base ho0) hb)
       have n1_ := Aside0.mk (Kd.R_elder' (by (with_reducible repeat (first | apply Kd.R_alloc | apply Kd.R_drewN | apply Kd.R_drew)); exact HO695.out) (Kd.R_base ho0) hb)
       have n2_ := Aside0.mk (Kd.R_elder' (by (with_reducible repeat (first | apply Kd.R_alloc | apply Kd.R_drewN | apply Kd.R_drew)); exact HO699.out) (Kd.R_base ho0) hb)
       have n3_ := Aside0.mk (Kd.R_elder' (by (with_reducible repeat (first | apply Kd.R_alloc | apply Kd.R_drewN | apply Kd.R_drew)); exact HO702.out) (Kd.R_base ho0) hb)
       have n4_ := Aside0.mk (Kd.S_elder' (by (with_reducible repeat (first | apply Kd.S_alloc | apply Kd.S_drewN | apply Kd.S_drew)); exact HO705.out) (Kd.R_base ho0) hb)
       have n5_ := Aside0.mk (Kd.R_lower (Kd.R_new' (Kd.R_new' (Kd.R_new' (Kd.R_new' ho0 (Kd.R_lt (by (with_reducible repeat (first | apply Kd.R_alloc | apply Kd.R_drewN | apply Kd.R_drew)); exact HO692.out))) (Kd.R_lt (by (with_reducible repeat (first | apply Kd.R_alloc | apply Kd.R_drewN | apply Kd.R_drew)); exact HO695.out))) (Kd.R_lt (by (with_reducible repeat (first | apply Kd.R_alloc | apply Kd.R_drewN | apply Kd.R_drew)); exact HO699.out))) (Kd.R_lt (by (with_reducible repeat (first | apply Kd.R_alloc | apply Kd.R_drewN | apply Kd.R_drew)); exact HO702.out))) (below_size (by repeat (first | (with_reducible first | exact HB.out | apply below_alloc | apply pw_below_drewN | apply below_drew1 | refine below_set ?_ GE696.out) | exact HB.out))))
       have n6_ := Aside0.mk (blk_below (g := gb696) (o := .cells #[.slice Ao11 t690.length co11, .slice Ao13 t693.length co13] 29 (0, 0)) (by (with_reducible repeat (first | refine blk_drewN ?_ _ | refine blk_drew ?_ | refine blk_alloc ?_ _)); exact BK696.out) hb)
       have n7_ := Aside0.mk (below_step (by repeat (first | (with_reducible first | exact HB.out | apply below_alloc | apply pw_below_drewN | apply below_drew1 | refine below_set ?_ GE696.out) | exact HB.out)) hb)
       clear HO692 HO695 HO699 HO702 HO705 BK696 HB
       have HO692 := n0_
       have HO695 := n1_
       have HO699 := n2_
       have HO702 := n3_
       have HO705 := n4_
       have HO711 := n5_
       have BK696 := n6_
       have HB := n7_
       clear n0_ n1_ n2_ n3_ n4_ n5_ n6_ n7_
       (try clear hb)
       (try clear hb2)
       (try clear hk)
       (try clear hi)
       (try clear ho0)
       obtain ⟨Ao36, co36, eo36⟩ := Kd.R_slice HO711.out
       (first | subst eo36 | (injection eo36 with f1_ f2_ f3_; have f4_ := f1_.symm; have f5_ := f3_.symm; clear f1_ f2_ f3_; subst f4_; subst f5_))
       refine hK.out _ _ ⟨(blk_cell BK696.out 0).trans rfl, (blk_cell BK696.out 1).trans rfl⟩ (fun hHeld => ?_)
       clear hK K
       refine norm_ (a' := ?_) ?_ ?_
       rotate_left
       ·show Act.put _ (some 52) _ = _
        simp only [Act.put, List.setIfInBounds_toArray, List.set_cons_zero, List.set_cons_succ, i64_w, i32_w]
        rfl
       refine pure_ (i := 28) (N := some 53) (v := ?_) (a' := ?_) #[true, true, true, true, true, true, true, true, true, true, true, true, true, true, true, true, true, true, true, true, true, true, true, true, true, true, true, true, true, true, true, true, false, false] rfl rfl (any_of HT_.out (by kernel_rfl)) (fun _ _ _ h => h) (Or.inl ⟨by rfl, ?_⟩) ?_ ?_
       rotate_left
       ·intro w'
        go_simp
        with_reducible rfl
       rotate_left
       ·simp only [Act.put, List.setIfInBounds_toArray, List.set_cons_zero, List.set_cons_succ, i64_w, i32_w]
        rfl
       refine pure_ (i := 32) (N := some 57) (v := ?_) (a' := ?_) #[true, true, true, true, true, true, true, true, true, true, true, true, true, true, true, true, true, true, true, true, true, true, true, true, true, true, true, true, true, true, true, true, true, false] rfl rfl (any_of HT_.out (by kernel_rfl)) (fun _ _ _ h => h) (Or.inl ⟨by rfl, ?_⟩) ?_ ?_
       rotate_left
       ·intro w'
        go_simp
        with_reducible rfl
       rotate_left
       ·simp only [Act.put, List.setIfInBounds_toArray, List.set_cons_zero, List.set_cons_succ, i64_w, i32_w]
        rfl
       refine pure_ (i := 33) (N := some 58) (v := ?_) (a' := ?_) #[true, true, true, true, true, true, true, true, true, true, true, true, true, true, true, true, true, true, true, true, true, true, true, true, true, true, true, true, true, true, true, true, true, true] rfl rfl (any_of HT_.out (by kernel_rfl)) (fun _ _ _ h => h) (Or.inl ⟨by rfl, ?_⟩) ?_ ?_
       rotate_left
       ·intro w'
        go_simp
        with_reducible rfl
       rotate_left
       ·simp only [Act.put, List.setIfInBounds_toArray, List.set_cons_zero, List.set_cons_succ, i64_w, i32_w]
        rfl
       refine done_ (done_of HT_.out (by kernel_rfl)) ?_
       try go_wp2
       go_meet
       case rel => exact ⟨_, (((t709.length : Int) != (t690.length : Int))), (by first | rfl | (simp; done) | (simp [*]; done)), H', ⟨by first | omega | exact Nat.le_refl _⟩, ⟨by (with_reducible repeat (first | apply Kd.S_alloc | apply Kd.S_drewN | apply Kd.S_drew)); exact Kd.S_mono HO705.out (fun _ hk => ⟨hk.1.1.1.1.2, hk.1.1.1.2⟩)⟩, ⟨by (with_reducible repeat (first | apply Kd.R_alloc | apply Kd.R_drewN | apply Kd.R_drew)); exact Kd.R_mono HO692.out (fun _ hk => hk.1.1.1)⟩, ⟨by (with_reducible repeat (first | apply Kd.R_alloc | apply Kd.R_drewN | apply Kd.R_drew)); exact Kd.R_mono HO695.out (fun _ hk => hk.1.1.1)⟩, ⟨by (with_reducible repeat (first | refine blk_drewN ?_ _ | refine blk_drew ?_ | refine blk_alloc ?_ _)); exact BK696.out⟩, ⟨by repeat (first | (with_reducible first | exact HB.out | apply below_alloc | apply pw_below_drewN | apply below_drew1 | refine below_set ?_ GE696.out) | exact HB.out)⟩⟩
      ·rw [if_neg c29] at H
       have c29b0 : (t708 == (wrap64 ((wrap64 (2 * t706)) - 2))) = false := beq_eq_false_iff_ne.mpr c29
       have c29b1 : (t708 != (wrap64 ((wrap64 (2 * t706)) - 2))) = true := bne_iff_ne.mpr c29
       cases k with
       | zero => rw [laws_FnCorners.j0] at H; exact absurd H (by simp)
       | succ k_ => rw [laws_FnCorners.j0, if_pos rfl] at H; exact absurd H (by simp)
    ·rw [if_neg c23] at H
     have c23b0 : ((t703.length : Int) == (t697.length : Int)) = false := beq_eq_false_iff_ne.mpr c23
     have c23b1 : ((t703.length : Int) != (t697.length : Int)) = true := bne_iff_ne.mpr c23
     have c23b2 : (t703.length == t697.length) = false := by first | simpa using c23 | (simp at c23 ⊢; omega)
     cases k with
     | zero => rw [laws_FnCorners.j0] at H; exact absurd H (by simp)
     | succ k_ => rw [laws_FnCorners.j0, if_pos rfl] at H; exact absurd H (by simp)
   ·rw [if_neg c22] at H
    have c22b0 : (t707 == (t690.length : Int)) = false := beq_eq_false_iff_ne.mpr c22
    have c22b1 : (t707 != (t690.length : Int)) = true := bne_iff_ne.mpr c22
    (first | rw [c22b0] | (simp only [i64_w, i32_w]; rw [c22b0]) | skip)
    cases k with
    | zero => rw [laws_FnCorners.j0] at H; exact absurd H (by simp)
    | succ k_ => rw [laws_FnCorners.j0, if_pos rfl] at H; exact absurd H (by simp)
  case rest =>
   clear HC8
   try clear c2
   try clear p2
   try clear c4
   try clear c22
   try clear c22b0
   try clear c22b1
   try clear c23
   try clear c23b0
   try clear c23b1
   try clear c23b2
   try clear c45
   obtain ⟨kq, x58_7, rfl, HA, HJ7, HO_6, HO_697000, HO_697001, BK696, HB⟩ := hcut
   cases kq with
   | zero => exact absurd HA.out (by simp [laws_FnCorners.j0])
   | succ kj7 =>
    have H := HA.out
    clear HA
    simp only [laws_FnCorners.j0] at H
    by_cases c46 : x58_7 = true
    ·subst c46
     have H1 : (some false) = some true := by rw [if_pos rfl] at H; exact H
     clear H
     have H := H1
     clear H1
     exact absurd H (by simp)
    ·replace c46 := Bool.eq_false_iff.mpr c46
     subst c46
     have H1 : (laws_FnCorners.l0 kj7 t703 (t690.length : Int) 0 t690 t693) = some true := by rw [if_neg (show ¬ (false = true) by decide)] at H; exact H
     clear H
     have H := H1
     clear H1
     have H' := Aside0.mk H
     clear H
     have hcz47_0 : wc.cell? ⟨gb696, 0, none⟩ = some (.slice Ao11 t690.length co11) := (blk_cell BK696.out 0).trans rfl
     have hcz47_1 : wc.cell? ⟨gb696, 1, none⟩ = some (.slice Ao13 t693.length co13) := (blk_cell BK696.out 1).trans rfl
     have hfz47_0 := blk_frozen BK696.out 0
     have hfz47_1 := blk_frozen BK696.out 1
     go_wp2
     go_loopg [62] kj7 (fun kq v62 w' => ∃ (x62_2 : Int), v62 = .int .i64 x62_2 ∧ Aside0 (laws_FnCorners.l0 kq t703 (t690.length : Int) x62_2 t690 t693 = some true) ∧ Aside0 (kq ≤ kj7) ∧ Aside0 (Kd.S (Kd.slice 3 (Kd.int .i64)) 27 w' w.heap.size (fun k_ => some k_ ≠ ((.slice Ao11 t690.length co11) : Value).ownBlock ∧ some k_ ≠ ((.slice Ao13 t693.length co13) : Value).ownBlock) v704 t703) ∧ Aside0 (Kd.R (Kd.int .i64) 3 w' w.heap.size (fun k_ => some k_ ≠ ((.slice Ao13 t693.length co13) : Value).ownBlock) (.slice Ao11 t690.length co11) t690) ∧ Aside0 (Kd.R (Kd.int .i64) 3 w' w.heap.size (fun k_ => some k_ ≠ ((.slice Ao11 t690.length co11) : Value).ownBlock) (.slice Ao13 t693.length co13) t693) ∧ Aside0 (w'.heap[gb696]? = some (.cells #[(.slice Ao11 t690.length co11), (.slice Ao13 t693.length co13)] 29 (0, 0))) ∧ Aside0 (Below w.heap.size w w'))
     case atStart => exact ⟨(0), (by first | rfl | (simp; done) | (simp [*]; done)), H', ⟨Nat.le_refl _⟩, ⟨by (with_reducible repeat (first | apply Kd.S_alloc | apply Kd.S_drewN | apply Kd.S_drew)); exact HO_6.out⟩, ⟨by (with_reducible repeat (first | apply Kd.R_alloc | apply Kd.R_drewN | apply Kd.R_drew)); exact HO_697000.out⟩, ⟨by (with_reducible repeat (first | apply Kd.R_alloc | apply Kd.R_drewN | apply Kd.R_drew)); exact HO_697001.out⟩, ⟨by (with_reducible repeat (first | refine blk_drewN ?_ _ | refine blk_drew ?_ | refine blk_alloc ?_ _)); exact BK696.out⟩, ⟨by repeat (first | (with_reducible first | exact HB.out | apply below_alloc | apply pw_below_drewN | apply below_drew1 | refine below_set ?_ GE696.out) | exact HB.out)⟩⟩
     case round =>
      clear H'
      try clear c2
      try clear p2
      try clear c4
      try clear c22
      try clear c22b0
      try clear c22b1
      try clear c23
      try clear c23b0
      try clear c23b1
      try clear c23b2
      try clear c45
      try clear c46
      try clear hcz47_0
      try clear hcz47_1
      try clear hfz47_0
      try clear hfz47_1
      try clear p2
      obtain ⟨x62_2, rfl, HA, HK2, HO_6, HO_697000, HO_697001, BK696, HB⟩ := hrel
      cases gk with
      | zero => exact absurd HA.out (by simp [laws_FnCorners.l0])
      | succ k2 =>
       have H := HA.out
       clear HA
       simp only [laws_FnCorners.l0] at H
       by_cases c48 : x62_2 < (t690.length : Int)
       ·rw [if_pos c48] at H
        have c48b0 : decide (x62_2 < (t690.length : Int)) = true := decide_eq_true c48
        clear c48
        have H' := Aside0.mk H
        clear H
        obtain ⟨Ao49, co49, eo49⟩ := Kd.S_slice HO_6.out
        subst eo49
        go_wp2
        go_loopg [9, 67] k2 (fun kq v9 v67 w' => ∃ (x9_3 : Int) (x67_3 : Int), v9 = .int .i64 x9_3 ∧ v67 = .int .i64 x67_3 ∧ Aside0 (laws_FnCorners.l1 kq t703 x62_2 x9_3 (t690.length : Int) x62_2 t703 (t703.length : Int) x67_3 t690 t693 = some true) ∧ Aside0 (kq ≤ k2) ∧ Aside0 (Kd.S (Kd.slice 3 (Kd.int .i64)) 27 w' w.heap.size (fun k_ => some k_ ≠ ((.slice Ao11 t690.length co11) : Value).ownBlock ∧ some k_ ≠ ((.slice Ao13 t693.length co13) : Value).ownBlock) (.slice Ao49 t703.length co49) t703) ∧ Aside0 (Kd.S (Kd.slice 3 (Kd.int .i64)) 27 w' w.heap.size (fun k_ => some k_ ≠ ((.slice Ao11 t690.length co11) : Value).ownBlock ∧ some k_ ≠ ((.slice Ao13 t693.length co13) : Value).ownBlock) (.slice Ao49 t703.length co49) t703) ∧ Aside0 (Kd.R (Kd.int .i64) 3 w' w.heap.size (fun k_ => some k_ ≠ ((.slice Ao13 t693.length co13) : Value).ownBlock) (.slice Ao11 t690.length co11) t690) ∧ Aside0 (Kd.R (Kd.int .i64) 3 w' w.heap.size (fun k_ => some k_ ≠ ((.slice Ao11 t690.length co11) : Value).ownBlock) (.slice Ao13 t693.length co13) t693) ∧ Aside0 (w'.heap[gb696]? = some (.cells #[(.slice Ao11 t690.length co11), (.slice Ao13 t693.length co13)] 29 (0, 0))) ∧ Aside0 (Below w.heap.size w w'))
        case atStart => exact ⟨(0), (0), (by first | rfl | (simp; done) | (simp [*]; done)), (by first | rfl | (simp; done) | (simp [*]; done)), H', ⟨Nat.le_refl _⟩, ⟨by (with_reducible repeat (first | apply Kd.S_alloc | apply Kd.S_drewN | apply Kd.S_drew)); exact HO_6.out⟩, ⟨by (with_reducible repeat (first | apply Kd.S_alloc | apply Kd.S_drewN | apply Kd.S_drew)); exact HO_6.out⟩, ⟨by (with_reducible repeat (first | apply Kd.R_alloc | apply Kd.R_drewN | apply Kd.R_drew)); exact HO_697000.out⟩, ⟨by (with_reducible repeat (first | apply Kd.R_alloc | apply Kd.R_drewN | apply Kd.R_drew)); exact HO_697001.out⟩, ⟨by (with_reducible repeat (first | refine blk_drewN ?_ _ | refine blk_drew ?_ | refine blk_alloc ?_ _)); exact BK696.out⟩, ⟨by repeat (first | (with_reducible first | exact HB.out | apply below_alloc | apply pw_below_drewN | apply below_drew1 | refine below_set ?_ GE696.out) | exact HB.out)⟩⟩
        case round =>
         clear H'
         try clear c2
         try clear p2
         try clear c4
         try clear c22
         try clear c22b0
         try clear c22b1
         try clear c23
         try clear c23b0
         try clear c23b1
         try clear c23b2
         try clear c45
         try clear c46
         try clear c48
         try clear c48b0
         try clear hcz47_0
         try clear hcz47_1
         try clear hfz47_0
         try clear hfz47_1
         try clear p2
         obtain ⟨x9_3, x67_3, rfl, rfl, HA, HK3, HO_6, HO_65, HO_697000, HO_697001, BK696, HB⟩ := hrel
         cases gk with
         | zero => exact absurd HA.out (by simp [laws_FnCorners.l1])
         | succ k3 =>
          have H := HA.out
          clear HA
          simp only [laws_FnCorners.l1] at H
          by_cases c50 : x67_3 < (t703.length : Int)
          ·rw [if_pos c50] at H
           have c50b0 : decide (x67_3 < (t703.length : Int)) = true := decide_eq_true c50
           clear c50
           by_cases c51 : 0 ≤ x67_3
           ·rw [if_pos c51] at H
            have c51b0 : decide (0 ≤ x67_3) = true := decide_eq_true c51
            clear c51
            by_cases c52 : x67_3 < (t703.length : Int)
            ·rw [if_pos c52] at H
             have c52b0 : decide (x67_3 < (t703.length : Int)) = true := decide_eq_true c52
             clear c52
             replace H := Option.bind_eq_some_iff.mp H
             obtain ⟨t713, A530, H⟩ := H
             replace H : (if t713 = true then (laws_FnCorners.l1 k3 t703 x62_2 ((rd_L3 t703 x67_3).length : Int) (t690.length : Int) x62_2 t703 (t703.length : Int) (wrap64 (x67_3 + 1)) t690 t693) else (laws_FnCorners.l1 k3 t703 x62_2 x9_3 (t690.length : Int) x62_2 t703 (t703.length : Int) (wrap64 (x67_3 + 1)) t690 t693)) = some true := H
             have A53 := Aside0.mk A530
             clear A530
             by_cases c54 : t713 = true
             ·subst c54
              have H1 : (laws_FnCorners.l1 k3 t703 x62_2 ((rd_L3 t703 x67_3).length : Int) (t690.length : Int) x62_2 t703 (t703.length : Int) (wrap64 (x67_3 + 1)) t690 t693) = some true := by rw [if_pos rfl] at H; exact H
              clear H
              have H := H1
              clear H1
              have H' := Aside0.mk H
              clear H
              have p712 : 0 ≤ (x67_3 : Int) := of_decide_eq_true (by first | (with_reducible assumption) | assumption)
              have q712 : x67_3 < (t703.length : Int) := of_decide_eq_true (by first | (with_reducible assumption) | assumption)
              obtain ⟨ad712, A712_0, c712_0, e712, hx712_0, hl712_0, hi712_0⟩ := at_L3 (Kd.S_reads' HO_65.out).2.2 x67_3 p712 q712
              cases e712
              obtain ⟨ce712, hce712, hMe712, hcc712⟩ := Kd.S_get HO_65.out [] x67_3 p712 (by first | exact q712 | exact of_decide_eq_true (by first | (with_reducible assumption) | assumption) | (have e_ := (Kd.S_reads' HO_65.out).1; omega))
              obtain ⟨ve712_0, rfl, ge712_0⟩ := hMe712
              have hv712_0 := hcc712 0 _ rfl
              rw [Nat.add_zero, show ((Kd.slice 3 (Kd.int .i64))).sz = 1 from rfl, Nat.mul_one] at hv712_0
              replace hv712_0 := Option.some.inj (hv712_0.symm.trans hx712_0)
              rw [hv712_0] at ge712_0
              have HL712_0 := Aside0.mk (show Kd.R (Kd.int .i64) 3 _ _ _ _ (rd_L3 t703 x67_3) from ge712_0)
              clear hv712_0 ge712_0 hcc712 hce712
              have HR712_0 := Aside0.mk hi712_0
              have HC712_0 := Aside0.mk hl712_0
              clear hi712_0 hl712_0
              replace p712 := eq_true p712
              replace q712 := eq_true q712
              go_wp2_with (first | ((with_reducible refine gate_callee (f := 47) rfl ?_); refine goesL_ (some 73) rfl rfl Try.func47 (by kernel_rfl) rfl #[.slice A712_0 (rd_L3 t703 x67_3).length c712_0, .int .i64 x62_2] rfl (by (try simp only [List.map_toArray, List.map_cons, List.map_nil]); first | done | rfl | (simp only [List.length_drop, List.length_take]; rfl)) ?_; (with_reducible refine (laws_has.calls k3 _ _ (rd_L3 t703 x67_3) x62_2 true _ ?side1 ?side2 A53.out).mono ?_); (case side1 => repeat (first | exact (by repeat (first | (with_reducible exact HR712_0.out) | (with_reducible refine Kd.C_alloc ?_ _) | (with_reducible refine Kd.C_drewN ?_ _) | (with_reducible refine Kd.C_drew ?_) | exact HR712_0.out)) | (with_reducible refine Kd.C_alloc ?_ _) | (with_reducible refine Kd.C_drewN ?_ _) | (with_reducible refine Kd.C_drew ?_))); (case side2 => exact HC712_0.out); rintro e w' ⟨rfl, ⟨nd, rfl⟩⟩; refine ⟨_, rfl, ?_⟩))
              go_roundg k3
              case measure => have := HJ7.out; have := HK2.out; have := HK3.out; omega
              case rel => exact ⟨(((rd_L3 t703 x67_3).length : Int)), (wrap64 (x67_3 + 1)), (by first | rfl | (simp; done) | (simp [*]; done)), (by first | rfl | (simp; done) | (simp [*]; done)), H', ⟨by have := HJ7.out; have := HK2.out; have := HK3.out; omega⟩, ⟨by (with_reducible repeat (first | apply Kd.S_alloc | apply Kd.S_drewN | apply Kd.S_drew)); exact HO_6.out⟩, ⟨by (with_reducible repeat (first | apply Kd.S_alloc | apply Kd.S_drewN | apply Kd.S_drew)); exact HO_65.out⟩, ⟨by (with_reducible repeat (first | apply Kd.R_alloc | apply Kd.R_drewN | apply Kd.R_drew)); exact HO_697000.out⟩, ⟨by (with_reducible repeat (first | apply Kd.R_alloc | apply Kd.R_drewN | apply Kd.R_drew)); exact HO_697001.out⟩, ⟨by (with_reducible repeat (first | refine blk_drewN ?_ _ | refine blk_drew ?_ | refine blk_alloc ?_ _)); exact BK696.out⟩, ⟨by repeat (first | (with_reducible first | exact HB.out | apply below_alloc | apply pw_below_drewN | apply below_drew1 | refine below_set ?_ GE696.out) | exact HB.out)⟩⟩
             ·replace c54 := Bool.eq_false_iff.mpr c54
              subst c54
              have H1 : (laws_FnCorners.l1 k3 t703 x62_2 x9_3 (t690.length : Int) x62_2 t703 (t703.length : Int) (wrap64 (x67_3 + 1)) t690 t693) = some true := by rw [if_neg (show ¬ (false = true) by decide)] at H; exact H
              clear H
              have H := H1
              clear H1
              have H' := Aside0.mk H
              clear H
              have p712 : 0 ≤ (x67_3 : Int) := of_decide_eq_true (by first | (with_reducible assumption) | assumption)
              have q712 : x67_3 < (t703.length : Int) := of_decide_eq_true (by first | (with_reducible assumption) | assumption)
              obtain ⟨ad712, A712_0, c712_0, e712, hx712_0, hl712_0, hi712_0⟩ := at_L3 (Kd.S_reads' HO_65.out).2.2 x67_3 p712 q712
              cases e712
              obtain ⟨ce712, hce712, hMe712, hcc712⟩ := Kd.S_get HO_65.out [] x67_3 p712 (by first | exact q712 | exact of_decide_eq_true (by first | (with_reducible assumption) | assumption) | (have e_ := (Kd.S_reads' HO_65.out).1; omega))
              obtain ⟨ve712_0, rfl, ge712_0⟩ := hMe712
              have hv712_0 := hcc712 0 _ rfl
              rw [Nat.add_zero, show ((Kd.slice 3 (Kd.int .i64))).sz = 1 from rfl, Nat.mul_one] at hv712_0
              replace hv712_0 := Option.some.inj (hv712_0.symm.trans hx712_0)
              rw [hv712_0] at ge712_0
              have HL712_0 := Aside0.mk (show Kd.R (Kd.int .i64) 3 _ _ _ _ (rd_L3 t703 x67_3) from ge712_0)
              clear hv712_0 ge712_0 hcc712 hce712
              have HR712_0 := Aside0.mk hi712_0
              have HC712_0 := Aside0.mk hl712_0
              clear hi712_0 hl712_0
              replace p712 := eq_true p712
              replace q712 := eq_true q712
              go_wp2_with (first | ((with_reducible refine gate_callee (f := 47) rfl ?_); refine goesL_ (some 73) rfl rfl Try.func47 (by kernel_rfl) rfl #[.slice A712_0 (rd_L3 t703 x67_3).length c712_0, .int .i64 x62_2] rfl (by (try simp only [List.map_toArray, List.map_cons, List.map_nil]); first | done | rfl | (simp only [List.length_drop, List.length_take]; rfl)) ?_; (with_reducible refine (laws_has.calls k3 _ _ (rd_L3 t703 x67_3) x62_2 false _ ?side1 ?side2 A53.out).mono ?_); (case side1 => repeat (first | exact (by repeat (first | (with_reducible exact HR712_0.out) | (with_reducible refine Kd.C_alloc ?_ _) | (with_reducible refine Kd.C_drewN ?_ _) | (with_reducible refine Kd.C_drew ?_) | exact HR712_0.out)) | (with_reducible refine Kd.C_alloc ?_ _) | (with_reducible refine Kd.C_drewN ?_ _) | (with_reducible refine Kd.C_drew ?_))); (case side2 => exact HC712_0.out); rintro e w' ⟨rfl, ⟨nd, rfl⟩⟩; refine ⟨_, rfl, ?_⟩))
              go_roundg k3
              case measure => have := HJ7.out; have := HK2.out; have := HK3.out; omega
              case rel => exact ⟨(x9_3), (wrap64 (x67_3 + 1)), (by first | rfl | (simp; done) | (simp [*]; done)), (by first | rfl | (simp; done) | (simp [*]; done)), H', ⟨by have := HJ7.out; have := HK2.out; have := HK3.out; omega⟩, ⟨by (with_reducible repeat (first | apply Kd.S_alloc | apply Kd.S_drewN | apply Kd.S_drew)); exact HO_6.out⟩, ⟨by (with_reducible repeat (first | apply Kd.S_alloc | apply Kd.S_drewN | apply Kd.S_drew)); exact HO_65.out⟩, ⟨by (with_reducible repeat (first | apply Kd.R_alloc | apply Kd.R_drewN | apply Kd.R_drew)); exact HO_697000.out⟩, ⟨by (with_reducible repeat (first | apply Kd.R_alloc | apply Kd.R_drewN | apply Kd.R_drew)); exact HO_697001.out⟩, ⟨by (with_reducible repeat (first | refine blk_drewN ?_ _ | refine blk_drew ?_ | refine blk_alloc ?_ _)); exact BK696.out⟩, ⟨by repeat (first | (with_reducible first | exact HB.out | apply below_alloc | apply pw_below_drewN | apply below_drew1 | refine below_set ?_ GE696.out) | exact HB.out)⟩⟩
            ·rw [if_neg c52] at H
             exact absurd H (by simp)
           ·rw [if_neg c51] at H
            exact absurd H (by simp)
          ·rw [if_neg c50] at H
           have c50b0 : decide (x67_3 < (t703.length : Int)) = false := decide_eq_false c50
           (try simp only [hl712_0] at c50b0)
           clear c50
           replace H := Option.bind_eq_some_iff.mp H
           obtain ⟨t714, A550, H⟩ := H
           replace H : (if (t714 != (x9_3 == 1)) = true then (some false) else (laws_FnCorners.l0 k3 t703 (t690.length : Int) (wrap64 (x62_2 + 1)) t690 t693)) = some true := H
           have A55 := Aside0.mk A550
           clear A550
           by_cases c56 : (t714 != (x9_3 == 1)) = true
           ·rw [if_pos c56] at H
            have c56b0 : (t714 != (x9_3 == 1)) = true := c56
            (try (have c56b1 : decide (t714 = (x9_3 == 1)) = false := by simpa using c56))
            (try (have c56b2 : (t714 == (x9_3 == 1)) = false := by simpa using c56))
            (try (have c56b3 : ¬ (t714 = (x9_3 == 1)) := by simpa using c56))
            clear c56
            exact absurd H (by simp)
           ·rw [if_neg c56] at H
            have c56b0 : (t714 != (x9_3 == 1)) = false := by simpa using c56
            (try (have c56b1 : decide (t714 = (x9_3 == 1)) = true := by simpa using c56))
            (try (have c56b2 : (t714 == (x9_3 == 1)) = true := by simpa using c56))
            clear c56
            have H' := Aside0.mk H
            clear H
            have hcz59_0 : wr.cell? ⟨gb696, 0, none⟩ = some (.slice Ao11 t690.length co11) := (blk_cell BK696.out 0).trans rfl
            have hcz59_1 : wr.cell? ⟨gb696, 1, none⟩ = some (.slice Ao13 t693.length co13) := (blk_cell BK696.out 1).trans rfl
            have hfz59_0 := blk_frozen BK696.out 0
            have hfz59_1 := blk_frozen BK696.out 1
            go_wp2_with (first | ((with_reducible refine gate_callee (f := 48) rfl ?_); refine goesL_ (some 79) rfl rfl Try.func48 (by kernel_rfl) rfl #[.agg #[.slice Ao11 t690.length co11, .slice Ao13 t693.length co13], .int .i64 x62_2] rfl (by (try simp only [List.map_toArray, List.map_cons, List.map_nil]); first | done | rfl | (simp only [List.length_drop, List.length_take]; rfl)) ?_; (with_reducible refine (impl_IsRegularCorner.calls k3 _ _ t690 _ _ t693 x62_2 t714 _ ?side1 ?side2 ?side3 ?side4 A55.out).mono ?_); (case side1 => repeat (first | exact (Kd.R_reads' HO_697000.out).2.2 | (with_reducible refine Kd.C_alloc ?_ _) | (with_reducible refine Kd.C_drewN ?_ _) | (with_reducible refine Kd.C_drew ?_))); (case side2 => exact (Kd.R_reads' HO_697000.out).2.1); (case side3 => repeat (first | exact (Kd.R_reads' HO_697001.out).2.2 | (with_reducible refine Kd.C_alloc ?_ _) | (with_reducible refine Kd.C_drewN ?_ _) | (with_reducible refine Kd.C_drew ?_))); (case side4 => exact (Kd.R_reads' HO_697001.out).2.1); rintro e w60 ⟨rfl, hb⟩; refine ⟨_, rfl, ?_⟩; have n0_ := Aside0.mk (Kd.S_below (by (with_reducible repeat (first | apply Kd.S_alloc | apply Kd.S_drewN | apply Kd.S_drew)); exact HO_6.out) hb); have n1_ := Aside0.mk (Kd.S_below (by (with_reducible repeat (first | apply Kd.S_alloc | apply Kd.S_drewN | apply Kd.S_drew)); exact HO_65.out) hb); have n2_ := Aside0.mk (Kd.R_below (by (with_reducible repeat (first | apply Kd.R_alloc | apply Kd.R_drewN | apply Kd.R_drew)); exact HO_697000.out) hb); have n3_ := Aside0.mk (Kd.R_below (by (with_reducible repeat (first | apply Kd.R_alloc | apply Kd.R_drewN | apply Kd.R_drew)); exact HO_697001.out) hb); have n4_ := Aside0.mk (blk_below (g := gb696) (o := .cells #[.slice Ao11 t690.length co11, .slice Ao13 t693.length co13] 29 (0, 0)) (by (with_reducible repeat (first | refine blk_drewN ?_ _ | refine blk_drew ?_ | refine blk_alloc ?_ _)); exact BK696.out) hb); have n5_ := Aside0.mk (below_step (by repeat (first | (with_reducible first | exact HB.out | apply below_alloc | apply pw_below_drewN | apply below_drew1 | refine below_set ?_ GE696.out) | exact HB.out)) hb); clear HO_6; clear HO_65; clear HO_697000; clear HO_697001; clear BK696; clear HB; have HO_6 := n0_; have HO_65 := n1_; have HO_697000 := n2_; have HO_697001 := n3_; have BK696 := n4_; have HB := n5_; clear n0_ n1_ n2_ n3_ n4_ n5_; (try clear hb); (try clear hb2); (try clear hk); (try clear hi)))
            go_roundg k3
            case measure => have := HJ7.out; have := HK2.out; have := HK3.out; omega
            case rel => exact ⟨(wrap64 (x62_2 + 1)), (by first | rfl | (simp; done) | (simp [*]; done)), H', ⟨by have := HJ7.out; have := HK2.out; have := HK3.out; omega⟩, ⟨by (with_reducible repeat (first | apply Kd.S_alloc | apply Kd.S_drewN | apply Kd.S_drew)); exact HO_6.out⟩, ⟨by (with_reducible repeat (first | apply Kd.R_alloc | apply Kd.R_drewN | apply Kd.R_drew)); exact HO_697000.out⟩, ⟨by (with_reducible repeat (first | apply Kd.R_alloc | apply Kd.R_drewN | apply Kd.R_drew)); exact HO_697001.out⟩, ⟨by (with_reducible repeat (first | refine blk_drewN ?_ _ | refine blk_drew ?_ | refine blk_alloc ?_ _)); exact BK696.out⟩, ⟨by repeat (first | (with_reducible first | exact HB.out | apply below_alloc | apply pw_below_drewN | apply below_drew1 | refine below_set ?_ GE696.out) | exact HB.out)⟩⟩
       ·rw [if_neg c48] at H
        have c48b0 : decide (x62_2 < (t690.length : Int)) = false := decide_eq_false c48
        (try simp only [hl712_0] at c48b0)
        clear c48
        have hr_ := Option.some.inj H
        clear H
        go_wp2
        go_ret
        exact ⟨by first | rfl | (simp [errW_none, errW_some] <;> rfl) | (simp [*, errW_none, errW_some] <;> rfl), by repeat (first | (with_reducible first | exact HB.out | apply below_alloc | apply pw_below_drewN | apply below_drew1 | refine below_set ?_ GE696.out) | exact HB.out)⟩

/-- The pure statement of laws_FnCorners. -/
def laws_FnCorners.Pure : Prop := ∀ (l0 : List Int), l0.length ≤ maxLen → l0.length * 1 ≤ 140737488351232 → (∀ x ∈ l0, (Lit.int .u8 x).wf = true) → ∃ k, laws_FnCorners.f k l0 = some true
theorem laws_FnCorners.walk (P : laws_FnCorners.Pure) (a0 : Option Addr) (len0 cap0 : Nat) (z0 : List Int) (w : World) (w0 : ((a0 = none ∧ len0 = 0 ∧ cap0 = 0 ∧ z0 = []) ∨ ∃ x, a0 = some x ∧ len0 ≤ cap0 ∧ cap0 ≤ maxLen ∧ z0.length = cap0 ∧ (∀ i, i < z0.length → w.cell? (x.add i) = some (.int .u8 (z0.getD i 0))) ∧ ∀ n ∈ z0, (Lit.int .u8 n).wf = true)) (y0 : len0 * 1 ≤ 140737488351232) :
  Calls Try.prog 9 #[.slice a0 len0 cap0] w fun e w' => e = .returned (.bool true) ∧ Below w.heap.size w w' := by
 obtain ⟨l0, rfl, hr0, hm0, hw0, hc0⟩ := ReadsInt.ofRowC w0
 obtain ⟨k, h⟩ := P l0 hm0 y0 hw0
 refine (laws_FnCorners.calls_true k _ _ l0 w (Kd.C_of_reads (d := (0 : Int)) (h1 := fun _ => rfl) hr0) hc0 h).mono ?_
 rintro e w' ⟨rfl, hd⟩
 exact ⟨rfl, hd⟩

end Go.Proofs.Ytlohmpgbjgidpab.P
