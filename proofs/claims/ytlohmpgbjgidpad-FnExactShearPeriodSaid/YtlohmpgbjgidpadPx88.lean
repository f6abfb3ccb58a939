-- MADE by this project's printer (wip/mk) out of the translation; Lean checks it.
import Derived.Test.YtlohmpgbjgidpadPx0
import Derived.Test.YtlohmpgbjgidpadPx8
import Derived.Test.YtlohmpgbjgidpadPx38
import Derived.Test.YtlohmpgbjgidpadPx60
import Derived.Test.YtlohmpgbjgidpadPx66
namespace Go.Proofs.Ytlohmpgbjgidpad.P
open Go.RowKit Go.Proofs.YtlohmpgbjgidpadW.PrintWords Go.Proofs.YtlohmpgbjgidpadW.PrintLast Go.Proofs.YtlohmpgbjgidpadW.PrintMore
attribute [local go_sem] max2_int min2_int max_two min_two max_three min_three max_four min_four   -- for this text's walks alone
set_option linter.unusedVariables false
set_option linter.unusedSimpArgs false

/-! ### spec_ShearPeriod: function 32 -/
def spec_ShearPeriod.l0 : Nat → Int → List Int → List Int → List Int → List Int → Option (Int)
 | 0, _, _, _, _, _ => none
 | k + 1, x5, zS, zT, zU, zV => (spec_l03Canon.f k zU zV).bind fun ze1 => ((spec_SameSurface.f k ze1.1 ze1.2 zS zT).bind fun t1015 => (if t1015 = true then (some x5) else ((spec_l05Shear.f k zU zV).bind fun zw => (spec_ShearPeriod.l0 k (wrap64 (x5 + 1)) zS zT zw.1 zw.2))))
def spec_ShearPeriod.f (k : Nat) (l0_0 : List Int) (l0_1 : List Int) : Option (Int) := (spec_SurfaceOk.f k l0_0 l0_1).bind fun t994 => (if t994 = true then ((spec_l03Canon.f k l0_0 l0_1).bind fun zA => ((spec_l05Shear.f k l0_0 l0_1).bind fun zt => (spec_ShearPeriod.l0 k 1 zA.1 zA.2 zt.1 zt.2))) else (some 0))
theorem spec_ShearPeriod.mono_l : ∀ k, (∀ y0 y1 y2 y3 y4, LeO (spec_ShearPeriod.l0 k y0 y1 y2 y3 y4) (spec_ShearPeriod.l0 (k + 1) y0 y1 y2 y3 y4))
 | 0 => fun _ _ _ _ _ r h => by simp [spec_ShearPeriod.l0] at h
 | k + 1 => by
  have ih0 := spec_ShearPeriod.mono_l k
  ·intro y0 y1 y2 y3 y4
   unfold spec_ShearPeriod.l0
   repeat' first
   | (with_reducible exact ih0 _ _ _ _ _)
   | (with_reducible exact spec_SameSurface.mono _ _ _ _ _)
   | (with_reducible exact spec_SurfaceOk.mono _ _ _)
   | (with_reducible exact spec_l03Canon.mono _ _ _)
   | (with_reducible exact spec_l05Shear.mono _ _ _)
   | (with_reducible exact LeO.refl _)
   | (with_reducible exact LeO.none _)
   | (with_reducible refine LeO.ite ?_ ?_)
   | (with_reducible refine LeO.bind ?_ (fun _ => ?_))
   | exact ih0 _ _ _ _ _
   | exact spec_SameSurface.mono _ _ _ _ _
   | exact spec_SurfaceOk.mono _ _ _
   | exact spec_l03Canon.mono _ _ _
   | exact spec_l05Shear.mono _ _ _
   | exact LeO.none _
   | refine LeO.ite ?_ ?_
   | refine LeO.bind ?_ (fun _ => ?_)
theorem spec_ShearPeriod.mono : ∀ a0 a1 k, LeO (spec_ShearPeriod.f k a0 a1) (spec_ShearPeriod.f (k + 1) a0 a1) := by
 intro a0 a1 k
 have ih0 := spec_ShearPeriod.mono_l k
 unfold spec_ShearPeriod.f
 repeat' first
   | (with_reducible exact ih0 _ _ _ _ _)
   | (with_reducible exact spec_SameSurface.mono _ _ _ _ _)
   | (with_reducible exact spec_SurfaceOk.mono _ _ _)
   | (with_reducible exact spec_l03Canon.mono _ _ _)
   | (with_reducible exact spec_l05Shear.mono _ _ _)
   | (with_reducible exact LeO.refl _)
   | (with_reducible exact LeO.none _)
   | (with_reducible refine LeO.ite ?_ ?_)
   | (with_reducible refine LeO.bind ?_ (fun _ => ?_))
   | exact ih0 _ _ _ _ _
   | exact spec_SameSurface.mono _ _ _ _ _
   | exact spec_SurfaceOk.mono _ _ _
   | exact spec_l03Canon.mono _ _ _
   | exact spec_l05Shear.mono _ _ _
   | exact LeO.none _
   | refine LeO.ite ?_ ?_
   | refine LeO.bind ?_ (fun _ => ?_)
set_option maxHeartbeats 8000000 in
set_option maxRecDepth 100000 in
theorem spec_ShearPeriod.calls (k : Nat) (A0_0 : Option Addr) (c0_0 : Nat) (l0_0 : List Int) (A0_1 : Option Addr) (c0_1 : Nat) (l0_1 : List Int) (r : Int) (w : World) (hr0_0 : Kd.C (Kd.int .i64) w A0_0 l0_0.length l0_0) (hc0_0 : l0_0.length ≤ c0_0) (hr0_1 : Kd.C (Kd.int .i64) w A0_1 l0_1.length l0_1) (hc0_1 : l0_1.length ≤ c0_1) (h : spec_ShearPeriod.f k l0_0 l0_1 = some r) :
  Calls Try.prog 32 #[.agg #[.slice A0_0 l0_0.length c0_0, .slice A0_1 l0_1.length c0_1]] w fun e w' => e = .returned (.int .i64 r) ∧ Below w.heap.size w w' := by
 have hu27 := Try.underlying27
 have zO := Aside0.mk hr0_0
 have zP := Aside0.mk hc0_0
 clear hr0_0 hc0_0
 have zQ := Aside0.mk hr0_1
 have zR := Aside0.mk hc0_1
 clear hr0_1 hc0_1
 have HB := Aside0.mk (Below.refl w.heap.size w)
 have H : ((spec_SurfaceOk.f k l0_0 l0_1).bind fun t994 => (if t994 = true then ((spec_l03Canon.f k l0_0 l0_1).bind fun zA => ((spec_l05Shear.f k l0_0 l0_1).bind fun zt => (spec_ShearPeriod.l0 k 1 zA.1 zA.2 zt.1 zt.2))) else (some 0))) = some r := h
 clear h
 replace H := Option.bind_eq_some_iff.mp H
 obtain ⟨t994, A20, H⟩ := H
 replace H : (if t994 = true then ((spec_l03Canon.f k l0_0 l0_1).bind fun zA => ((spec_l05Shear.f k l0_0 l0_1).bind fun zt => (spec_ShearPeriod.l0 k 1 zA.1 zA.2 zt.1 zt.2))) else (some 0)) = some r := H
 have A2 := Aside0.mk A20
 clear A20
 by_cases c3 : t994 = true
 ·subst c3
  have H1 : ((spec_l03Canon.f k l0_0 l0_1).bind fun zA => ((spec_l05Shear.f k l0_0 l0_1).bind fun zt => (spec_ShearPeriod.l0 k 1 zA.1 zA.2 zt.1 zt.2))) = some r := by rw [if_pos rfl] at H; exact H
  clear H
  have H := H1
  clear H1
  replace H := Option.bind_eq_some_iff.mp H
  obtain ⟨⟨t995, t998⟩, A40, H⟩ := H
  replace H : ((spec_l05Shear.f k l0_0 l0_1).bind fun zt => (spec_ShearPeriod.l0 k 1 t995 t998 zt.1 zt.2)) = some r := H
  have A4 := Aside0.mk A40
  clear A40
  replace H := Option.bind_eq_some_iff.mp H
  obtain ⟨⟨t1002, t1005⟩, A50, H⟩ := H
  replace H : (spec_ShearPeriod.l0 k 1 t995 t998 t1002 t1005) = some r := H
  have A5 := Aside0.mk A50
  clear A50
  have H' := Aside0.mk H
  clear H
  go_enter Try.func32, Try.ntmps32
  go_wp2_with (first | ((with_reducible refine gate_dst (N := 1) rfl ?_); refine box_event ?hg (N := 1) ?hd (cs := #[.slice A0_0 l0_0.length c0_0, .slice A0_1 l0_1.length c0_1]) (t := 27) ?hr ?_; (case hd => rfl); (case hg => rfl); (case hr => first | (go_simp; done) | (go_simp; rfl)); intro zl hg w6 hbox hb; have n0_ := Aside0.mk (below_step (by repeat (first | (with_reducible first | exact HB.out | apply below_alloc | apply pw_below_drewN | apply below_drew1) | exact HB.out)) hb); have n1_ := Aside0.mk (hbox); have n2_ := Aside0.mk ((by rw [hg]; exact (below_size (by repeat (first | (with_reducible first | exact HB.out | apply below_alloc | apply pw_below_drewN | apply below_drew1) | exact HB.out))) : w.heap.size ≤ zl)); have n3_ := Aside0.mk ((by rw [hg]; exact (below_size (by repeat (first | (with_reducible first | exact HB.out | apply below_alloc | apply pw_below_drewN | apply below_drew1) | exact HB.out))) : w.heap.size ≤ zl)); clear HB; have HB := n0_; have zg := n1_; have GW993 := n2_; have zs := n3_; clear n0_ n1_ n2_ n3_; clear hb hbox hg; have hcz7_0 : w6.cell? ⟨zl, 0, none⟩ = some (.slice A0_0 l0_0.length c0_0) := (blk_cell zg.out 0).trans rfl; have hcz7_1 : w6.cell? ⟨zl, 1, none⟩ = some (.slice A0_1 l0_1.length c0_1) := (blk_cell zg.out 1).trans rfl; have hfz7_0 := blk_frozen zg.out 0; have hfz7_1 := blk_frozen zg.out 1) | ((with_reducible refine gate_callee (f := 42) rfl ?_); refine goesL_ (some 7) rfl rfl Try.func42 (by kernel_rfl) rfl #[.agg #[.slice A0_0 l0_0.length c0_0, .slice A0_1 l0_1.length c0_1]] rfl (by (try simp only [List.map_toArray, List.map_cons, List.map_nil]); first | done | rfl | (simp only [List.length_drop, List.length_take]; rfl)) ?_; (with_reducible refine (spec_SurfaceOk.calls k _ _ l0_0 _ _ l0_1 true _ ?side1 ?side2 ?side3 ?side4 A2.out).mono ?_); (case side1 => repeat (first | exact (Kd.C_below zO.out HB.out) | (with_reducible refine Kd.C_alloc ?_ _) | (with_reducible refine Kd.C_drewN ?_ _) | (with_reducible refine Kd.C_drew ?_))); (case side2 => exact zP.out); (case side3 => repeat (first | exact (Kd.C_below zQ.out HB.out) | (with_reducible refine Kd.C_alloc ?_ _) | (with_reducible refine Kd.C_drewN ?_ _) | (with_reducible refine Kd.C_drew ?_))); (case side4 => exact zR.out); rintro e w8 ⟨rfl, hb⟩; refine ⟨_, rfl, ?_⟩; have n0_ := Aside0.mk (blk_below (g := zl) (o := .cells #[.slice A0_0 l0_0.length c0_0, .slice A0_1 l0_1.length c0_1] 27 (0, 0)) (by (with_reducible repeat (first | refine blk_drewN ?_ _ | refine blk_drew ?_ | refine blk_alloc ?_ _)); exact zg.out) hb); have n1_ := Aside0.mk (below_step (by repeat (first | (with_reducible first | exact HB.out | apply below_alloc | apply pw_below_drewN | apply below_drew1 | refine below_set ?_ zs.out) | exact HB.out)) hb); clear zg; clear HB; have zg := n0_; have HB := n1_; clear n0_ n1_; (try clear hb); (try clear hb2); (try clear hk); (try clear hi); have hcz9_0 : w8.cell? ⟨zl, 0, none⟩ = some (.slice A0_0 l0_0.length c0_0) := (blk_cell zg.out 0).trans rfl; have hcz9_1 : w8.cell? ⟨zl, 1, none⟩ = some (.slice A0_1 l0_1.length c0_1) := (blk_cell zg.out 1).trans rfl; have hfz9_0 := blk_frozen zg.out 0; have hfz9_1 := blk_frozen zg.out 1) | ((with_reducible refine gate_callee (f := 56) rfl ?_); refine goesL_ (some 10) rfl rfl Try.func56 (by kernel_rfl) rfl #[.agg #[.slice A0_0 l0_0.length c0_0, .slice A0_1 l0_1.length c0_1]] rfl (by (try simp only [List.map_toArray, List.map_cons, List.map_nil]); first | done | rfl | (simp only [List.length_drop, List.length_take]; rfl)) ?_; (with_reducible refine (spec_l03Canon.calls k _ _ l0_0 _ _ l0_1 t995 t998 _ ?side1 ?side2 ?side3 ?side4 A4.out).mono ?_); (case side1 => repeat (first | exact (Kd.C_below zO.out HB.out) | (with_reducible refine Kd.C_alloc ?_ _) | (with_reducible refine Kd.C_drewN ?_ _) | (with_reducible refine Kd.C_drew ?_))); (case side2 => exact zP.out); (case side3 => repeat (first | exact (Kd.C_below zQ.out HB.out) | (with_reducible refine Kd.C_alloc ?_ _) | (with_reducible refine Kd.C_drewN ?_ _) | (with_reducible refine Kd.C_drew ?_))); (case side4 => exact zR.out); rintro e w10 ⟨v996, v999, rfl, ho0, ho1, hb⟩; refine ⟨_, rfl, ?_⟩; have n0_ := Aside0.mk (Kd.R_lower ho0 (below_size (by repeat (first | (with_reducible first | exact HB.out | apply below_alloc | apply pw_below_drewN | apply below_drew1 | refine below_set ?_ zs.out) | exact HB.out)))); have n1_ := Aside0.mk (Kd.R_lower ho1 (below_size (by repeat (first | (with_reducible first | exact HB.out | apply below_alloc | apply pw_below_drewN | apply below_drew1 | refine below_set ?_ zs.out) | exact HB.out)))); have n2_ := Aside0.mk (blk_below (g := zl) (o := .cells #[.slice A0_0 l0_0.length c0_0, .slice A0_1 l0_1.length c0_1] 27 (0, 0)) (by (with_reducible repeat (first | refine blk_drewN ?_ _ | refine blk_drew ?_ | refine blk_alloc ?_ _)); exact zg.out) hb); have n3_ := Aside0.mk (below_step (by repeat (first | (with_reducible first | exact HB.out | apply below_alloc | apply pw_below_drewN | apply below_drew1 | refine below_set ?_ zs.out) | exact HB.out)) hb); clear zg; clear HB; have zx := n0_; have zu := n1_; have zg := n2_; have HB := n3_; clear n0_ n1_ n2_ n3_; (try clear hb); (try clear hb2); (try clear hk); (try clear hi); (try clear ho0); (try clear ho1)) | ((with_reducible refine gate_dst (N := 3) rfl ?_); refine box_event ?hg (N := 3) ?hd (cs := #[.slice none 0 0, .slice none 0 0]) (t := 27) ?hr ?_; (case hd => rfl); (case hg => rfl); (case hr => first | (go_simp; done) | (go_simp; rfl)); intro zk hg w11 hbox hb; have n0_ := Aside0.mk (Kd.R_below (by (with_reducible repeat (first | apply Kd.R_alloc | apply Kd.R_drewN | apply Kd.R_drew)); exact zx.out) hb); have n1_ := Aside0.mk (Kd.R_below (by (with_reducible repeat (first | apply Kd.R_alloc | apply Kd.R_drewN | apply Kd.R_drew)); exact zu.out) hb); have n2_ := Aside0.mk (blk_below (g := zl) (o := .cells #[.slice A0_0 l0_0.length c0_0, .slice A0_1 l0_1.length c0_1] 27 (0, 0)) (by (with_reducible repeat (first | refine blk_drewN ?_ _ | refine blk_drew ?_ | refine blk_alloc ?_ _)); exact zg.out) hb); have n3_ := Aside0.mk (below_step (by repeat (first | (with_reducible first | exact HB.out | apply below_alloc | apply pw_below_drewN | apply below_drew1 | refine below_set ?_ zs.out) | exact HB.out)) hb); have n4_ := Aside0.mk (hbox); have n5_ := Aside0.mk ((by rw [hg]; exact (below_size (by repeat (first | (with_reducible first | exact HB.out | apply below_alloc | apply pw_below_drewN | apply below_drew1 | refine below_set ?_ zs.out) | exact HB.out))) : w.heap.size ≤ zk)); have n6_ := Aside0.mk ((by rw [hg]; exact (below_size (by repeat (first | (with_reducible first | exact HB.out | apply below_alloc | apply pw_below_drewN | apply below_drew1 | refine below_set ?_ zs.out) | exact HB.out))) : w.heap.size ≤ zk)); have n7_ := Aside0.mk ((by rw [hg]; exact Nat.ne_of_lt (blk_lt (g := zl) (o := .cells #[.slice A0_0 l0_0.length c0_0, .slice A0_1 l0_1.length c0_1] 27 (0, 0)) (by (with_reducible repeat (first | refine blk_drewN ?_ _ | refine blk_drew ?_ | refine blk_alloc ?_ _)); exact zg.out)) : zl ≠ zk)); have n8_ := Aside0.mk ((by rw [hg]; exact Nat.ne_of_gt (blk_lt (g := zl) (o := .cells #[.slice A0_0 l0_0.length c0_0, .slice A0_1 l0_1.length c0_1] 27 (0, 0)) (by (with_reducible repeat (first | refine blk_drewN ?_ _ | refine blk_drew ?_ | refine blk_alloc ?_ _)); exact zg.out)) : zk ≠ zl)); clear zx; clear zu; clear zg; clear HB; have zx := n0_; have zu := n1_; have zg := n2_; have HB := n3_; have zf := n4_; have GW1001 := n5_; have zz := n6_; have zD := n7_; have NB1001_993 := n8_; clear n0_ n1_ n2_ n3_ n4_ n5_ n6_ n7_ n8_; clear hb hbox hg; obtain ⟨zo, zp, eo12⟩ := Kd.R_slice zx.out; subst eo12; have hnb13 := NB1001_993.out; have hnc13 := zD.out; have hcz14_0 : w11.cell? ⟨zk, 0, none⟩ = some (.slice none 0 0) := (blk_cell zf.out 0).trans rfl; have hcz14_1 : w11.cell? ⟨zk, 1, none⟩ = some (.slice none 0 0) := (blk_cell zf.out 1).trans rfl; have hfz14_0 := blk_frozen zf.out 0; have hfz14_1 := blk_frozen zf.out 1; obtain ⟨zq, zr, eo15⟩ := Kd.R_slice zu.out; subst eo15; have hcz16_0 : w11.cell? ⟨zl, 0, none⟩ = some (.slice A0_0 l0_0.length c0_0) := (blk_cell zg.out 0).trans rfl; have hcz16_1 : w11.cell? ⟨zl, 1, none⟩ = some (.slice A0_1 l0_1.length c0_1) := (blk_cell zg.out 1).trans rfl; have hfz16_0 := blk_frozen zg.out 0; have hfz16_1 := blk_frozen zg.out 1) | ((with_reducible refine gate_callee (f := 63) rfl ?_); refine goesL_ (some 12) rfl rfl Try.func63 (by kernel_rfl) rfl #[.agg #[.slice A0_0 l0_0.length c0_0, .slice A0_1 l0_1.length c0_1]] rfl (by (try simp only [List.map_toArray, List.map_cons, List.map_nil]); first | done | rfl | (simp only [List.length_drop, List.length_take]; rfl)) ?_; (with_reducible refine (spec_l05Shear.calls k _ _ l0_0 _ _ l0_1 t1002 t1005 _ ?side1 ?side2 ?side3 ?side4 A5.out).mono ?_); (case side1 => exact Kd.C_below zO.out (by repeat (first | (with_reducible first | exact HB.out | apply below_alloc | apply pw_below_drewN | apply below_drew1 | refine below_set ?_ zs.out | refine below_set ?_ zz.out) | exact HB.out))); (case side2 => exact zP.out); (case side3 => exact Kd.C_below zQ.out (by repeat (first | (with_reducible first | exact HB.out | apply below_alloc | apply pw_below_drewN | apply below_drew1 | refine below_set ?_ zs.out | refine below_set ?_ zz.out) | exact HB.out))); (case side4 => exact zR.out); rintro e w17 ⟨v1003, v1006, rfl, ho0, ho1, hb⟩; refine ⟨_, rfl, ?_⟩; have n0_ := Aside0.mk (Kd.R_mono (Kd.R_told (Kd.R_told (Kd.R_old (by (with_reducible repeat (first | apply Kd.R_alloc | apply Kd.R_drewN | apply Kd.R_drew)); exact (Kd.R_mono (Kd.R_far (p := ⟨zk, 1, none⟩) (Kd.R_far (p := ⟨zk, 0, none⟩) (Kd.R_types zx.out zf.out (by decide)) (fun _ hk => hk.2) (.slice zo t995.length zp)) (fun _ hk => hk.2) (.slice zq t998.length zr)) (fun _ h_ => h_.1))) hb) (Kd.R_base ho0)) (Kd.R_base ho1)) (fun _ h_ => h_.1)); have n1_ := Aside0.mk (Kd.R_mono (Kd.R_told (Kd.R_told (Kd.R_old (by (with_reducible repeat (first | apply Kd.R_alloc | apply Kd.R_drewN | apply Kd.R_drew)); exact (Kd.R_mono (Kd.R_far (p := ⟨zk, 1, none⟩) (Kd.R_far (p := ⟨zk, 0, none⟩) (Kd.R_types zu.out zf.out (by decide)) (fun _ hk => hk.2) (.slice zo t995.length zp)) (fun _ hk => hk.2) (.slice zq t998.length zr)) (fun _ h_ => h_.1))) hb) (Kd.R_base ho0)) (Kd.R_base ho1)) (fun _ h_ => h_.1)); have n2_ := Aside0.mk (Kd.R_lower (Kd.R_new' (Kd.R_new' ho0 (Kd.R_lt (by (with_reducible repeat (first | apply Kd.R_alloc | apply Kd.R_drewN | apply Kd.R_drew)); exact (Kd.R_mono (Kd.R_far (p := ⟨zk, 1, none⟩) (Kd.R_far (p := ⟨zk, 0, none⟩) (Kd.R_types zx.out zf.out (by decide)) (fun _ hk => hk.2) (.slice zo t995.length zp)) (fun _ hk => hk.2) (.slice zq t998.length zr)) (fun _ h_ => h_.1))))) (Kd.R_lt (by (with_reducible repeat (first | apply Kd.R_alloc | apply Kd.R_drewN | apply Kd.R_drew)); exact (Kd.R_mono (Kd.R_far (p := ⟨zk, 1, none⟩) (Kd.R_far (p := ⟨zk, 0, none⟩) (Kd.R_types zu.out zf.out (by decide)) (fun _ hk => hk.2) (.slice zo t995.length zp)) (fun _ hk => hk.2) (.slice zq t998.length zr)) (fun _ h_ => h_.1))))) (below_size (by repeat (first | (with_reducible first | exact HB.out | apply below_alloc | apply pw_below_drewN | apply below_drew1 | refine below_set ?_ zs.out | refine below_set ?_ zz.out) | exact HB.out)))); have n3_ := Aside0.mk (Kd.R_lower (Kd.R_new' (Kd.R_new' ho1 (Kd.R_lt (by (with_reducible repeat (first | apply Kd.R_alloc | apply Kd.R_drewN | apply Kd.R_drew)); exact (Kd.R_mono (Kd.R_far (p := ⟨zk, 1, none⟩) (Kd.R_far (p := ⟨zk, 0, none⟩) (Kd.R_types zx.out zf.out (by decide)) (fun _ hk => hk.2) (.slice zo t995.length zp)) (fun _ hk => hk.2) (.slice zq t998.length zr)) (fun _ h_ => h_.1))))) (Kd.R_lt (by (with_reducible repeat (first | apply Kd.R_alloc | apply Kd.R_drewN | apply Kd.R_drew)); exact (Kd.R_mono (Kd.R_far (p := ⟨zk, 1, none⟩) (Kd.R_far (p := ⟨zk, 0, none⟩) (Kd.R_types zu.out zf.out (by decide)) (fun _ hk => hk.2) (.slice zo t995.length zp)) (fun _ hk => hk.2) (.slice zq t998.length zr)) (fun _ h_ => h_.1))))) (below_size (by repeat (first | (with_reducible first | exact HB.out | apply below_alloc | apply pw_below_drewN | apply below_drew1 | refine below_set ?_ zs.out | refine below_set ?_ zz.out) | exact HB.out)))); have n4_ := Aside0.mk (blk_below (g := zl) (o := .cells #[.slice A0_0 l0_0.length c0_0, .slice A0_1 l0_1.length c0_1] 27 (0, 0)) (by (with_reducible repeat (first | refine blk_drewN ?_ _ | refine blk_drew ?_ | refine blk_alloc ?_ _)); refine blk_far ?_ zD.out _; (with_reducible repeat (first | refine blk_drewN ?_ _ | refine blk_drew ?_ | refine blk_alloc ?_ _)); refine blk_far ?_ zD.out _; (with_reducible repeat (first | refine blk_drewN ?_ _ | refine blk_drew ?_ | refine blk_alloc ?_ _)); exact zg.out) hb); have n5_ := Aside0.mk (blk_below (g := zk) (o := .cells #[.slice zo t995.length zp, .slice zq t998.length zr] 27 (0, 0)) (by (with_reducible repeat (first | refine blk_drewN ?_ _ | refine blk_drew ?_ | refine blk_alloc ?_ _)); refine blk_put (cs := #[.slice zo t995.length zp, .slice none 0 0]) ?_ 1 _ rfl; (with_reducible repeat (first | refine blk_drewN ?_ _ | refine blk_drew ?_ | refine blk_alloc ?_ _)); refine blk_put (cs := #[.slice none 0 0, .slice none 0 0]) ?_ 0 _ rfl; (with_reducible repeat (first | refine blk_drewN ?_ _ | refine blk_drew ?_ | refine blk_alloc ?_ _)); exact zf.out) hb); have n6_ := Aside0.mk (below_step (by repeat (first | (with_reducible first | exact HB.out | apply below_alloc | apply pw_below_drewN | apply below_drew1 | refine below_set ?_ zs.out | refine below_set ?_ zz.out) | exact HB.out)) hb); clear zx; clear zu; clear zg; clear zf; clear HB; have zx := n0_; have zu := n1_; have zG := n2_; have zH := n3_; have zg := n4_; have zf := n5_; have HB := n6_; clear n0_ n1_ n2_ n3_ n4_ n5_ n6_; (try clear hb); (try clear hb2); (try clear hk); (try clear hi); (try clear ho0); (try clear ho1)) | ((with_reducible refine gate_dst (N := 4) rfl ?_); refine box_event ?hg (N := 4) ?hd (cs := #[.slice none 0 0, .slice none 0 0]) (t := 27) ?hr ?_; (case hd => rfl); (case hg => rfl); (case hr => first | (go_simp; done) | (go_simp; rfl)); intro zi hg w18 hbox hb; have n0_ := Aside0.mk (Kd.R_below (by (with_reducible repeat (first | apply Kd.R_alloc | apply Kd.R_drewN | apply Kd.R_drew)); exact zx.out) hb); have n1_ := Aside0.mk (Kd.R_below (by (with_reducible repeat (first | apply Kd.R_alloc | apply Kd.R_drewN | apply Kd.R_drew)); exact zu.out) hb); have n2_ := Aside0.mk (Kd.R_below (by (with_reducible repeat (first | apply Kd.R_alloc | apply Kd.R_drewN | apply Kd.R_drew)); exact zG.out) hb); have n3_ := Aside0.mk (Kd.R_below (by (with_reducible repeat (first | apply Kd.R_alloc | apply Kd.R_drewN | apply Kd.R_drew)); exact zH.out) hb); have n4_ := Aside0.mk (blk_below (g := zl) (o := .cells #[.slice A0_0 l0_0.length c0_0, .slice A0_1 l0_1.length c0_1] 27 (0, 0)) (by (with_reducible repeat (first | refine blk_drewN ?_ _ | refine blk_drew ?_ | refine blk_alloc ?_ _)); exact zg.out) hb); have n5_ := Aside0.mk (blk_below (g := zk) (o := .cells #[.slice zo t995.length zp, .slice zq t998.length zr] 27 (0, 0)) (by (with_reducible repeat (first | refine blk_drewN ?_ _ | refine blk_drew ?_ | refine blk_alloc ?_ _)); exact zf.out) hb); have n6_ := Aside0.mk (below_step (by repeat (first | (with_reducible first | exact HB.out | apply below_alloc | apply pw_below_drewN | apply below_drew1 | refine below_set ?_ zs.out | refine below_set ?_ zz.out) | exact HB.out)) hb); have n7_ := Aside0.mk (hbox); have n8_ := Aside0.mk ((by rw [hg]; exact (below_size (by repeat (first | (with_reducible first | exact HB.out | apply below_alloc | apply pw_below_drewN | apply below_drew1 | refine below_set ?_ zs.out | refine below_set ?_ zz.out) | exact HB.out))) : w.heap.size ≤ zi)); have n9_ := Aside0.mk ((by rw [hg]; exact (below_size (by repeat (first | (with_reducible first | exact HB.out | apply below_alloc | apply pw_below_drewN | apply below_drew1 | refine below_set ?_ zs.out | refine below_set ?_ zz.out) | exact HB.out))) : w.heap.size ≤ zi)); have n10_ := Aside0.mk ((by rw [hg]; exact Nat.ne_of_lt (blk_lt (g := zl) (o := .cells #[.slice A0_0 l0_0.length c0_0, .slice A0_1 l0_1.length c0_1] 27 (0, 0)) (by (with_reducible repeat (first | refine blk_drewN ?_ _ | refine blk_drew ?_ | refine blk_alloc ?_ _)); exact zg.out)) : zl ≠ zi)); have n11_ := Aside0.mk ((by rw [hg]; exact Nat.ne_of_gt (blk_lt (g := zl) (o := .cells #[.slice A0_0 l0_0.length c0_0, .slice A0_1 l0_1.length c0_1] 27 (0, 0)) (by (with_reducible repeat (first | refine blk_drewN ?_ _ | refine blk_drew ?_ | refine blk_alloc ?_ _)); exact zg.out)) : zi ≠ zl)); have n12_ := Aside0.mk ((by rw [hg]; exact Nat.ne_of_lt (blk_lt (g := zk) (o := .cells #[.slice zo t995.length zp, .slice zq t998.length zr] 27 (0, 0)) (by (with_reducible repeat (first | refine blk_drewN ?_ _ | refine blk_drew ?_ | refine blk_alloc ?_ _)); exact zf.out)) : zk ≠ zi)); have n13_ := Aside0.mk ((by rw [hg]; exact Nat.ne_of_gt (blk_lt (g := zk) (o := .cells #[.slice zo t995.length zp, .slice zq t998.length zr] 27 (0, 0)) (by (with_reducible repeat (first | refine blk_drewN ?_ _ | refine blk_drew ?_ | refine blk_alloc ?_ _)); exact zf.out)) : zi ≠ zk)); clear zx; clear zu; clear zG; clear zH; clear zg; clear zf; clear HB; have zx := n0_; have zu := n1_; have zG := n2_; have zH := n3_; have zg := n4_; have zf := n5_; have HB := n6_; have zc := n7_; have GW1008 := n8_; have zf1 := n9_; have zy := n10_; have zJ := n11_; have zv := n12_; have zI := n13_; clear n0_ n1_ n2_ n3_ n4_ n5_ n6_ n7_ n8_ n9_ n10_ n11_ n12_ n13_; clear hb hbox hg; obtain ⟨zK, zL, eo19⟩ := Kd.R_slice zG.out; subst eo19; have hnb20 := zJ.out; have hnc20 := zy.out; have hnb21 := zI.out; have hnc21 := zv.out; have hcz22_0 : w18.cell? ⟨zi, 0, none⟩ = some (.slice none 0 0) := (blk_cell zc.out 0).trans rfl; have hcz22_1 : w18.cell? ⟨zi, 1, none⟩ = some (.slice none 0 0) := (blk_cell zc.out 1).trans rfl; have hfz22_0 := blk_frozen zc.out 0; have hfz22_1 := blk_frozen zc.out 1; obtain ⟨zW, zX, eo23⟩ := Kd.R_slice zH.out; subst eo23))
  go_loopg [5] k (fun kq v5 w' => ∃ (x5_1 : Int) (zj : List Int) (zh : List Int) (u1009000 : Value) (u1009001 : Value), v5 = .int .i64 x5_1 ∧ Aside0 (spec_ShearPeriod.l0 kq x5_1 t995 t998 zj zh = some r) ∧ Aside0 (kq ≤ k) ∧ Aside0 (Kd.R (Kd.int .i64) 3 w' w.heap.size (fun k_ => some k_ ≠ ((.slice zq t998.length zr) : Value).ownBlock ∧ some k_ ≠ (u1009000 : Value).ownBlock ∧ some k_ ≠ (u1009001 : Value).ownBlock) (.slice zo t995.length zp) t995) ∧ Aside0 (Kd.R (Kd.int .i64) 3 w' w.heap.size (fun k_ => some k_ ≠ ((.slice zo t995.length zp) : Value).ownBlock ∧ some k_ ≠ (u1009000 : Value).ownBlock ∧ some k_ ≠ (u1009001 : Value).ownBlock) (.slice zq t998.length zr) t998) ∧ Aside0 (Kd.R (Kd.int .i64) 3 w' w.heap.size (fun k_ => some k_ ≠ ((.slice zo t995.length zp) : Value).ownBlock ∧ some k_ ≠ ((.slice zq t998.length zr) : Value).ownBlock ∧ some k_ ≠ (u1009001 : Value).ownBlock) u1009000 zj) ∧ Aside0 (Kd.R (Kd.int .i64) 3 w' w.heap.size (fun k_ => some k_ ≠ ((.slice zo t995.length zp) : Value).ownBlock ∧ some k_ ≠ ((.slice zq t998.length zr) : Value).ownBlock ∧ some k_ ≠ (u1009000 : Value).ownBlock) u1009001 zh) ∧ Aside0 (w'.heap[zl]? = some (.cells #[(.slice A0_0 l0_0.length c0_0), (.slice A0_1 l0_1.length c0_1)] 27 (0, 0))) ∧ Aside0 (w'.heap[zk]? = some (.cells #[(.slice zo t995.length zp), (.slice zq t998.length zr)] 27 (0, 0))) ∧ Aside0 (w'.heap[zi]? = some (.cells #[u1009000, u1009001] 27 (0, 0))) ∧ Aside0 (Below w.heap.size w w'))
  case atStart => exact ⟨(1), (t1002), (t1005), (.slice zK t1002.length zL), (.slice zW t1005.length zX), (by first | rfl | (simp; done) | (simp [*]; done)), H', ⟨Nat.le_refl _⟩, ⟨by (with_reducible repeat (first | apply Kd.R_alloc | apply Kd.R_drewN | apply Kd.R_drew)); exact Kd.R_mono (Kd.R_far (p := ⟨zi, 1, none⟩) (Kd.R_far (p := ⟨zi, 0, none⟩) (Kd.R_types zx.out zc.out (by decide)) (fun _ hk => hk.2) (.slice zK t1002.length zL)) (fun _ hk => hk.2) (.slice zW t1005.length zX)) (fun _ hk => ⟨hk.1.1.1, ⟨hk.1.1.2, hk.1.2⟩⟩)⟩, ⟨by (with_reducible repeat (first | apply Kd.R_alloc | apply Kd.R_drewN | apply Kd.R_drew)); exact Kd.R_mono (Kd.R_far (p := ⟨zi, 1, none⟩) (Kd.R_far (p := ⟨zi, 0, none⟩) (Kd.R_types zu.out zc.out (by decide)) (fun _ hk => hk.2) (.slice zK t1002.length zL)) (fun _ hk => hk.2) (.slice zW t1005.length zX)) (fun _ hk => ⟨hk.1.1.1, ⟨hk.1.1.2, hk.1.2⟩⟩)⟩, ⟨by (with_reducible repeat (first | apply Kd.R_alloc | apply Kd.R_drewN | apply Kd.R_drew)); exact Kd.R_mono (Kd.R_far (p := ⟨zi, 1, none⟩) (Kd.R_far (p := ⟨zi, 0, none⟩) (Kd.R_types zG.out zc.out (by decide)) (fun _ hk => hk.2) (.slice zK t1002.length zL)) (fun _ hk => hk.2) (.slice zW t1005.length zX)) (fun _ hk => ⟨hk.1.1.2, ⟨hk.1.2, hk.1.1.1⟩⟩)⟩, ⟨by (with_reducible repeat (first | apply Kd.R_alloc | apply Kd.R_drewN | apply Kd.R_drew)); exact Kd.R_mono (Kd.R_far (p := ⟨zi, 1, none⟩) (Kd.R_far (p := ⟨zi, 0, none⟩) (Kd.R_types zH.out zc.out (by decide)) (fun _ hk => hk.2) (.slice zK t1002.length zL)) (fun _ hk => hk.2) (.slice zW t1005.length zX)) (fun _ hk => ⟨hk.1.1.2, ⟨hk.1.2, hk.1.1.1⟩⟩)⟩, ⟨by (with_reducible repeat (first | refine blk_drewN ?_ _ | refine blk_drew ?_ | refine blk_alloc ?_ _)); refine blk_far ?_ zy.out _; (with_reducible repeat (first | refine blk_drewN ?_ _ | refine blk_drew ?_ | refine blk_alloc ?_ _)); refine blk_far ?_ zy.out _; (with_reducible repeat (first | refine blk_drewN ?_ _ | refine blk_drew ?_ | refine blk_alloc ?_ _)); exact zg.out⟩, ⟨by (with_reducible repeat (first | refine blk_drewN ?_ _ | refine blk_drew ?_ | refine blk_alloc ?_ _)); refine blk_far ?_ zv.out _; (with_reducible repeat (first | refine blk_drewN ?_ _ | refine blk_drew ?_ | refine blk_alloc ?_ _)); refine blk_far ?_ zv.out _; (with_reducible repeat (first | refine blk_drewN ?_ _ | refine blk_drew ?_ | refine blk_alloc ?_ _)); exact zf.out⟩, ⟨by (with_reducible repeat (first | refine blk_drewN ?_ _ | refine blk_drew ?_ | refine blk_alloc ?_ _)); refine blk_put (cs := #[.slice zK t1002.length zL, .slice none 0 0]) ?_ 1 _ rfl; (with_reducible repeat (first | refine blk_drewN ?_ _ | refine blk_drew ?_ | refine blk_alloc ?_ _)); refine blk_put (cs := #[.slice none 0 0, .slice none 0 0]) ?_ 0 _ rfl; (with_reducible repeat (first | refine blk_drewN ?_ _ | refine blk_drew ?_ | refine blk_alloc ?_ _)); exact zc.out⟩, ⟨by repeat (first | (with_reducible first | exact HB.out | apply below_alloc | apply pw_below_drewN | apply below_drew1 | refine below_set ?_ zs.out | refine below_set ?_ zz.out | refine below_set ?_ zf1.out) | exact HB.out)⟩⟩
  case round =>
   clear H'
   try clear c1
   try clear c2
   try clear p2
   try clear c3
   try clear c4
   try clear c5
   try clear c6
   try clear c13
   try clear c20
   try clear c21
   try clear hcz14_0
   try clear hcz14_1
   try clear hcz16_0
   try clear hcz16_1
   try clear hcz22_0
   try clear hcz22_1
   try clear hcz7_0
   try clear hcz7_1
   try clear hcz9_0
   try clear hcz9_1
   try clear hfz14_0
   try clear hfz14_1
   try clear hfz16_0
   try clear hfz16_1
   try clear hfz22_0
   try clear hfz22_1
   try clear hfz7_0
   try clear hfz7_1
   try clear hfz9_0
   try clear hfz9_1
   obtain ⟨x5_1, zj, zh, u1009000, u1009001, rfl, HA, HK1, zd, ze, za, zb, zg, zf, zc, HB⟩ := hrel
   cases gk with
   | zero => exact absurd HA.out (by simp [spec_ShearPeriod.l0])
   | succ k1 =>
    have H := HA.out
    clear HA
    simp only [spec_ShearPeriod.l0] at H
    replace H := Option.bind_eq_some_iff.mp H
    obtain ⟨⟨t1009, t1012⟩, A240, H⟩ := H
    replace H : ((spec_SameSurface.f k1 t1009 t1012 t995 t998).bind fun t1015 => (if t1015 = true then (some x5_1) else ((spec_l05Shear.f k1 zj zh).bind fun zw => (spec_ShearPeriod.l0 k1 (wrap64 (x5_1 + 1)) t995 t998 zw.1 zw.2)))) = some r := H
    have A24 := Aside0.mk A240
    clear A240
    replace H := Option.bind_eq_some_iff.mp H
    obtain ⟨t1015, A250, H⟩ := H
    replace H : (if t1015 = true then (some x5_1) else ((spec_l05Shear.f k1 zj zh).bind fun zw => (spec_ShearPeriod.l0 k1 (wrap64 (x5_1 + 1)) t995 t998 zw.1 zw.2))) = some r := H
    have A25 := Aside0.mk A250
    clear A250
    by_cases c26 : t1015 = true
    ·subst c26
     have H1 : (some x5_1) = some r := by rw [if_pos rfl] at H; exact H
     clear H
     have H := H1
     clear H1
     obtain rfl := Option.some.inj H
     try go_wp2
     have n0_ := Aside0.mk (Kd.R_drew zd.out)
     have n1_ := Aside0.mk (Kd.R_drew ze.out)
     have n2_ := Aside0.mk (Kd.R_drew za.out)
     have n3_ := Aside0.mk (Kd.R_drew zb.out)
     have n4_ := Aside0.mk (blk_drew zg.out)
     have n5_ := Aside0.mk (blk_drew zf.out)
     have n6_ := Aside0.mk (blk_drew zc.out)
     have n7_ := Aside0.mk (below_drew1 HB.out)
     clear zd
     clear ze
     clear za
     clear zb
     clear zg
     clear zf
     clear zc
     clear HB
     have zd := n0_
     have ze := n1_
     have za := n2_
     have zb := n3_
     have zg := n4_
     have zf := n5_
     have zc := n6_
     have HB := n7_
     clear n0_ n1_ n2_ n3_ n4_ n5_ n6_ n7_
     obtain ⟨za1, zb1, eo28⟩ := Kd.R_slice za.out
     (first | subst eo28 | (injection eo28 with f1_ f2_ f3_; have f4_ := f1_.symm; have f5_ := f3_.symm; clear f1_ f2_ f3_; subst f4_; subst f5_))
     obtain ⟨zc1, zd1, eo29⟩ := Kd.R_slice zb.out
     (first | subst eo29 | (injection eo29 with f1_ f2_ f3_; have f4_ := f1_.symm; have f5_ := f3_.symm; clear f1_ f2_ f3_; subst f4_; subst f5_))
     refine start_ (n := 5) (S := fun w' => w'.cell? ⟨zi, 0, none⟩ = some (.slice za1 zj.length zb1) ∧ w'.cell? ⟨zi, 1, none⟩ = some (.slice zc1 zh.length zd1) ∧ w'.cell? ⟨zk, 0, none⟩ = some (.slice zo t995.length zp) ∧ w'.cell? ⟨zk, 1, none⟩ = some (.slice zq t998.length zr)) (ds := []) #[false, false, false, false, false] (by kernel_rfl) rfl rfl ⟨(blk_cell zc.out 0).trans rfl, (blk_cell zc.out 1).trans rfl, (blk_cell zf.out 0).trans rfl, (blk_cell zf.out 1).trans rfl⟩ (fun hHeld => ?_)
     generalize wr.drew = w27 at zd ze za zb zg zf zc HB hHeld ⊢
     refine take_ (i := 0) (N := some 13) (v := ?_) (a' := ?_) #[true, false, false, false, false] rfl rfl (by kernel_rfl) (fun _ _ _ h => h) (Or.inl ⟨by rfl, ?_⟩) hHeld ?_ ?_
     rotate_left
     ·rintro w' ⟨s0, s1, s2, s3⟩
      go_simp
      with_reducible rfl
     rotate_left
     ·simp only [Act.put, List.setIfInBounds_toArray, List.set_cons_zero, List.set_cons_succ, i64_w, i32_w]
      rfl
     refine take_ (i := 2) (N := some 15) (v := ?_) (a' := ?_) #[true, false, true, false, false] rfl rfl (by kernel_rfl) (fun _ _ _ h => h) (Or.inl ⟨by rfl, ?_⟩) hHeld ?_ ?_
     rotate_left
     ·rintro w' ⟨s0, s1, s2, s3⟩
      go_simp
      with_reducible rfl
     rotate_left
     ·simp only [Act.put, List.setIfInBounds_toArray, List.set_cons_zero, List.set_cons_succ, i64_w, i32_w]
      rfl
     refine one_ (i := 1) (N := some 14) #[true, true, true, false, false] rfl rfl (by kernel_rfl) (by decide) (fun K hK => ?_)
     refine goes_ Try.func56 (by kernel_rfl) rfl #[.agg #[.slice za1 zj.length zb1, .slice zc1 zh.length zd1]] (by rfl) rfl rfl (by (try simp only [List.map_toArray, List.map_cons, List.map_nil]); first | done | rfl | (simp only [List.length_drop, List.length_take]; rfl)) ?_
     with_reducible refine (spec_l03Canon.calls k1 _ _ zj _ _ zh t1009 t1012 _ ?side1 ?side2 ?side3 ?side4 A24.out).mono ?_
     (case side1 => repeat (first | exact (Kd.R_reads' za.out).2.2 | (with_reducible refine Kd.C_alloc ?_ _) | (with_reducible refine Kd.C_drewN ?_ _) | (with_reducible refine Kd.C_drew ?_)))
     (case side2 => exact (Kd.R_reads' za.out).2.1)
     (case side3 => repeat (first | exact (Kd.R_reads' zb.out).2.2 | (with_reducible refine Kd.C_alloc ?_ _) | (with_reducible refine Kd.C_drewN ?_ _) | (with_reducible refine Kd.C_drew ?_)))
     (case side4 => exact (Kd.R_reads' zb.out).2.1)
     rintro e w30 ⟨v1010, v1013, rfl, ho0, ho1, hb⟩
     refine ⟨_, rfl, ?_⟩
     have n0_ := Aside0.mk (Kd.R_mono (Kd.R_told (Kd.R_told (Kd.R_old (zd.out) hb) (Kd.R_base ho0)) (Kd.R_base ho1)) (fun _ h_ => h_.1))
     have n1_ := Aside0.mk (Kd.R_mono (Kd.R_told (Kd.R_told (Kd.R_old (ze.out) hb) (Kd.R_base ho0)) (Kd.R_base ho1)) (fun _ h_ => h_.1))
     have n2_ := Aside0.mk (Kd.R_mono (Kd.R_told (Kd.R_told (Kd.R_old (za.out) hb) (Kd.R_base ho0)) (Kd.R_base ho1)) (fun _ h_ => h_.1))
     have n3_ := Aside0.mk (Kd.R_mono (Kd.R_told (Kd.R_told (Kd.R_old (zb.out) hb) (Kd.R_base ho0)) (Kd.R_base ho1)) (fun _ h_ => h_.1))
     have n4_ := Aside0.mk (Kd.R_lower (Kd.R_new' (Kd.R_new' (Kd.R_new' (Kd.R_new' ho0 (Kd.R_lt (zd.out))) (Kd.R_lt (ze.out))) (Kd.R_lt (za.out))) (Kd.R_lt (zb.out))) (below_size (HB.out)))
     have n5_ := Aside0.mk (Kd.R_lower (Kd.R_new' (Kd.R_new' (Kd.R_new' (Kd.R_new' ho1 (Kd.R_lt (zd.out))) (Kd.R_lt (ze.out))) (Kd.R_lt (za.out))) (Kd.R_lt (zb.out))) (below_size (HB.out)))
     have n6_ := Aside0.mk (blk_below (g := zl) (o := .cells #[.slice A0_0 l0_0.length c0_0, .slice A0_1 l0_1.length c0_1] 27 (0, 0)) (zg.out) hb)
     have n7_ := Aside0.mk (blk_below (g := zk) (o := .cells #[.slice zo t995.length zp, .slice zq t998.length zr] 27 (0, 0)) (zf.out) hb)
     have n8_ := Aside0.mk (blk_below (g := zi) (o := .cells #[.slice za1 zj.length zb1, .slice zc1 zh.length zd1] 27 (0, 0)) (zc.out) hb)
     have n9_ := Aside0.mk (below_step (HB.out) hb)
     clear zd
     clear ze
     clear za
     clear zb
     clear zg
     clear zf
     clear zc
     clear HB
     have zd := n0_
     have ze := n1_
     have za := n2_
     have zb := n3_
     have zm := n4_
     have zn := n5_
     have zg := n6_
     have zf := n7_
     have zc := n8_
     have HB := n9_
     clear n0_ n1_ n2_ n3_ n4_ n5_ n6_ n7_ n8_ n9_
     (try clear hb)
     (try clear hb2)
     (try clear hk)
     (try clear hi)
     (try clear ho0)
     (try clear ho1)
     obtain ⟨Ao31, co31, eo31⟩ := Kd.R_slice zm.out
     (first | subst eo31 | (injection eo31 with f1_ f2_ f3_; have f4_ := f1_.symm; have f5_ := f3_.symm; clear f1_ f2_ f3_; subst f4_; subst f5_))
     obtain ⟨Ao32, co32, eo32⟩ := Kd.R_slice zn.out
     (first | subst eo32 | (injection eo32 with f1_ f2_ f3_; have f4_ := f1_.symm; have f5_ := f3_.symm; clear f1_ f2_ f3_; subst f4_; subst f5_))
     refine hK.out _ _ ⟨(blk_cell zc.out 0).trans rfl, (blk_cell zc.out 1).trans rfl, (blk_cell zf.out 0).trans rfl, (blk_cell zf.out 1).trans rfl⟩ (fun hHeld => ?_)
     clear hK K
     refine norm_ (a' := ?_) ?_ ?_
     rotate_left
     ·show Act.put _ (some 14) _ = _
      simp only [Act.put, List.setIfInBounds_toArray, List.set_cons_zero, List.set_cons_succ, i64_w, i32_w]
      rfl
     refine one_ (i := 3) (N := some 16) #[true, true, true, true, false] rfl rfl (by kernel_rfl) (by decide) (fun K hK => ?_)
     refine goes_ Try.func55 (by kernel_rfl) rfl #[.agg #[.slice Ao31 t1009.length co31, .slice Ao32 t1012.length co32], .agg #[.slice zo t995.length zp, .slice zq t998.length zr]] (by rfl) rfl rfl (by (try simp only [List.map_toArray, List.map_cons, List.map_nil]); first | done | rfl | (simp only [List.length_drop, List.length_take]; rfl)) ?_
     with_reducible refine (spec_SameSurface.calls k1 _ _ t1009 _ _ t1012 _ _ t995 _ _ t998 true _ ?side1 ?side2 ?side3 ?side4 ?side5 ?side6 ?side7 ?side8 A25.out).mono ?_
     (case side1 => repeat (first | exact (Kd.R_reads' zm.out).2.2 | (with_reducible refine Kd.C_alloc ?_ _) | (with_reducible refine Kd.C_drewN ?_ _) | (with_reducible refine Kd.C_drew ?_)))
     (case side2 => exact (Kd.R_reads' zm.out).2.1)
     (case side3 => repeat (first | exact (Kd.R_reads' zn.out).2.2 | (with_reducible refine Kd.C_alloc ?_ _) | (with_reducible refine Kd.C_drewN ?_ _) | (with_reducible refine Kd.C_drew ?_)))
     (case side4 => exact (Kd.R_reads' zn.out).2.1)
     (case side5 => repeat (first | exact (Kd.R_reads' zd.out).2.2 | (with_reducible refine Kd.C_alloc ?_ _) | (with_reducible refine Kd.C_drewN ?_ _) | (with_reducible refine Kd.C_drew ?_)))
     (case side6 => exact (Kd.R_reads' zd.out).2.1)
     (case side7 => repeat (first | exact (Kd.R_reads' ze.out).2.2 | (with_reducible refine Kd.C_alloc ?_ _) | (with_reducible refine Kd.C_drewN ?_ _) | (with_reducible refine Kd.C_drew ?_)))
     (case side8 => exact (Kd.R_reads' ze.out).2.1)
     rintro e w33 ⟨rfl, hb⟩
     refine ⟨_, rfl, ?_⟩
     have n0_ := Aside0.mk (Kd.R_below (zd.out) hb)
     have n1_ := Aside0.mk (Kd.R_below (ze.out) hb)
     have n2_ := Aside0.mk (Kd.R_below (za.out) hb)
     have n3_ := Aside0.mk (Kd.R_below (zb.out) hb)
     have n4_ := Aside0.mk (Kd.R_below (zm.out) hb)
     have n5_ := Aside0.mk (Kd.R_below (zn.out) hb)
     have n6_ := Aside0.mk (blk_below (g := zl) (o := .cells #[.slice A0_0 l0_0.length c0_0, .slice A0_1 l0_1.length c0_1] 27 (0, 0)) (zg.out) hb)
     have n7_ := Aside0.mk (blk_below (g := zk) (o := .cells #[.slice zo t995.length zp, .slice zq t998.length zr] 27 (0, 0)) (zf.out) hb)
     have n8_ := Aside0.mk (blk_below (g := zi) (o := .cells #[.slice za1 zj.length zb1, .slice zc1 zh.length zd1] 27 (0, 0)) (zc.out) hb)
     have n9_ := Aside0.mk (below_step (HB.out) hb)
     clear zd
     clear ze
     clear za
     clear zb
     clear zm
     clear zn
     clear zg
     clear zf
     clear zc
     clear HB
     have zd := n0_
     have ze := n1_
     have za := n2_
     have zb := n3_
     have zm := n4_
     have zn := n5_
     have zg := n6_
     have zf := n7_
     have zc := n8_
     have HB := n9_
     clear n0_ n1_ n2_ n3_ n4_ n5_ n6_ n7_ n8_ n9_
     (try clear hb)
     (try clear hb2)
     (try clear hk)
     (try clear hi)
     refine hK.out _ _ ⟨(blk_cell zc.out 0).trans rfl, (blk_cell zc.out 1).trans rfl, (blk_cell zf.out 0).trans rfl, (blk_cell zf.out 1).trans rfl⟩ (fun hHeld => ?_)
     clear hK K
     refine norm_ (a' := ?_) ?_ ?_
     rotate_left
     ·show Act.put _ (some 16) _ = _
      simp only [Act.put, List.setIfInBounds_toArray, List.set_cons_zero, List.set_cons_succ, i64_w, i32_w]
      rfl
     refine pure_ (i := 4) (N := some 17) (v := ?_) (a' := ?_) #[true, true, true, true, true] rfl rfl (by kernel_rfl) (fun _ _ _ h => h) (Or.inl ⟨by rfl, ?_⟩) ?_ ?_
     rotate_left
     ·intro w'
      go_simp
      with_reducible rfl
     rotate_left
     ·simp only [Act.put, List.setIfInBounds_toArray, List.set_cons_zero, List.set_cons_succ, i64_w, i32_w]
      rfl
     refine done_ (by kernel_rfl) ?_
     try go_wp2
     go_ret
     exact ⟨by first | rfl | (simp [errW_none, errW_some] <;> rfl) | (simp [*, errW_none, errW_some] <;> rfl), HB.out⟩
    ·replace c26 := Bool.eq_false_iff.mpr c26
     subst c26
     have H1 : ((spec_l05Shear.f k1 zj zh).bind fun zw => (spec_ShearPeriod.l0 k1 (wrap64 (x5_1 + 1)) t995 t998 zw.1 zw.2)) = some r := by rw [if_neg (show ¬ (false = true) by decide)] at H; exact H
     clear H
     have H := H1
     clear H1
     replace H := Option.bind_eq_some_iff.mp H
     obtain ⟨⟨t1016, t1019⟩, A340, H⟩ := H
     replace H : (spec_ShearPeriod.l0 k1 (wrap64 (x5_1 + 1)) t995 t998 t1016 t1019) = some r := H
     have A34 := Aside0.mk A340
     clear A340
     have H' := Aside0.mk H
     clear H
     try go_wp2
     have n0_ := Aside0.mk (Kd.R_drew zd.out)
     have n1_ := Aside0.mk (Kd.R_drew ze.out)
     have n2_ := Aside0.mk (Kd.R_drew za.out)
     have n3_ := Aside0.mk (Kd.R_drew zb.out)
     have n4_ := Aside0.mk (blk_drew zg.out)
     have n5_ := Aside0.mk (blk_drew zf.out)
     have n6_ := Aside0.mk (blk_drew zc.out)
     have n7_ := Aside0.mk (below_drew1 HB.out)
     clear zd
     clear ze
     clear za
     clear zb
     clear zg
     clear zf
     clear zc
     clear HB
     have zd := n0_
     have ze := n1_
     have za := n2_
     have zb := n3_
     have zg := n4_
     have zf := n5_
     have zc := n6_
     have HB := n7_
     clear n0_ n1_ n2_ n3_ n4_ n5_ n6_ n7_
     obtain ⟨zE, zF, eo36⟩ := Kd.R_slice za.out
     (first | subst eo36 | (injection eo36 with f1_ f2_ f3_; have f4_ := f1_.symm; have f5_ := f3_.symm; clear f1_ f2_ f3_; subst f4_; subst f5_))
     obtain ⟨zB, zC, eo37⟩ := Kd.R_slice zb.out
     (first | subst eo37 | (injection eo37 with f1_ f2_ f3_; have f4_ := f1_.symm; have f5_ := f3_.symm; clear f1_ f2_ f3_; subst f4_; subst f5_))
     refine start_ (n := 5) (S := fun w' => w'.cell? ⟨zi, 0, none⟩ = some (.slice zE zj.length zF) ∧ w'.cell? ⟨zi, 1, none⟩ = some (.slice zB zh.length zC) ∧ w'.cell? ⟨zk, 0, none⟩ = some (.slice zo t995.length zp) ∧ w'.cell? ⟨zk, 1, none⟩ = some (.slice zq t998.length zr)) (ds := []) #[false, false, false, false, false] (by kernel_rfl) rfl rfl ⟨(blk_cell zc.out 0).trans rfl, (blk_cell zc.out 1).trans rfl, (blk_cell zf.out 0).trans rfl, (blk_cell zf.out 1).trans rfl⟩ (fun hHeld => ?_)
     generalize wr.drew = w35 at zd ze za zb zg zf zc HB hHeld ⊢
     refine take_ (i := 0) (N := some 13) (v := ?_) (a' := ?_) #[true, false, false, false, false] rfl rfl (by kernel_rfl) (fun _ _ _ h => h) (Or.inl ⟨by rfl, ?_⟩) hHeld ?_ ?_
     rotate_left
     ·rintro w' ⟨s0, s1, s2, s3⟩
      go_simp
      with_reducible rfl
     rotate_left
     ·simp only [Act.put, List.setIfInBounds_toArray, List.set_cons_zero, List.set_cons_succ, i64_w, i32_w]
      rfl
     refine take_ (i := 2) (N := some 15) (v := ?_) (a' := ?_) #[true, false, true, false, false] rfl rfl (by kernel_rfl) (fun _ _ _ h => h) (Or.inl ⟨by rfl, ?_⟩) hHeld ?_ ?_
     rotate_left
     ·rintro w' ⟨s0, s1, s2, s3⟩
      go_simp
      with_reducible rfl
     rotate_left
     ·simp only [Act.put, List.setIfInBounds_toArray, List.set_cons_zero, List.set_cons_succ, i64_w, i32_w]
      rfl
     refine one_ (i := 1) (N := some 14) #[true, true, true, false, false] rfl rfl (by kernel_rfl) (by decide) (fun K hK => ?_)
     refine goes_ Try.func56 (by kernel_rfl) rfl #[.agg #[.slice zE zj.length zF, .slice zB zh.length zC]] (by rfl) rfl rfl (by (try simp only [List.map_toArray, List.map_cons, List.map_nil]); first | done | rfl | (simp only [List.length_drop, List.length_take]; rfl)) ?_
     with_reducible refine (spec_l03Canon.calls k1 _ _ zj _ _ zh t1009 t1012 _ ?side1 ?side2 ?side3 ?side4 A24.out).mono ?_
     (case side1 => repeat (first | exact (Kd.R_reads' za.out).2.2 | (with_reducible refine Kd.C_alloc ?_ _) | (with_reducible refine Kd.C_drewN ?_ _) | (with_reducible refine Kd.C_drew ?_)))
     (case side2 => exact (Kd.R_reads' za.out).2.1)
     (case side3 => repeat (first | exact (Kd.R_reads' zb.out).2.2 | (with_reducible refine Kd.C_alloc ?_ _) | (with_reducible refine Kd.C_drewN ?_ _) | (with_reducible refine Kd.C_drew ?_)))
     (case side4 => exact (Kd.R_reads' zb.out).2.1)
     rintro e w38 ⟨v1010, v1013, rfl, ho0, ho1, hb⟩
     refine ⟨_, rfl, ?_⟩
     have n0_ := Aside0.mk (Kd.R_mono (Kd.R_told (Kd.R_told (Kd.R_old (zd.out) hb) (Kd.R_base ho0)) (Kd.R_base ho1)) (fun _ h_ => h_.1))
     have n1_ := Aside0.mk (Kd.R_mono (Kd.R_told (Kd.R_told (Kd.R_old (ze.out) hb) (Kd.R_base ho0)) (Kd.R_base ho1)) (fun _ h_ => h_.1))
     have n2_ := Aside0.mk (Kd.R_mono (Kd.R_told (Kd.R_told (Kd.R_old (za.out) hb) (Kd.R_base ho0)) (Kd.R_base ho1)) (fun _ h_ => h_.1))
     have n3_ := Aside0.mk (Kd.R_mono (Kd.R_told (Kd.R_told (Kd.R_old (zb.out) hb) (Kd.R_base ho0)) (Kd.R_base ho1)) (fun _ h_ => h_.1))
     have n4_ := Aside0.mk (Kd.R_lower (Kd.R_new' (Kd.R_new' (Kd.R_new' (Kd.R_new' ho0 (Kd.R_lt (zd.out))) (Kd.R_lt (ze.out))) (Kd.R_lt (za.out))) (Kd.R_lt (zb.out))) (below_size (HB.out)))
     have n5_ := Aside0.mk (Kd.R_lower (Kd.R_new' (Kd.R_new' (Kd.R_new' (Kd.R_new' ho1 (Kd.R_lt (zd.out))) (Kd.R_lt (ze.out))) (Kd.R_lt (za.out))) (Kd.R_lt (zb.out))) (below_size (HB.out)))
     have n6_ := Aside0.mk (blk_below (g := zl) (o := .cells #[.slice A0_0 l0_0.length c0_0, .slice A0_1 l0_1.length c0_1] 27 (0, 0)) (zg.out) hb)
     have n7_ := Aside0.mk (blk_below (g := zk) (o := .cells #[.slice zo t995.length zp, .slice zq t998.length zr] 27 (0, 0)) (zf.out) hb)
     have n8_ := Aside0.mk (blk_below (g := zi) (o := .cells #[.slice zE zj.length zF, .slice zB zh.length zC] 27 (0, 0)) (zc.out) hb)
     have n9_ := Aside0.mk (below_step (HB.out) hb)
     clear zd
     clear ze
     clear za
     clear zb
     clear zg
     clear zf
     clear zc
     clear HB
     have zd := n0_
     have ze := n1_
     have za := n2_
     have zb := n3_
     have zm := n4_
     have zn := n5_
     have zg := n6_
     have zf := n7_
     have zc := n8_
     have HB := n9_
     clear n0_ n1_ n2_ n3_ n4_ n5_ n6_ n7_ n8_ n9_
     (try clear hb)
     (try clear hb2)
     (try clear hk)
     (try clear hi)
     (try clear ho0)
     (try clear ho1)
     obtain ⟨Ao39, co39, eo39⟩ := Kd.R_slice zm.out
     (first | subst eo39 | (injection eo39 with f1_ f2_ f3_; have f4_ := f1_.symm; have f5_ := f3_.symm; clear f1_ f2_ f3_; subst f4_; subst f5_))
     obtain ⟨Ao40, co40, eo40⟩ := Kd.R_slice zn.out
     (first | subst eo40 | (injection eo40 with f1_ f2_ f3_; have f4_ := f1_.symm; have f5_ := f3_.symm; clear f1_ f2_ f3_; subst f4_; subst f5_))
     refine hK.out _ _ ⟨(blk_cell zc.out 0).trans rfl, (blk_cell zc.out 1).trans rfl, (blk_cell zf.out 0).trans rfl, (blk_cell zf.out 1).trans rfl⟩ (fun hHeld => ?_)
     clear hK K
     refine norm_ (a' := ?_) ?_ ?_
     rotate_left
     ·show Act.put _ (some 14) _ = _
      simp only [Act.put, List.setIfInBounds_toArray, List.set_cons_zero, List.set_cons_succ, i64_w, i32_w]
      rfl
     refine one_ (i := 3) (N := some 16) #[true, true, true, true, false] rfl rfl (by kernel_rfl) (by decide) (fun K hK => ?_)
     refine goes_ Try.func55 (by kernel_rfl) rfl #[.agg #[.slice Ao39 t1009.length co39, .slice Ao40 t1012.length co40], .agg #[.slice zo t995.length zp, .slice zq t998.length zr]] (by rfl) rfl rfl (by (try simp only [List.map_toArray, List.map_cons, List.map_nil]); first | done | rfl | (simp only [List.length_drop, List.length_take]; rfl)) ?_
     with_reducible refine (spec_SameSurface.calls k1 _ _ t1009 _ _ t1012 _ _ t995 _ _ t998 false _ ?side1 ?side2 ?side3 ?side4 ?side5 ?side6 ?side7 ?side8 A25.out).mono ?_
     (case side1 => repeat (first | exact (Kd.R_reads' zm.out).2.2 | (with_reducible refine Kd.C_alloc ?_ _) | (with_reducible refine Kd.C_drewN ?_ _) | (with_reducible refine Kd.C_drew ?_)))
     (case side2 => exact (Kd.R_reads' zm.out).2.1)
     (case side3 => repeat (first | exact (Kd.R_reads' zn.out).2.2 | (with_reducible refine Kd.C_alloc ?_ _) | (with_reducible refine Kd.C_drewN ?_ _) | (with_reducible refine Kd.C_drew ?_)))
     (case side4 => exact (Kd.R_reads' zn.out).2.1)
     (case side5 => repeat (first | exact (Kd.R_reads' zd.out).2.2 | (with_reducible refine Kd.C_alloc ?_ _) | (with_reducible refine Kd.C_drewN ?_ _) | (with_reducible refine Kd.C_drew ?_)))
     (case side6 => exact (Kd.R_reads' zd.out).2.1)
     (case side7 => repeat (first | exact (Kd.R_reads' ze.out).2.2 | (with_reducible refine Kd.C_alloc ?_ _) | (with_reducible refine Kd.C_drewN ?_ _) | (with_reducible refine Kd.C_drew ?_)))
     (case side8 => exact (Kd.R_reads' ze.out).2.1)
     rintro e w41 ⟨rfl, hb⟩
     refine ⟨_, rfl, ?_⟩
     have n0_ := Aside0.mk (Kd.R_below (zd.out) hb)
     have n1_ := Aside0.mk (Kd.R_below (ze.out) hb)
     have n2_ := Aside0.mk (Kd.R_below (za.out) hb)
     have n3_ := Aside0.mk (Kd.R_below (zb.out) hb)
     have n4_ := Aside0.mk (Kd.R_below (zm.out) hb)
     have n5_ := Aside0.mk (Kd.R_below (zn.out) hb)
     have n6_ := Aside0.mk (blk_below (g := zl) (o := .cells #[.slice A0_0 l0_0.length c0_0, .slice A0_1 l0_1.length c0_1] 27 (0, 0)) (zg.out) hb)
     have n7_ := Aside0.mk (blk_below (g := zk) (o := .cells #[.slice zo t995.length zp, .slice zq t998.length zr] 27 (0, 0)) (zf.out) hb)
     have n8_ := Aside0.mk (blk_below (g := zi) (o := .cells #[.slice zE zj.length zF, .slice zB zh.length zC] 27 (0, 0)) (zc.out) hb)
     have n9_ := Aside0.mk (below_step (HB.out) hb)
     clear zd
     clear ze
     clear za
     clear zb
     clear zm
     clear zn
     clear zg
     clear zf
     clear zc
     clear HB
     have zd := n0_
     have ze := n1_
     have za := n2_
     have zb := n3_
     have zm := n4_
     have zn := n5_
     have zg := n6_
     have zf := n7_
     have zc := n8_
     have HB := n9_
     clear n0_ n1_ n2_ n3_ n4_ n5_ n6_ n7_ n8_ n9_
     (try clear hb)
     (try clear hb2)
     (try clear hk)
     (try clear hi)
     refine hK.out _ _ ⟨(blk_cell zc.out 0).trans rfl, (blk_cell zc.out 1).trans rfl, (blk_cell zf.out 0).trans rfl, (blk_cell zf.out 1).trans rfl⟩ (fun hHeld => ?_)
     clear hK K
     refine norm_ (a' := ?_) ?_ ?_
     rotate_left
     ·show Act.put _ (some 16) _ = _
      simp only [Act.put, List.setIfInBounds_toArray, List.set_cons_zero, List.set_cons_succ, i64_w, i32_w]
      rfl
     refine pure_ (i := 4) (N := some 17) (v := ?_) (a' := ?_) #[true, true, true, true, true] rfl rfl (by kernel_rfl) (fun _ _ _ h => h) (Or.inl ⟨by rfl, ?_⟩) ?_ ?_
     rotate_left
     ·intro w'
      go_simp
      with_reducible rfl
     rotate_left
     ·simp only [Act.put, List.setIfInBounds_toArray, List.set_cons_zero, List.set_cons_succ, i64_w, i32_w]
      rfl
     refine done_ (by kernel_rfl) ?_
     have hnb42 := zJ.out
     have hnc42 := zy.out
     have hnb43 := zI.out
     have hnc43 := zv.out
     have hcz44_0 : w41.cell? ⟨zi, 0, none⟩ = some (.slice zE zj.length zF) := (blk_cell zc.out 0).trans rfl
     have hcz44_1 : w41.cell? ⟨zi, 1, none⟩ = some (.slice zB zh.length zC) := (blk_cell zc.out 1).trans rfl
     have hfz44_0 := blk_frozen zc.out 0
     have hfz44_1 := blk_frozen zc.out 1
     try go_wp2_with (first | ((with_reducible refine gate_callee (f := 63) rfl ?_); refine goesL_ (some 19) rfl rfl Try.func63 (by kernel_rfl) rfl #[.agg #[.slice zE zj.length zF, .slice zB zh.length zC]] rfl (by (try simp only [List.map_toArray, List.map_cons, List.map_nil]); first | done | rfl | (simp only [List.length_drop, List.length_take]; rfl)) ?_; (with_reducible refine (spec_l05Shear.calls k1 _ _ zj _ _ zh t1016 t1019 _ ?side1 ?side2 ?side3 ?side4 A34.out).mono ?_); (case side1 => repeat (first | exact (Kd.R_reads' za.out).2.2 | (with_reducible refine Kd.C_alloc ?_ _) | (with_reducible refine Kd.C_drewN ?_ _) | (with_reducible refine Kd.C_drew ?_))); (case side2 => exact (Kd.R_reads' za.out).2.1); (case side3 => repeat (first | exact (Kd.R_reads' zb.out).2.2 | (with_reducible refine Kd.C_alloc ?_ _) | (with_reducible refine Kd.C_drewN ?_ _) | (with_reducible refine Kd.C_drew ?_))); (case side4 => exact (Kd.R_reads' zb.out).2.1); rintro e w45 ⟨v1017, v1020, rfl, ho0, ho1, hb⟩; refine ⟨_, rfl, ?_⟩; have n0_ := Aside0.mk (Kd.R_mono (Kd.R_told (Kd.R_told (Kd.R_old (zd.out) hb) (Kd.R_base ho0)) (Kd.R_base ho1)) (fun _ h_ => h_.1)); have n1_ := Aside0.mk (Kd.R_mono (Kd.R_told (Kd.R_told (Kd.R_old (ze.out) hb) (Kd.R_base ho0)) (Kd.R_base ho1)) (fun _ h_ => h_.1)); have n2_ := Aside0.mk (Kd.R_mono (Kd.R_told (Kd.R_told (Kd.R_old (za.out) hb) (Kd.R_base ho0)) (Kd.R_base ho1)) (fun _ h_ => h_.1)); have n3_ := Aside0.mk (Kd.R_mono (Kd.R_told (Kd.R_told (Kd.R_old (zb.out) hb) (Kd.R_base ho0)) (Kd.R_base ho1)) (fun _ h_ => h_.1)); have n4_ := Aside0.mk (Kd.R_mono (Kd.R_told (Kd.R_told (Kd.R_old (zm.out) hb) (Kd.R_base ho0)) (Kd.R_base ho1)) (fun _ h_ => h_.1)); have n5_ := Aside0.mk (Kd.R_mono (Kd.R_told (Kd.R_told (Kd.R_old (zn.out) hb) (Kd.R_base ho0)) (Kd.R_base ho1)) (fun _ h_ => h_.1)); have n6_ := Aside0.mk (Kd.R_lower (Kd.R_new' (Kd.R_new' (Kd.R_new' (Kd.R_new' (Kd.R_new' (Kd.R_new' ho0 (Kd.R_lt (zd.out))) (Kd.R_lt (ze.out))) (Kd.R_lt (za.out))) (Kd.R_lt (zb.out))) (Kd.R_lt (zm.out))) (Kd.R_lt (zn.out))) (below_size (HB.out))); have n7_ := Aside0.mk (Kd.R_lower (Kd.R_new' (Kd.R_new' (Kd.R_new' (Kd.R_new' (Kd.R_new' (Kd.R_new' ho1 (Kd.R_lt (zd.out))) (Kd.R_lt (ze.out))) (Kd.R_lt (za.out))) (Kd.R_lt (zb.out))) (Kd.R_lt (zm.out))) (Kd.R_lt (zn.out))) (below_size (HB.out))); have n8_ := Aside0.mk (blk_below (g := zl) (o := .cells #[.slice A0_0 l0_0.length c0_0, .slice A0_1 l0_1.length c0_1] 27 (0, 0)) (zg.out) hb); have n9_ := Aside0.mk (blk_below (g := zk) (o := .cells #[.slice zo t995.length zp, .slice zq t998.length zr] 27 (0, 0)) (zf.out) hb); have n10_ := Aside0.mk (blk_below (g := zi) (o := .cells #[.slice zE zj.length zF, .slice zB zh.length zC] 27 (0, 0)) (zc.out) hb); have n11_ := Aside0.mk (below_step (HB.out) hb); clear zd; clear ze; clear za; clear zb; clear zm; clear zn; clear zg; clear zf; clear zc; clear HB; have zd := n0_; have ze := n1_; have za := n2_; have zb := n3_; have zm := n4_; have zn := n5_; have zg1 := n6_; have zh1 := n7_; have zg := n8_; have zf := n9_; have zc := n10_; have HB := n11_; clear n0_ n1_ n2_ n3_ n4_ n5_ n6_ n7_ n8_ n9_ n10_ n11_; (try clear hb); (try clear hb2); (try clear hk); (try clear hi); (try clear ho0); (try clear ho1); obtain ⟨zM, zN, eo46⟩ := Kd.R_slice zg1.out; subst eo46; have hcz47_0 : w45.cell? ⟨zi, 0, none⟩ = some (.slice zE zj.length zF) := (blk_cell zc.out 0).trans rfl; have hcz47_1 : w45.cell? ⟨zi, 1, none⟩ = some (.slice zB zh.length zC) := (blk_cell zc.out 1).trans rfl; have hfz47_0 := blk_frozen zc.out 0; have hfz47_1 := blk_frozen zc.out 1; obtain ⟨zY, zZ, eo48⟩ := Kd.R_slice zh1.out; subst eo48))
     go_roundg k1
     case measure => have := HK1.out; omega
     case rel => exact ⟨(wrap64 (x5_1 + 1)), (t1016), (t1019), (.slice zM t1016.length zN), (.slice zY t1019.length zZ), (by first | rfl | (simp; done) | (simp [*]; done)), H', ⟨by have := HK1.out; omega⟩, ⟨by (with_reducible repeat (first | apply Kd.R_alloc | apply Kd.R_drewN | apply Kd.R_drew)); exact Kd.R_mono (Kd.R_far (p := ⟨zi, 1, none⟩) (Kd.R_far (p := ⟨zi, 0, none⟩) (Kd.R_types zd.out zc.out (by decide)) (fun _ hk => hk.2) (.slice zM t1016.length zN)) (fun _ hk => hk.2) (.slice zY t1019.length zZ)) (fun _ hk => ⟨hk.1.1.1.1.1.1, ⟨hk.1.1.2, hk.1.2⟩⟩)⟩, ⟨by (with_reducible repeat (first | apply Kd.R_alloc | apply Kd.R_drewN | apply Kd.R_drew)); exact Kd.R_mono (Kd.R_far (p := ⟨zi, 1, none⟩) (Kd.R_far (p := ⟨zi, 0, none⟩) (Kd.R_types ze.out zc.out (by decide)) (fun _ hk => hk.2) (.slice zM t1016.length zN)) (fun _ hk => hk.2) (.slice zY t1019.length zZ)) (fun _ hk => ⟨hk.1.1.1.1.1.1, ⟨hk.1.1.2, hk.1.2⟩⟩)⟩, ⟨by (with_reducible repeat (first | apply Kd.R_alloc | apply Kd.R_drewN | apply Kd.R_drew)); exact Kd.R_mono (Kd.R_far (p := ⟨zi, 1, none⟩) (Kd.R_far (p := ⟨zi, 0, none⟩) (Kd.R_types zg1.out zc.out (by decide)) (fun _ hk => hk.2) (.slice zM t1016.length zN)) (fun _ hk => hk.2) (.slice zY t1019.length zZ)) (fun _ hk => ⟨hk.1.1.1.1.1.1.2, ⟨hk.1.1.1.1.1.2, hk.1.1.1.1.1.1.1⟩⟩)⟩, ⟨by (with_reducible repeat (first | apply Kd.R_alloc | apply Kd.R_drewN | apply Kd.R_drew)); exact Kd.R_mono (Kd.R_far (p := ⟨zi, 1, none⟩) (Kd.R_far (p := ⟨zi, 0, none⟩) (Kd.R_types zh1.out zc.out (by decide)) (fun _ hk => hk.2) (.slice zM t1016.length zN)) (fun _ hk => hk.2) (.slice zY t1019.length zZ)) (fun _ hk => ⟨hk.1.1.1.1.1.1.2, ⟨hk.1.1.1.1.1.2, hk.1.1.1.1.1.1.1⟩⟩)⟩, ⟨by (with_reducible repeat (first | refine blk_drewN ?_ _ | refine blk_drew ?_ | refine blk_alloc ?_ _)); refine blk_far ?_ zy.out _; (with_reducible repeat (first | refine blk_drewN ?_ _ | refine blk_drew ?_ | refine blk_alloc ?_ _)); refine blk_far ?_ zy.out _; (with_reducible repeat (first | refine blk_drewN ?_ _ | refine blk_drew ?_ | refine blk_alloc ?_ _)); exact zg.out⟩, ⟨by (with_reducible repeat (first | refine blk_drewN ?_ _ | refine blk_drew ?_ | refine blk_alloc ?_ _)); refine blk_far ?_ zv.out _; (with_reducible repeat (first | refine blk_drewN ?_ _ | refine blk_drew ?_ | refine blk_alloc ?_ _)); refine blk_far ?_ zv.out _; (with_reducible repeat (first | refine blk_drewN ?_ _ | refine blk_drew ?_ | refine blk_alloc ?_ _)); exact zf.out⟩, ⟨by (with_reducible repeat (first | refine blk_drewN ?_ _ | refine blk_drew ?_ | refine blk_alloc ?_ _)); refine blk_put (cs := #[.slice zM t1016.length zN, .slice zB zh.length zC]) ?_ 1 _ rfl; (with_reducible repeat (first | refine blk_drewN ?_ _ | refine blk_drew ?_ | refine blk_alloc ?_ _)); refine blk_put (cs := #[.slice zE zj.length zF, .slice zB zh.length zC]) ?_ 0 _ rfl; (with_reducible repeat (first | refine blk_drewN ?_ _ | refine blk_drew ?_ | refine blk_alloc ?_ _)); exact zc.out⟩, ⟨by repeat (first | (with_reducible first | exact HB.out | apply below_alloc | apply pw_below_drewN | apply below_drew1 | refine below_set ?_ zs.out | refine below_set ?_ zz.out | refine below_set ?_ zf1.out) | exact HB.out)⟩⟩
 ·replace c3 := Bool.eq_false_iff.mpr c3
  subst c3
  have H1 : (some 0) = some r := by rw [if_neg (show ¬ (false = true) by decide)] at H; exact H
  clear H
  have H := H1
  clear H1
  obtain rfl := Option.some.inj H
  go_enter Try.func32, Try.ntmps32
  go_wp2_with (first | ((with_reducible refine gate_dst (N := 1) rfl ?_); refine box_event ?hg (N := 1) ?hd (cs := #[.slice A0_0 l0_0.length c0_0, .slice A0_1 l0_1.length c0_1]) (t := 27) ?hr ?_; (case hd => rfl); (case hg => rfl); (case hr => first | (go_simp; done) | (go_simp; rfl)); intro zl hg w49 hbox hb; have n0_ := Aside0.mk (below_step (HB.out) hb); have n1_ := Aside0.mk (hbox); have n2_ := Aside0.mk ((by rw [hg]; exact (below_size (HB.out)) : w.heap.size ≤ zl)); have n3_ := Aside0.mk ((by rw [hg]; exact (below_size (HB.out)) : w.heap.size ≤ zl)); clear HB; have HB := n0_; have zg := n1_; have GW993 := n2_; have zs := n3_; clear n0_ n1_ n2_ n3_; clear hb hbox hg; have hcz50_0 : w49.cell? ⟨zl, 0, none⟩ = some (.slice A0_0 l0_0.length c0_0) := (blk_cell zg.out 0).trans rfl; have hcz50_1 : w49.cell? ⟨zl, 1, none⟩ = some (.slice A0_1 l0_1.length c0_1) := (blk_cell zg.out 1).trans rfl; have hfz50_0 := blk_frozen zg.out 0; have hfz50_1 := blk_frozen zg.out 1) | ((with_reducible refine gate_callee (f := 42) rfl ?_); refine goesL_ (some 7) rfl rfl Try.func42 (by kernel_rfl) rfl #[.agg #[.slice A0_0 l0_0.length c0_0, .slice A0_1 l0_1.length c0_1]] rfl (by (try simp only [List.map_toArray, List.map_cons, List.map_nil]); first | done | rfl | (simp only [List.length_drop, List.length_take]; rfl)) ?_; (with_reducible refine (spec_SurfaceOk.calls k _ _ l0_0 _ _ l0_1 false _ ?side1 ?side2 ?side3 ?side4 A2.out).mono ?_); (case side1 => repeat (first | exact (Kd.C_below zO.out HB.out) | (with_reducible refine Kd.C_alloc ?_ _) | (with_reducible refine Kd.C_drewN ?_ _) | (with_reducible refine Kd.C_drew ?_))); (case side2 => exact zP.out); (case side3 => repeat (first | exact (Kd.C_below zQ.out HB.out) | (with_reducible refine Kd.C_alloc ?_ _) | (with_reducible refine Kd.C_drewN ?_ _) | (with_reducible refine Kd.C_drew ?_))); (case side4 => exact zR.out); rintro e w51 ⟨rfl, hb⟩; refine ⟨_, rfl, ?_⟩; have n0_ := Aside0.mk (blk_below (g := zl) (o := .cells #[.slice A0_0 l0_0.length c0_0, .slice A0_1 l0_1.length c0_1] 27 (0, 0)) (zg.out) hb); have n1_ := Aside0.mk (below_step (HB.out) hb); clear zg; clear HB; have zg := n0_; have HB := n1_; clear n0_ n1_; (try clear hb); (try clear hb2); (try clear hk); (try clear hi)))
  go_ret
  exact ⟨by first | rfl | (simp [errW_none, errW_some] <;> rfl) | (simp [*, errW_none, errW_some] <;> rfl), HB.out⟩

end Go.Proofs.Ytlohmpgbjgidpad.P
