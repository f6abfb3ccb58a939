-- MADE by this project's printer (wip/mk) out of the translation; Lean checks it.
import Derived.Test.YtlohmpgbjgidpadPx0
import Derived.Test.YtlohmpgbjgidpadPx2
import Derived.Test.YtlohmpgbjgidpadPx16
import Derived.Test.YtlohmpgbjgidpadPx28
import Derived.Test.YtlohmpgbjgidpadPx88
import Derived.Test.YtlohmpgbjgidpadPx89
namespace Go.Proofs.Ytlohmpgbjgidpad.P
open Go.RowKit Go.Proofs.YtlohmpgbjgidpadW.PrintWords Go.Proofs.YtlohmpgbjgidpadW.PrintLast Go.Proofs.YtlohmpgbjgidpadW.PrintMore
attribute [local go_sem] max2_int min2_int max_two min_two max_three min_three max_four min_four   -- for this text's walks alone
set_option linter.unusedVariables false
set_option linter.unusedSimpArgs false

/-! ### laws_FnExactShearPeriod: function 9 -/
def laws_FnExactShearPeriod.f (k : Nat) (l0_0 : List Int) (l0_1 : List Int) : Option (Bool) := (laws_szSurface.f l0_0 l0_1 1048576).bind fun t1054 => (if t1054 < 0 then (some true) else ((laws_toSurface.f k l0_0 l0_1).bind fun zp => ((spec_ShearPeriod.f k zp.1 zp.2).bind fun t1061 => ((laws_toSurface.f k l0_0 l0_1).bind fun zf => ((impl_ShearPeriod.f k zf.1 zf.2).bind fun t1069 => (if t1069 = t1061 then ((laws_toSurface.f k l0_0 l0_1).bind fun zj => ((laws_eqSurface.f k zf.1 zf.2 zj.1 zj.2).bind fun t1076 => (if t1076 = true then (some true) else (some false)))) else (some false)))))))
theorem laws_FnExactShearPeriod.mono : ∀ a0 a1 k, LeO (laws_FnExactShearPeriod.f k a0 a1) (laws_FnExactShearPeriod.f (k + 1) a0 a1) := by
 intro a0 a1 k
 unfold laws_FnExactShearPeriod.f
 repeat' first
   | (with_reducible exact impl_ShearPeriod.mono _ _ _)
   | (with_reducible exact laws_eqSurface.mono _ _ _ _ _)
   | (with_reducible exact laws_toSurface.mono _ _ _)
   | (with_reducible exact spec_ShearPeriod.mono _ _ _)
   | (with_reducible exact LeO.refl _)
   | (with_reducible exact LeO.none _)
   | (with_reducible refine LeO.ite ?_ ?_)
   | (with_reducible refine LeO.bind ?_ (fun _ => ?_))
   | exact impl_ShearPeriod.mono _ _ _
   | exact laws_eqSurface.mono _ _ _ _ _
   | exact laws_toSurface.mono _ _ _
   | exact spec_ShearPeriod.mono _ _ _
   | exact LeO.none _
   | refine LeO.ite ?_ ?_
   | refine LeO.bind ?_ (fun _ => ?_)
set_option maxHeartbeats 8000000 in
set_option maxRecDepth 100000 in
theorem laws_FnExactShearPeriod.calls_true (k : Nat) (A0_0 : Option Addr) (c0_0 : Nat) (l0_0 : List Int) (A0_1 : Option Addr) (c0_1 : Nat) (l0_1 : List Int) (w : World) (hr0_0 : Kd.C (Kd.int .i64) w A0_0 l0_0.length l0_0) (hc0_0 : l0_0.length ≤ c0_0) (hr0_1 : Kd.C (Kd.int .i64) w A0_1 l0_1.length l0_1) (hc0_1 : l0_1.length ≤ c0_1) (h : laws_FnExactShearPeriod.f k l0_0 l0_1 = some true) :
  Calls Try.prog 9 #[.agg #[.slice A0_0 l0_0.length c0_0, .slice A0_1 l0_1.length c0_1]] w fun e w' => e = .returned (.bool true) ∧ Below w.heap.size w w' := by
 have hu24 := Try.underlying24
 have hu27 := Try.underlying27
 have zt := Aside0.mk hr0_0
 have zu := Aside0.mk hc0_0
 clear hr0_0 hc0_0
 have zv := Aside0.mk hr0_1
 have zw := Aside0.mk hc0_1
 clear hr0_1 hc0_1
 have HB := Aside0.mk (Below.refl w.heap.size w)
 have H : ((laws_szSurface.f l0_0 l0_1 1048576).bind fun t1054 => (if t1054 < 0 then (some true) else ((laws_toSurface.f k l0_0 l0_1).bind fun zp => ((spec_ShearPeriod.f k zp.1 zp.2).bind fun t1061 => ((laws_toSurface.f k l0_0 l0_1).bind fun zf => ((impl_ShearPeriod.f k zf.1 zf.2).bind fun t1069 => (if t1069 = t1061 then ((laws_toSurface.f k l0_0 l0_1).bind fun zj => ((laws_eqSurface.f k zf.1 zf.2 zj.1 zj.2).bind fun t1076 => (if t1076 = true then (some true) else (some false)))) else (some false)))))))) = some true := h
 clear h
 replace H := Option.bind_eq_some_iff.mp H
 obtain ⟨t1054, A20, H⟩ := H
 replace H : (if t1054 < 0 then (some true) else ((laws_toSurface.f k l0_0 l0_1).bind fun zp => ((spec_ShearPeriod.f k zp.1 zp.2).bind fun t1061 => ((laws_toSurface.f k l0_0 l0_1).bind fun zf => ((impl_ShearPeriod.f k zf.1 zf.2).bind fun t1069 => (if t1069 = t1061 then ((laws_toSurface.f k l0_0 l0_1).bind fun zj => ((laws_eqSurface.f k zf.1 zf.2 zj.1 zj.2).bind fun t1076 => (if t1076 = true then (some true) else (some false)))) else (some false))))))) = some true := H
 have A2 := Aside0.mk A20
 clear A20
 by_cases c3 : t1054 < 0
 ·rw [if_pos c3] at H
  have c3b0 : decide (t1054 < 0) = true := decide_eq_true c3
  clear c3
  go_enter Try.func9, Try.ntmps9
  go_wp2_with (first | ((with_reducible refine gate_dst (N := 1) rfl ?_); refine box_event ?hg (N := 1) ?hd (cs := #[.slice A0_0 l0_0.length c0_0, .slice A0_1 l0_1.length c0_1]) (t := 24) ?hr ?_; (case hd => rfl); (case hg => rfl); (case hr => first | (go_simp; done) | (go_simp; rfl)); intro ze hg w4 hbox hb; have n0_ := Aside0.mk (below_step (HB.out) hb); have n1_ := Aside0.mk (hbox); have n2_ := Aside0.mk ((by rw [hg]; exact (below_size (HB.out)) : w.heap.size ≤ ze)); have n3_ := Aside0.mk ((by rw [hg]; exact (below_size (HB.out)) : w.heap.size ≤ ze)); clear HB; have HB := n0_; have za := n1_; have GW1053 := n2_; have zk := n3_; clear n0_ n1_ n2_ n3_; clear hb hbox hg; have hcz5_0 : w4.cell? ⟨ze, 0, none⟩ = some (.slice A0_0 l0_0.length c0_0) := (blk_cell za.out 0).trans rfl; have hcz5_1 : w4.cell? ⟨ze, 1, none⟩ = some (.slice A0_1 l0_1.length c0_1) := (blk_cell za.out 1).trans rfl; have hfz5_0 := blk_frozen za.out 0; have hfz5_1 := blk_frozen za.out 1) | ((with_reducible refine gate_callee (f := 12) rfl ?_); refine goesL_ (some 9) rfl rfl Try.func12 (by kernel_rfl) rfl #[.agg #[.slice A0_0 l0_0.length c0_0, .slice A0_1 l0_1.length c0_1], .int .i64 1048576] rfl (by (try simp only [List.map_toArray, List.map_cons, List.map_nil]); first | done | rfl | (simp only [List.length_drop, List.length_take]; rfl)) ?_; (with_reducible refine (laws_szSurface.calls _ _ l0_0 _ _ l0_1 1048576 t1054 _ ?side1 ?side2 ?side3 ?side4 A2.out).mono ?_); (case side1 => repeat (first | exact (Kd.C_below zt.out HB.out) | (with_reducible refine Kd.C_alloc ?_ _) | (with_reducible refine Kd.C_drewN ?_ _) | (with_reducible refine Kd.C_drew ?_))); (case side2 => exact zu.out); (case side3 => repeat (first | exact (Kd.C_below zv.out HB.out) | (with_reducible refine Kd.C_alloc ?_ _) | (with_reducible refine Kd.C_drewN ?_ _) | (with_reducible refine Kd.C_drew ?_))); (case side4 => exact zw.out); rintro e w6 ⟨rfl, hb⟩; refine ⟨_, rfl, ?_⟩; have n0_ := Aside0.mk (blk_below (g := ze) (o := .cells #[.slice A0_0 l0_0.length c0_0, .slice A0_1 l0_1.length c0_1] 24 (0, 0)) (za.out) hb); have n1_ := Aside0.mk (below_step (HB.out) hb); clear za; clear HB; have za := n0_; have HB := n1_; clear n0_ n1_; (try clear hb); (try clear hb2); (try clear hk); (try clear hi)))
  go_ret
  exact ⟨by first | rfl | (simp [errW_none, errW_some] <;> rfl) | (simp [*, errW_none, errW_some] <;> rfl), HB.out⟩
 ·rw [if_neg c3] at H
  have c3b0 : decide (t1054 < 0) = false := decide_eq_false c3
  clear c3
  replace H := Option.bind_eq_some_iff.mp H
  obtain ⟨⟨t1055, t1058⟩, A70, H⟩ := H
  replace H : ((spec_ShearPeriod.f k t1055 t1058).bind fun t1061 => ((laws_toSurface.f k l0_0 l0_1).bind fun zf => ((impl_ShearPeriod.f k zf.1 zf.2).bind fun t1069 => (if t1069 = t1061 then ((laws_toSurface.f k l0_0 l0_1).bind fun zj => ((laws_eqSurface.f k zf.1 zf.2 zj.1 zj.2).bind fun t1076 => (if t1076 = true then (some true) else (some false)))) else (some false))))) = some true := H
  have A7 := Aside0.mk A70
  clear A70
  replace H := Option.bind_eq_some_iff.mp H
  obtain ⟨t1061, A80, H⟩ := H
  replace H : ((laws_toSurface.f k l0_0 l0_1).bind fun zf => ((impl_ShearPeriod.f k zf.1 zf.2).bind fun t1069 => (if t1069 = t1061 then ((laws_toSurface.f k l0_0 l0_1).bind fun zj => ((laws_eqSurface.f k zf.1 zf.2 zj.1 zj.2).bind fun t1076 => (if t1076 = true then (some true) else (some false)))) else (some false)))) = some true := H
  have A8 := Aside0.mk A80
  clear A80
  replace H := Option.bind_eq_some_iff.mp H
  obtain ⟨⟨t1062, t1065⟩, A90, H⟩ := H
  replace H : ((impl_ShearPeriod.f k t1062 t1065).bind fun t1069 => (if t1069 = t1061 then ((laws_toSurface.f k l0_0 l0_1).bind fun zj => ((laws_eqSurface.f k t1062 t1065 zj.1 zj.2).bind fun t1076 => (if t1076 = true then (some true) else (some false)))) else (some false))) = some true := H
  have A9 := Aside0.mk A90
  clear A90
  replace H := Option.bind_eq_some_iff.mp H
  obtain ⟨t1069, A100, H⟩ := H
  replace H : (if t1069 = t1061 then ((laws_toSurface.f k l0_0 l0_1).bind fun zj => ((laws_eqSurface.f k t1062 t1065 zj.1 zj.2).bind fun t1076 => (if t1076 = true then (some true) else (some false)))) else (some false)) = some true := H
  have A10 := Aside0.mk A100
  clear A100
  by_cases c11 : t1069 = t1061
  ·rw [if_pos c11] at H
   have c11b0 : (t1069 == t1061) = true := beq_iff_eq.mpr c11
   have c11b1 : (t1069 != t1061) = false := bne_eq_false_iff_eq.mpr c11
   clear c11
   replace H := Option.bind_eq_some_iff.mp H
   obtain ⟨⟨t1070, t1073⟩, A120, H⟩ := H
   replace H : ((laws_eqSurface.f k t1062 t1065 t1070 t1073).bind fun t1076 => (if t1076 = true then (some true) else (some false))) = some true := H
   have A12 := Aside0.mk A120
   clear A120
   replace H := Option.bind_eq_some_iff.mp H
   obtain ⟨t1076, A130, H⟩ := H
   replace H : (if t1076 = true then (some true) else (some false)) = some true := H
   have A13 := Aside0.mk A130
   clear A130
   by_cases c14 : t1076 = true
   ·subst c14
    have H1 : (some true) = some true := rfl
    clear H
    have H := H1
    clear H1
    go_enter Try.func9, Try.ntmps9
    try go_wp2_with (first | ((with_reducible refine gate_dst (N := 1) rfl ?_); refine box_event ?hg (N := 1) ?hd (cs := #[.slice A0_0 l0_0.length c0_0, .slice A0_1 l0_1.length c0_1]) (t := 24) ?hr ?_; (case hd => rfl); (case hg => rfl); (case hr => first | (go_simp; done) | (go_simp; rfl)); intro ze hg w15 hbox hb; have n0_ := Aside0.mk (below_step (by repeat (first | (with_reducible first | exact HB.out | apply below_alloc | apply pw_below_drewN | apply below_drew1) | exact HB.out)) hb); have n1_ := Aside0.mk (hbox); have n2_ := Aside0.mk ((by rw [hg]; exact (below_size (by repeat (first | (with_reducible first | exact HB.out | apply below_alloc | apply pw_below_drewN | apply below_drew1) | exact HB.out))) : w.heap.size ≤ ze)); have n3_ := Aside0.mk ((by rw [hg]; exact (below_size (by repeat (first | (with_reducible first | exact HB.out | apply below_alloc | apply pw_below_drewN | apply below_drew1) | exact HB.out))) : w.heap.size ≤ ze)); clear HB; have HB := n0_; have za := n1_; have GW1053 := n2_; have zk := n3_; clear n0_ n1_ n2_ n3_; clear hb hbox hg; have hcz16_0 : w15.cell? ⟨ze, 0, none⟩ = some (.slice A0_0 l0_0.length c0_0) := (blk_cell za.out 0).trans rfl; have hcz16_1 : w15.cell? ⟨ze, 1, none⟩ = some (.slice A0_1 l0_1.length c0_1) := (blk_cell za.out 1).trans rfl; have hfz16_0 := blk_frozen za.out 0; have hfz16_1 := blk_frozen za.out 1) | ((with_reducible refine gate_callee (f := 12) rfl ?_); refine goesL_ (some 9) rfl rfl Try.func12 (by kernel_rfl) rfl #[.agg #[.slice A0_0 l0_0.length c0_0, .slice A0_1 l0_1.length c0_1], .int .i64 1048576] rfl (by (try simp only [List.map_toArray, List.map_cons, List.map_nil]); first | done | rfl | (simp only [List.length_drop, List.length_take]; rfl)) ?_; (with_reducible refine (laws_szSurface.calls _ _ l0_0 _ _ l0_1 1048576 t1054 _ ?side1 ?side2 ?side3 ?side4 A2.out).mono ?_); (case side1 => repeat (first | exact (Kd.C_below zt.out HB.out) | (with_reducible refine Kd.C_alloc ?_ _) | (with_reducible refine Kd.C_drewN ?_ _) | (with_reducible refine Kd.C_drew ?_))); (case side2 => exact zu.out); (case side3 => repeat (first | exact (Kd.C_below zv.out HB.out) | (with_reducible refine Kd.C_alloc ?_ _) | (with_reducible refine Kd.C_drewN ?_ _) | (with_reducible refine Kd.C_drew ?_))); (case side4 => exact zw.out); rintro e w17 ⟨rfl, hb⟩; refine ⟨_, rfl, ?_⟩; have n0_ := Aside0.mk (blk_below (g := ze) (o := .cells #[.slice A0_0 l0_0.length c0_0, .slice A0_1 l0_1.length c0_1] 24 (0, 0)) (by (with_reducible repeat (first | refine blk_drewN ?_ _ | refine blk_drew ?_ | refine blk_alloc ?_ _)); exact za.out) hb); have n1_ := Aside0.mk (below_step (by repeat (first | (with_reducible first | exact HB.out | apply below_alloc | apply pw_below_drewN | apply below_drew1 | refine below_set ?_ zk.out) | exact HB.out)) hb); clear za; clear HB; have za := n0_; have HB := n1_; clear n0_ n1_; (try clear hb); (try clear hb2); (try clear hk); (try clear hi); have hcz18_0 : w17.cell? ⟨ze, 0, none⟩ = some (.slice A0_0 l0_0.length c0_0) := (blk_cell za.out 0).trans rfl; have hcz18_1 : w17.cell? ⟨ze, 1, none⟩ = some (.slice A0_1 l0_1.length c0_1) := (blk_cell za.out 1).trans rfl; have hfz18_0 := blk_frozen za.out 0; have hfz18_1 := blk_frozen za.out 1) | ((with_reducible refine gate_callee (f := 14) rfl ?_); refine goesL_ (some 13) rfl rfl Try.func14 (by kernel_rfl) rfl #[.agg #[.slice A0_0 l0_0.length c0_0, .slice A0_1 l0_1.length c0_1]] rfl (by (try simp only [List.map_toArray, List.map_cons, List.map_nil]); first | done | rfl | (simp only [List.length_drop, List.length_take]; rfl)) ?_; (with_reducible refine (laws_toSurface.calls k _ _ l0_0 _ _ l0_1 t1055 t1058 _ ?side1 ?side2 ?side3 ?side4 A7.out).mono ?_); (case side1 => repeat (first | exact (Kd.C_below zt.out HB.out) | (with_reducible refine Kd.C_alloc ?_ _) | (with_reducible refine Kd.C_drewN ?_ _) | (with_reducible refine Kd.C_drew ?_))); (case side2 => exact zu.out); (case side3 => repeat (first | exact (Kd.C_below zv.out HB.out) | (with_reducible refine Kd.C_alloc ?_ _) | (with_reducible refine Kd.C_drewN ?_ _) | (with_reducible refine Kd.C_drew ?_))); (case side4 => exact zw.out); rintro e w19 ⟨v1056, v1059, rfl, ho0, ho1, hb⟩; refine ⟨_, rfl, ?_⟩; have n0_ := Aside0.mk (Kd.R_lower ho0 (below_size (by repeat (first | (with_reducible first | exact HB.out | apply below_alloc | apply pw_below_drewN | apply below_drew1 | refine below_set ?_ zk.out) | exact HB.out)))); have n1_ := Aside0.mk (Kd.R_lower ho1 (below_size (by repeat (first | (with_reducible first | exact HB.out | apply below_alloc | apply pw_below_drewN | apply below_drew1 | refine below_set ?_ zk.out) | exact HB.out)))); have n2_ := Aside0.mk (blk_below (g := ze) (o := .cells #[.slice A0_0 l0_0.length c0_0, .slice A0_1 l0_1.length c0_1] 24 (0, 0)) (by (with_reducible repeat (first | refine blk_drewN ?_ _ | refine blk_drew ?_ | refine blk_alloc ?_ _)); exact za.out) hb); have n3_ := Aside0.mk (below_step (by repeat (first | (with_reducible first | exact HB.out | apply below_alloc | apply pw_below_drewN | apply below_drew1 | refine below_set ?_ zk.out) | exact HB.out)) hb); clear za; clear HB; have zb := n0_; have zc := n1_; have za := n2_; have HB := n3_; clear n0_ n1_ n2_ n3_; (try clear hb); (try clear hb2); (try clear hk); (try clear hi); (try clear ho0); (try clear ho1); obtain ⟨zx, zy, eo20⟩ := Kd.R_slice zb.out; subst eo20; obtain ⟨zz, zA, eo21⟩ := Kd.R_slice zc.out; subst eo21) | ((with_reducible refine gate_callee (f := 32) rfl ?_); refine goesL_ (some 14) rfl rfl Try.func32 (by kernel_rfl) rfl #[.agg #[.slice zx t1055.length zy, .slice zz t1058.length zA]] rfl (by (try simp only [List.map_toArray, List.map_cons, List.map_nil]); first | done | rfl | (simp only [List.length_drop, List.length_take]; rfl)) ?_; (with_reducible refine (spec_ShearPeriod.calls k _ _ t1055 _ _ t1058 t1061 _ ?side1 ?side2 ?side3 ?side4 A8.out).mono ?_); (case side1 => repeat (first | exact (Kd.R_reads' zb.out).2.2 | (with_reducible refine Kd.C_alloc ?_ _) | (with_reducible refine Kd.C_drewN ?_ _) | (with_reducible refine Kd.C_drew ?_))); (case side2 => exact (Kd.R_reads' zb.out).2.1); (case side3 => repeat (first | exact (Kd.R_reads' zc.out).2.2 | (with_reducible refine Kd.C_alloc ?_ _) | (with_reducible refine Kd.C_drewN ?_ _) | (with_reducible refine Kd.C_drew ?_))); (case side4 => exact (Kd.R_reads' zc.out).2.1); rintro e w22 ⟨rfl, hb⟩; refine ⟨_, rfl, ?_⟩; have n0_ := Aside0.mk (Kd.R_below (by (with_reducible repeat (first | apply Kd.R_alloc | apply Kd.R_drewN | apply Kd.R_drew)); exact zb.out) hb); have n1_ := Aside0.mk (Kd.R_below (by (with_reducible repeat (first | apply Kd.R_alloc | apply Kd.R_drewN | apply Kd.R_drew)); exact zc.out) hb); have n2_ := Aside0.mk (blk_below (g := ze) (o := .cells #[.slice A0_0 l0_0.length c0_0, .slice A0_1 l0_1.length c0_1] 24 (0, 0)) (by (with_reducible repeat (first | refine blk_drewN ?_ _ | refine blk_drew ?_ | refine blk_alloc ?_ _)); exact za.out) hb); have n3_ := Aside0.mk (below_step (by repeat (first | (with_reducible first | exact HB.out | apply below_alloc | apply pw_below_drewN | apply below_drew1 | refine below_set ?_ zk.out) | exact HB.out)) hb); clear zb; clear zc; clear za; clear HB; have zb := n0_; have zc := n1_; have za := n2_; have HB := n3_; clear n0_ n1_ n2_ n3_; (try clear hb); (try clear hb2); (try clear hk); (try clear hi); have hcz23_0 : w22.cell? ⟨ze, 0, none⟩ = some (.slice A0_0 l0_0.length c0_0) := (blk_cell za.out 0).trans rfl; have hcz23_1 : w22.cell? ⟨ze, 1, none⟩ = some (.slice A0_1 l0_1.length c0_1) := (blk_cell za.out 1).trans rfl; have hfz23_0 := blk_frozen za.out 0; have hfz23_1 := blk_frozen za.out 1) | ((with_reducible refine gate_callee (f := 14) rfl ?_); refine goesL_ (some 16) rfl rfl Try.func14 (by kernel_rfl) rfl #[.agg #[.slice A0_0 l0_0.length c0_0, .slice A0_1 l0_1.length c0_1]] rfl (by (try simp only [List.map_toArray, List.map_cons, List.map_nil]); first | done | rfl | (simp only [List.length_drop, List.length_take]; rfl)) ?_; (with_reducible refine (laws_toSurface.calls k _ _ l0_0 _ _ l0_1 t1062 t1065 _ ?side1 ?side2 ?side3 ?side4 A9.out).mono ?_); (case side1 => repeat (first | exact (Kd.C_below zt.out HB.out) | (with_reducible refine Kd.C_alloc ?_ _) | (with_reducible refine Kd.C_drewN ?_ _) | (with_reducible refine Kd.C_drew ?_))); (case side2 => exact zu.out); (case side3 => repeat (first | exact (Kd.C_below zv.out HB.out) | (with_reducible refine Kd.C_alloc ?_ _) | (with_reducible refine Kd.C_drewN ?_ _) | (with_reducible refine Kd.C_drew ?_))); (case side4 => exact zw.out); rintro e w24 ⟨v1063, v1066, rfl, ho0, ho1, hb⟩; refine ⟨_, rfl, ?_⟩; have n0_ := Aside0.mk (Kd.R_mono (Kd.R_told (Kd.R_told (Kd.R_old (by (with_reducible repeat (first | apply Kd.R_alloc | apply Kd.R_drewN | apply Kd.R_drew)); exact zb.out) hb) (Kd.R_base ho0)) (Kd.R_base ho1)) (fun _ h_ => h_.1)); have n1_ := Aside0.mk (Kd.R_mono (Kd.R_told (Kd.R_told (Kd.R_old (by (with_reducible repeat (first | apply Kd.R_alloc | apply Kd.R_drewN | apply Kd.R_drew)); exact zc.out) hb) (Kd.R_base ho0)) (Kd.R_base ho1)) (fun _ h_ => h_.1)); have n2_ := Aside0.mk (Kd.R_lower (Kd.R_new' (Kd.R_new' ho0 (Kd.R_lt (by (with_reducible repeat (first | apply Kd.R_alloc | apply Kd.R_drewN | apply Kd.R_drew)); exact zb.out))) (Kd.R_lt (by (with_reducible repeat (first | apply Kd.R_alloc | apply Kd.R_drewN | apply Kd.R_drew)); exact zc.out))) (below_size (by repeat (first | (with_reducible first | exact HB.out | apply below_alloc | apply pw_below_drewN | apply below_drew1 | refine below_set ?_ zk.out) | exact HB.out)))); have n3_ := Aside0.mk (Kd.R_lower (Kd.R_new' (Kd.R_new' ho1 (Kd.R_lt (by (with_reducible repeat (first | apply Kd.R_alloc | apply Kd.R_drewN | apply Kd.R_drew)); exact zb.out))) (Kd.R_lt (by (with_reducible repeat (first | apply Kd.R_alloc | apply Kd.R_drewN | apply Kd.R_drew)); exact zc.out))) (below_size (by repeat (first | (with_reducible first | exact HB.out | apply below_alloc | apply pw_below_drewN | apply below_drew1 | refine below_set ?_ zk.out) | exact HB.out)))); have n4_ := Aside0.mk (blk_below (g := ze) (o := .cells #[.slice A0_0 l0_0.length c0_0, .slice A0_1 l0_1.length c0_1] 24 (0, 0)) (by (with_reducible repeat (first | refine blk_drewN ?_ _ | refine blk_drew ?_ | refine blk_alloc ?_ _)); exact za.out) hb); have n5_ := Aside0.mk (below_step (by repeat (first | (with_reducible first | exact HB.out | apply below_alloc | apply pw_below_drewN | apply below_drew1 | refine below_set ?_ zk.out) | exact HB.out)) hb); clear zb; clear zc; clear za; clear HB; have zb := n0_; have zc := n1_; have zg := n2_; have zh := n3_; have za := n4_; have HB := n5_; clear n0_ n1_ n2_ n3_ n4_ n5_; (try clear hb); (try clear hb2); (try clear hk); (try clear hi); (try clear ho0); (try clear ho1)) | ((with_reducible refine gate_dst (N := 5) rfl ?_); refine box_event ?hg (N := 5) ?hd (cs := #[.slice none 0 0, .slice none 0 0]) (t := 27) ?hr ?_; (case hd => rfl); (case hg => rfl); (case hr => first | (go_simp; done) | (go_simp; rfl)); intro zi hg w25 hbox hb; have n0_ := Aside0.mk (Kd.R_below (by (with_reducible repeat (first | apply Kd.R_alloc | apply Kd.R_drewN | apply Kd.R_drew)); exact zb.out) hb); have n1_ := Aside0.mk (Kd.R_below (by (with_reducible repeat (first | apply Kd.R_alloc | apply Kd.R_drewN | apply Kd.R_drew)); exact zc.out) hb); have n2_ := Aside0.mk (Kd.R_below (by (with_reducible repeat (first | apply Kd.R_alloc | apply Kd.R_drewN | apply Kd.R_drew)); exact zg.out) hb); have n3_ := Aside0.mk (Kd.R_below (by (with_reducible repeat (first | apply Kd.R_alloc | apply Kd.R_drewN | apply Kd.R_drew)); exact zh.out) hb); have n4_ := Aside0.mk (blk_below (g := ze) (o := .cells #[.slice A0_0 l0_0.length c0_0, .slice A0_1 l0_1.length c0_1] 24 (0, 0)) (by (with_reducible repeat (first | refine blk_drewN ?_ _ | refine blk_drew ?_ | refine blk_alloc ?_ _)); exact za.out) hb); have n5_ := Aside0.mk (below_step (by repeat (first | (with_reducible first | exact HB.out | apply below_alloc | apply pw_below_drewN | apply below_drew1 | refine below_set ?_ zk.out) | exact HB.out)) hb); have n6_ := Aside0.mk (hbox); have n7_ := Aside0.mk ((by rw [hg]; exact (below_size (by repeat (first | (with_reducible first | exact HB.out | apply below_alloc | apply pw_below_drewN | apply below_drew1 | refine below_set ?_ zk.out) | exact HB.out))) : w.heap.size ≤ zi)); have n8_ := Aside0.mk ((by rw [hg]; exact (below_size (by repeat (first | (with_reducible first | exact HB.out | apply below_alloc | apply pw_below_drewN | apply below_drew1 | refine below_set ?_ zk.out) | exact HB.out))) : w.heap.size ≤ zi)); have n9_ := Aside0.mk ((by rw [hg]; exact Nat.ne_of_lt (blk_lt (g := ze) (o := .cells #[.slice A0_0 l0_0.length c0_0, .slice A0_1 l0_1.length c0_1] 24 (0, 0)) (by (with_reducible repeat (first | refine blk_drewN ?_ _ | refine blk_drew ?_ | refine blk_alloc ?_ _)); exact za.out)) : ze ≠ zi)); have n10_ := Aside0.mk ((by rw [hg]; exact Nat.ne_of_gt (blk_lt (g := ze) (o := .cells #[.slice A0_0 l0_0.length c0_0, .slice A0_1 l0_1.length c0_1] 24 (0, 0)) (by (with_reducible repeat (first | refine blk_drewN ?_ _ | refine blk_drew ?_ | refine blk_alloc ?_ _)); exact za.out)) : zi ≠ ze)); clear zb; clear zc; clear zg; clear zh; clear za; clear HB; have zb := n0_; have zc := n1_; have zg := n2_; have zh := n3_; have za := n4_; have HB := n5_; have zd := n6_; have GW1068 := n7_; have GE1068 := n8_; have zq := n9_; have NB1068_1053 := n10_; clear n0_ n1_ n2_ n3_ n4_ n5_ n6_ n7_ n8_ n9_ n10_; clear hb hbox hg; obtain ⟨zm, zl, eo26⟩ := Kd.R_slice zg.out; subst eo26; have hnb27 := NB1068_1053.out; have hnc27 := zq.out; have hcz28_0 : w25.cell? ⟨zi, 0, none⟩ = some (.slice none 0 0) := (blk_cell zd.out 0).trans rfl; have hcz28_1 : w25.cell? ⟨zi, 1, none⟩ = some (.slice none 0 0) := (blk_cell zd.out 1).trans rfl; have hfz28_0 := blk_frozen zd.out 0; have hfz28_1 := blk_frozen zd.out 1; obtain ⟨zo, zn, eo29⟩ := Kd.R_slice zh.out; subst eo29) | ((with_reducible refine gate_callee (f := 33) rfl ?_); refine goesL_ (some 18) rfl rfl Try.func33 (by kernel_rfl) rfl #[.agg #[.slice zm t1062.length zl, .slice zo t1065.length zn]] rfl (by (try simp only [List.map_toArray, List.map_cons, List.map_nil]); first | done | rfl | (simp only [List.length_drop, List.length_take]; rfl)) ?_; (with_reducible refine (impl_ShearPeriod.calls k _ _ t1062 _ _ t1065 t1069 _ ?side1 ?side2 ?side3 ?side4 A10.out).mono ?_); (case side1 => refine (Kd.R_reads' (e := 3) (base := w.heap.size) (ok := fun k_ => ((some k_ ≠ (.slice zo t1065.length zn : Value).ownBlock ∧ some k_ ≠ (.slice zx t1055.length zy : Value).ownBlock) ∧ some k_ ≠ (.slice zz t1058.length zA : Value).ownBlock)) (n := t1062.length) (c := zl) ?_).2.2; exact (by (with_reducible repeat (first | apply Kd.R_alloc | apply Kd.R_drewN | apply Kd.R_drew)); exact (Kd.R_mono (Kd.R_far (p := ⟨zi, 1, none⟩) (Kd.R_far (p := ⟨zi, 0, none⟩) (Kd.R_types zg.out zd.out (by decide)) (fun _ hk => hk.2) (.slice zm t1062.length zl)) (fun _ hk => hk.2) (.slice zo t1065.length zn)) (fun _ h_ => h_.1)))); (case side2 => exact (Kd.R_reads' zg.out).2.1); (case side3 => refine (Kd.R_reads' (e := 3) (base := w.heap.size) (ok := fun k_ => ((some k_ ≠ (.slice zm t1062.length zl : Value).ownBlock ∧ some k_ ≠ (.slice zx t1055.length zy : Value).ownBlock) ∧ some k_ ≠ (.slice zz t1058.length zA : Value).ownBlock)) (n := t1065.length) (c := zn) ?_).2.2; exact (by (with_reducible repeat (first | apply Kd.R_alloc | apply Kd.R_drewN | apply Kd.R_drew)); exact (Kd.R_mono (Kd.R_far (p := ⟨zi, 1, none⟩) (Kd.R_far (p := ⟨zi, 0, none⟩) (Kd.R_types zh.out zd.out (by decide)) (fun _ hk => hk.2) (.slice zm t1062.length zl)) (fun _ hk => hk.2) (.slice zo t1065.length zn)) (fun _ h_ => h_.1)))); (case side4 => exact (Kd.R_reads' zh.out).2.1); rintro e w30 ⟨rfl, hb⟩; refine ⟨_, rfl, ?_⟩; have n0_ := Aside0.mk (Kd.R_below (by (with_reducible repeat (first | apply Kd.R_alloc | apply Kd.R_drewN | apply Kd.R_drew)); exact (Kd.R_mono (Kd.R_far (p := ⟨zi, 1, none⟩) (Kd.R_far (p := ⟨zi, 0, none⟩) (Kd.R_types zb.out zd.out (by decide)) (fun _ hk => hk.2) (.slice zm t1062.length zl)) (fun _ hk => hk.2) (.slice zo t1065.length zn)) (fun _ h_ => h_.1))) hb); have n1_ := Aside0.mk (Kd.R_below (by (with_reducible repeat (first | apply Kd.R_alloc | apply Kd.R_drewN | apply Kd.R_drew)); exact (Kd.R_mono (Kd.R_far (p := ⟨zi, 1, none⟩) (Kd.R_far (p := ⟨zi, 0, none⟩) (Kd.R_types zc.out zd.out (by decide)) (fun _ hk => hk.2) (.slice zm t1062.length zl)) (fun _ hk => hk.2) (.slice zo t1065.length zn)) (fun _ h_ => h_.1))) hb); have n2_ := Aside0.mk (Kd.R_below (by (with_reducible repeat (first | apply Kd.R_alloc | apply Kd.R_drewN | apply Kd.R_drew)); exact (Kd.R_mono (Kd.R_far (p := ⟨zi, 1, none⟩) (Kd.R_far (p := ⟨zi, 0, none⟩) (Kd.R_types zg.out zd.out (by decide)) (fun _ hk => hk.2) (.slice zm t1062.length zl)) (fun _ hk => hk.2) (.slice zo t1065.length zn)) (fun _ h_ => h_.1))) hb); have n3_ := Aside0.mk (Kd.R_below (by (with_reducible repeat (first | apply Kd.R_alloc | apply Kd.R_drewN | apply Kd.R_drew)); exact (Kd.R_mono (Kd.R_far (p := ⟨zi, 1, none⟩) (Kd.R_far (p := ⟨zi, 0, none⟩) (Kd.R_types zh.out zd.out (by decide)) (fun _ hk => hk.2) (.slice zm t1062.length zl)) (fun _ hk => hk.2) (.slice zo t1065.length zn)) (fun _ h_ => h_.1))) hb); have n4_ := Aside0.mk (blk_below (g := ze) (o := .cells #[.slice A0_0 l0_0.length c0_0, .slice A0_1 l0_1.length c0_1] 24 (0, 0)) (by (with_reducible repeat (first | refine blk_drewN ?_ _ | refine blk_drew ?_ | refine blk_alloc ?_ _)); refine blk_far ?_ zq.out _; (with_reducible repeat (first | refine blk_drewN ?_ _ | refine blk_drew ?_ | refine blk_alloc ?_ _)); refine blk_far ?_ zq.out _; (with_reducible repeat (first | refine blk_drewN ?_ _ | refine blk_drew ?_ | refine blk_alloc ?_ _)); exact za.out) hb); have n5_ := Aside0.mk (blk_below (g := zi) (o := .cells #[.slice zm t1062.length zl, .slice zo t1065.length zn] 27 (0, 0)) (by (with_reducible repeat (first | refine blk_drewN ?_ _ | refine blk_drew ?_ | refine blk_alloc ?_ _)); refine blk_put (cs := #[.slice zm t1062.length zl, .slice none 0 0]) ?_ 1 _ rfl; (with_reducible repeat (first | refine blk_drewN ?_ _ | refine blk_drew ?_ | refine blk_alloc ?_ _)); refine blk_put (cs := #[.slice none 0 0, .slice none 0 0]) ?_ 0 _ rfl; (with_reducible repeat (first | refine blk_drewN ?_ _ | refine blk_drew ?_ | refine blk_alloc ?_ _)); exact zd.out) hb); have n6_ := Aside0.mk (below_step (by repeat (first | (with_reducible first | exact HB.out | apply below_alloc | apply pw_below_drewN | apply below_drew1 | refine below_set ?_ zk.out | refine below_set ?_ GE1068.out) | exact HB.out)) hb); clear zb; clear zc; clear zg; clear zh; clear za; clear zd; clear HB; have zb := n0_; have zc := n1_; have zg := n2_; have zh := n3_; have za := n4_; have zd := n5_; have HB := n6_; clear n0_ n1_ n2_ n3_ n4_ n5_ n6_; (try clear hb); (try clear hb2); (try clear hk); (try clear hi)))
    have n0_ := Aside0.mk (Kd.R_drew zb.out)
    have n1_ := Aside0.mk (Kd.R_drew zc.out)
    have n2_ := Aside0.mk (Kd.R_drew zg.out)
    have n3_ := Aside0.mk (Kd.R_drew zh.out)
    have n4_ := Aside0.mk (blk_drew za.out)
    have n5_ := Aside0.mk (blk_drew zd.out)
    have n6_ := Aside0.mk (below_drew1 HB.out)
    clear zb zc zg zh za zd HB
    have zb := n0_
    have zc := n1_
    have zg := n2_
    have zh := n3_
    have za := n4_
    have zd := n5_
    have HB := n6_
    clear n0_ n1_ n2_ n3_ n4_ n5_ n6_
    refine start_ (n := 5) (S := fun w' => w'.cell? ⟨zi, 0, none⟩ = some (.slice zm t1062.length zl) ∧ w'.cell? ⟨zi, 1, none⟩ = some (.slice zo t1065.length zn) ∧ w'.cell? ⟨ze, 0, none⟩ = some (.slice A0_0 l0_0.length c0_0) ∧ w'.cell? ⟨ze, 1, none⟩ = some (.slice A0_1 l0_1.length c0_1)) (ds := []) #[false, false, false, false, false] (by kernel_rfl) rfl rfl ⟨(blk_cell zd.out 0).trans rfl, (blk_cell zd.out 1).trans rfl, (blk_cell za.out 0).trans rfl, (blk_cell za.out 1).trans rfl⟩ (fun hHeld => ?_)
    generalize w30.drew = w31 at zb zc zg zh za zd HB hHeld ⊢
    refine take_ (i := 0) (N := some 22) (v := ?_) (a' := ?_) #[true, false, false, false, false] rfl rfl (by kernel_rfl) (fun _ _ _ h => h) (Or.inl ⟨by rfl, ?_⟩) hHeld ?_ ?_
    rotate_left
    ·rintro w' ⟨s0, s1, s2, s3⟩
     go_simp
     with_reducible rfl
    rotate_left
    ·simp only [Act.put, List.setIfInBounds_toArray, List.set_cons_zero, List.set_cons_succ, i64_w, i32_w]
     rfl
    refine take_ (i := 1) (N := some 23) (v := ?_) (a' := ?_) #[true, true, false, false, false] rfl rfl (by kernel_rfl) (fun _ _ _ h => h) (Or.inl ⟨by rfl, ?_⟩) hHeld ?_ ?_
    rotate_left
    ·rintro w' ⟨s0, s1, s2, s3⟩
     go_simp
     with_reducible rfl
    rotate_left
    ·simp only [Act.put, List.setIfInBounds_toArray, List.set_cons_zero, List.set_cons_succ, i64_w, i32_w]
     rfl
    refine one_ (i := 2) (N := some 24) #[true, true, true, false, false] rfl rfl (by kernel_rfl) (by decide) (fun K hK => ?_)
    refine goes_ Try.func14 (by kernel_rfl) rfl #[.agg #[.slice A0_0 l0_0.length c0_0, .slice A0_1 l0_1.length c0_1]] (by rfl) rfl rfl (by (try simp only [List.map_toArray, List.map_cons, List.map_nil]); first | done | rfl | (simp only [List.length_drop, List.length_take]; rfl)) ?_
    with_reducible refine (laws_toSurface.calls k _ _ l0_0 _ _ l0_1 t1070 t1073 _ ?side1 ?side2 ?side3 ?side4 A12.out).mono ?_
    (case side1 => repeat (first | exact (Kd.C_below zt.out HB.out) | (with_reducible refine Kd.C_alloc ?_ _) | (with_reducible refine Kd.C_drewN ?_ _) | (with_reducible refine Kd.C_drew ?_)))
    (case side2 => exact zu.out)
    (case side3 => repeat (first | exact (Kd.C_below zv.out HB.out) | (with_reducible refine Kd.C_alloc ?_ _) | (with_reducible refine Kd.C_drewN ?_ _) | (with_reducible refine Kd.C_drew ?_)))
    (case side4 => exact zw.out)
    rintro e w32 ⟨v1071, v1074, rfl, ho0, ho1, hb⟩
    refine ⟨_, rfl, ?_⟩
    have n0_ := Aside0.mk (Kd.R_mono (Kd.R_told (Kd.R_told (Kd.R_old (zb.out) hb) (Kd.R_base ho0)) (Kd.R_base ho1)) (fun _ h_ => h_.1))
    have n1_ := Aside0.mk (Kd.R_mono (Kd.R_told (Kd.R_told (Kd.R_old (zc.out) hb) (Kd.R_base ho0)) (Kd.R_base ho1)) (fun _ h_ => h_.1))
    have n2_ := Aside0.mk (Kd.R_mono (Kd.R_told (Kd.R_told (Kd.R_old (zg.out) hb) (Kd.R_base ho0)) (Kd.R_base ho1)) (fun _ h_ => h_.1))
    have n3_ := Aside0.mk (Kd.R_mono (Kd.R_told (Kd.R_told (Kd.R_old (zh.out) hb) (Kd.R_base ho0)) (Kd.R_base ho1)) (fun _ h_ => h_.1))
    have n4_ := Aside0.mk (Kd.R_lower (Kd.R_new' (Kd.R_new' (Kd.R_new' (Kd.R_new' ho0 (Kd.R_lt (zb.out))) (Kd.R_lt (zc.out))) (Kd.R_lt (zg.out))) (Kd.R_lt (zh.out))) (below_size (HB.out)))
    have n5_ := Aside0.mk (Kd.R_lower (Kd.R_new' (Kd.R_new' (Kd.R_new' (Kd.R_new' ho1 (Kd.R_lt (zb.out))) (Kd.R_lt (zc.out))) (Kd.R_lt (zg.out))) (Kd.R_lt (zh.out))) (below_size (HB.out)))
    have n6_ := Aside0.mk (blk_below (g := ze) (o := .cells #[.slice A0_0 l0_0.length c0_0, .slice A0_1 l0_1.length c0_1] 24 (0, 0)) (za.out) hb)
    have n7_ := Aside0.mk (blk_below (g := zi) (o := .cells #[.slice zm t1062.length zl, .slice zo t1065.length zn] 27 (0, 0)) (zd.out) hb)
    have n8_ := Aside0.mk (below_step (HB.out) hb)
    clear zb zc zg zh za zd HB
    have zb := n0_
    have zc := n1_
    have zg := n2_
    have zh := n3_
    have zr := n4_
    have zs := n5_
    have za := n6_
    have zd := n7_
    have HB := n8_
    clear n0_ n1_ n2_ n3_ n4_ n5_ n6_ n7_ n8_
    (try clear hb)
    (try clear hb2)
    (try clear hk)
    (try clear hi)
    (try clear ho0)
    (try clear ho1)
    obtain ⟨Ao33, co33, eo33⟩ := Kd.R_slice zr.out
    (first | subst eo33 | (injection eo33 with f1_ f2_ f3_; have f4_ := f1_.symm; have f5_ := f3_.symm; clear f1_ f2_ f3_; subst f4_; subst f5_))
    obtain ⟨Ao34, co34, eo34⟩ := Kd.R_slice zs.out
    (first | subst eo34 | (injection eo34 with f1_ f2_ f3_; have f4_ := f1_.symm; have f5_ := f3_.symm; clear f1_ f2_ f3_; subst f4_; subst f5_))
    refine hK.out _ _ ⟨(blk_cell zd.out 0).trans rfl, (blk_cell zd.out 1).trans rfl, (blk_cell za.out 0).trans rfl, (blk_cell za.out 1).trans rfl⟩ (fun hHeld => ?_)
    clear hK K
    refine norm_ (a' := ?_) ?_ ?_
    rotate_left
    ·show Act.put _ (some 24) _ = _
     simp only [Act.put, List.setIfInBounds_toArray, List.set_cons_zero, List.set_cons_succ, i64_w, i32_w]
     rfl
    refine one_ (i := 3) (N := some 25) #[true, true, true, true, false] rfl rfl (by kernel_rfl) (by decide) (fun K hK => ?_)
    refine goes_ Try.func16 (by kernel_rfl) rfl #[.agg #[.slice zm t1062.length zl, .slice zo t1065.length zn], .agg #[.slice Ao33 t1070.length co33, .slice Ao34 t1073.length co34]] (by rfl) rfl rfl (by (try simp only [List.map_toArray, List.map_cons, List.map_nil]); first | done | rfl | (simp only [List.length_drop, List.length_take]; rfl)) ?_
    with_reducible refine (laws_eqSurface.calls k _ _ t1062 _ _ t1065 _ _ t1070 _ _ t1073 true _ ?side1 ?side2 ?side3 ?side4 ?side5 ?side6 ?side7 ?side8 A13.out).mono ?_
    (case side1 => repeat (first | exact (Kd.R_reads' zg.out).2.2 | (with_reducible refine Kd.C_alloc ?_ _) | (with_reducible refine Kd.C_drewN ?_ _) | (with_reducible refine Kd.C_drew ?_)))
    (case side2 => exact (Kd.R_reads' zg.out).2.1)
    (case side3 => repeat (first | exact (Kd.R_reads' zh.out).2.2 | (with_reducible refine Kd.C_alloc ?_ _) | (with_reducible refine Kd.C_drewN ?_ _) | (with_reducible refine Kd.C_drew ?_)))
    (case side4 => exact (Kd.R_reads' zh.out).2.1)
    (case side5 => repeat (first | exact (Kd.R_reads' zr.out).2.2 | (with_reducible refine Kd.C_alloc ?_ _) | (with_reducible refine Kd.C_drewN ?_ _) | (with_reducible refine Kd.C_drew ?_)))
    (case side6 => exact (Kd.R_reads' zr.out).2.1)
    (case side7 => repeat (first | exact (Kd.R_reads' zs.out).2.2 | (with_reducible refine Kd.C_alloc ?_ _) | (with_reducible refine Kd.C_drewN ?_ _) | (with_reducible refine Kd.C_drew ?_)))
    (case side8 => exact (Kd.R_reads' zs.out).2.1)
    rintro e w35 ⟨rfl, hb⟩
    refine ⟨_, rfl, ?_⟩
    have n0_ := Aside0.mk (Kd.R_below (zb.out) hb)
    have n1_ := Aside0.mk (Kd.R_below (zc.out) hb)
    have n2_ := Aside0.mk (Kd.R_below (zg.out) hb)
    have n3_ := Aside0.mk (Kd.R_below (zh.out) hb)
    have n4_ := Aside0.mk (Kd.R_below (zr.out) hb)
    have n5_ := Aside0.mk (Kd.R_below (zs.out) hb)
    have n6_ := Aside0.mk (blk_below (g := ze) (o := .cells #[.slice A0_0 l0_0.length c0_0, .slice A0_1 l0_1.length c0_1] 24 (0, 0)) (za.out) hb)
    have n7_ := Aside0.mk (blk_below (g := zi) (o := .cells #[.slice zm t1062.length zl, .slice zo t1065.length zn] 27 (0, 0)) (zd.out) hb)
    have n8_ := Aside0.mk (below_step (HB.out) hb)
    clear zb zc zg zh zr zs za zd HB
    have zb := n0_
    have zc := n1_
    have zg := n2_
    have zh := n3_
    have zr := n4_
    have zs := n5_
    have za := n6_
    have zd := n7_
    have HB := n8_
    clear n0_ n1_ n2_ n3_ n4_ n5_ n6_ n7_ n8_
    (try clear hb)
    (try clear hb2)
    (try clear hk)
    (try clear hi)
    refine hK.out _ _ ⟨(blk_cell zd.out 0).trans rfl, (blk_cell zd.out 1).trans rfl, (blk_cell za.out 0).trans rfl, (blk_cell za.out 1).trans rfl⟩ (fun hHeld => ?_)
    clear hK K
    refine norm_ (a' := ?_) ?_ ?_
    rotate_left
    ·show Act.put _ (some 25) _ = _
     simp only [Act.put, List.setIfInBounds_toArray, List.set_cons_zero, List.set_cons_succ, i64_w, i32_w]
     rfl
    refine pure_ (i := 4) (N := some 26) (v := ?_) (a' := ?_) #[true, true, true, true, true] rfl rfl (by kernel_rfl) (fun _ _ _ h => h) (Or.inl ⟨by rfl, ?_⟩) ?_ ?_
    rotate_left
    ·intro w'
     go_simp
     with_reducible rfl
    rotate_left
    ·simp only [Act.put, List.setIfInBounds_toArray, List.set_cons_zero, List.set_cons_succ, i64_w, i32_w]
     rfl
    refine done_ (by kernel_rfl) ?_
    try go_wp2
    go_ret
    exact ⟨by first | rfl | (simp [errW_none, errW_some] <;> rfl) | (simp [*, errW_none, errW_some] <;> rfl), HB.out⟩
   ·replace c14 := Bool.eq_false_iff.mpr c14
    subst c14
    have H1 : (some false) = some true := by rw [if_neg (show ¬ (false = true) by decide)] at H; exact H
    clear H
    have H := H1
    clear H1
    exact absurd H (by simp)
  ·rw [if_neg c11] at H
   have c11b0 : (t1069 == t1061) = false := beq_eq_false_iff_ne.mpr c11
   have c11b1 : (t1069 != t1061) = true := bne_iff_ne.mpr c11
   exact absurd H (by simp)

/-- The pure statement of laws_FnExactShearPeriod. -/
def laws_FnExactShearPeriod.Pure : Prop := ∀ (l0_0 : List Int) (l0_1 : List Int), l0_0.length ≤ maxLen → (∀ x ∈ l0_0, (Lit.int .i64 x).wf = true) → l0_1.length ≤ maxLen → (∀ x ∈ l0_1, (Lit.int .i64 x).wf = true) → ∃ k, laws_FnExactShearPeriod.f k l0_0 l0_1 = some true
theorem laws_FnExactShearPeriod.walk (P : laws_FnExactShearPeriod.Pure) (a0_0 : Option Addr) (len0_0 cap0_0 : Nat) (z0_0 : List Int) (a0_1 : Option Addr) (len0_1 cap0_1 : Nat) (z0_1 : List Int) (w : World) (w0_0 : ((a0_0 = none ∧ len0_0 = 0 ∧ cap0_0 = 0 ∧ z0_0 = []) ∨ ∃ x, a0_0 = some x ∧ len0_0 ≤ cap0_0 ∧ cap0_0 ≤ maxLen ∧ z0_0.length = cap0_0 ∧ (∀ i, i < z0_0.length → w.cell? (x.add i) = some (.int .i64 (z0_0.getD i 0))) ∧ ∀ n ∈ z0_0, (Lit.int .i64 n).wf = true)) (w0_1 : ((a0_1 = none ∧ len0_1 = 0 ∧ cap0_1 = 0 ∧ z0_1 = []) ∨ ∃ x, a0_1 = some x ∧ len0_1 ≤ cap0_1 ∧ cap0_1 ≤ maxLen ∧ z0_1.length = cap0_1 ∧ (∀ i, i < z0_1.length → w.cell? (x.add i) = some (.int .i64 (z0_1.getD i 0))) ∧ ∀ n ∈ z0_1, (Lit.int .i64 n).wf = true)) :
  Calls Try.prog 9 #[.agg #[.slice a0_0 len0_0 cap0_0, .slice a0_1 len0_1 cap0_1]] w fun e w' => e = .returned (.bool true) ∧ Below w.heap.size w w' := by
 obtain ⟨l0_0, rfl, hr0_0, hm0_0, hw0_0, hc0_0⟩ := ReadsInt.ofRowC w0_0
 obtain ⟨l0_1, rfl, hr0_1, hm0_1, hw0_1, hc0_1⟩ := ReadsInt.ofRowC w0_1
 obtain ⟨k, h⟩ := P l0_0 l0_1 hm0_0 hw0_0 hm0_1 hw0_1
 refine (laws_FnExactShearPeriod.calls_true k _ _ l0_0 _ _ l0_1 w (Kd.C_of_reads (d := (0 : Int)) (h1 := fun _ => rfl) hr0_0) hc0_0 (Kd.C_of_reads (d := (0 : Int)) (h1 := fun _ => rfl) hr0_1) hc0_1 h).mono ?_
 rintro e w' ⟨rfl, hd⟩
 exact ⟨rfl, hd⟩

end Go.Proofs.Ytlohmpgbjgidpad.P
