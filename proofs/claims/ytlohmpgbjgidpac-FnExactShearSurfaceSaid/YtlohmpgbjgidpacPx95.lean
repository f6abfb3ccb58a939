-- MADE by this project's printer (wip/mk) out of the translation; Lean checks it.
import Derived.Test.YtlohmpgbjgidpacPx0
import Derived.Test.YtlohmpgbjgidpacPx2
import Derived.Test.YtlohmpgbjgidpacPx11
import Derived.Test.YtlohmpgbjgidpacPx17
import Derived.Test.YtlohmpgbjgidpacPx69
import Derived.Test.YtlohmpgbjgidpacPx75
import Derived.Test.YtlohmpgbjgidpacPx93
import Derived.Test.YtlohmpgbjgidpacPx94
namespace Go.Proofs.Ytlohmpgbjgidpac.P
open Go.RowKit Go.Proofs.YtlohmpgbjgidpacW.PrintWords Go.Proofs.YtlohmpgbjgidpacW.PrintLast Go.Proofs.YtlohmpgbjgidpacW.PrintMore
attribute [local go_sem] max2_int min2_int max_two min_two max_three min_three max_four min_four   -- for this text's walks alone
set_option linter.unusedVariables false
set_option linter.unusedSimpArgs false

/-! ### laws_FnExactShearSurface: function 14 -/
mutual
def laws_FnExactShearSurface.j0 : Nat → Bool → Bool → Bool → List Int → List Int → List Int → List Int → List Int → List Int → List Int → List Int → Option (Bool)
  | 0, _, _, _, _, _, _, _, _, _, _, _ => none
  | k + 1, x5, x8, x40, x1090000, x1090001, x1105000, x1105001, x1112000, x1112001, x1120000, x1120001 => if x40 = true then (some false) else ((laws_toSurface.f k x1090000 x1090001).bind fun bt1121 => ((laws_eqSurface.f k x1112000 x1112001 bt1121.1 bt1121.2).bind fun t1127 => (if t1127 = true then ((laws_markSurface.f k x1112000 x1112001 1).bind fun bt1128 => (if bt1128.1 < 0 then (laws_FnExactShearSurface.j1 k x5 true x1090000 x1090001 x1105000 x1105001 x1120000 x1120001) else ((laws_eqSurface.f k x1120000 x1120001 x1105000 x1105001).bind fun t1131 => (if t1131 = true then (laws_FnExactShearSurface.j1 k x5 (x8 != x5) x1090000 x1090001 x1105000 x1105001 x1120000 x1120001) else (laws_FnExactShearSurface.j1 k x5 true x1090000 x1090001 x1105000 x1105001 x1120000 x1120001))))) else (some false))))
def laws_FnExactShearSurface.j1 : Nat → Bool → Bool → List Int → List Int → List Int → List Int → List Int → List Int → Option (Bool)
  | 0, _, _, _, _, _, _, _, _ => none
  | k + 1, x5, x61, x1090000, x1090001, x1105000, x1105001, x1120000, x1120001 => if x61 = true then (some false) else ((laws_markSurface.f k x1120000 x1120001 1).bind fun bt1132 => ((laws_heldSurface.f k bt1132.2.1 bt1132.2.2 1).bind fun t1135 => (if t1135 < 0 then (some false) else (if t1135 = bt1132.1 then ((laws_toSurface.f k x1090000 x1090001).bind fun bt1136 => ((impl_ShearSurface.f k bt1136.1 bt1136.2).bind fun bt1142 => ((laws_eqSurface.f k bt1142.1 bt1142.2.1 x1105000 x1105001).bind fun t1150 => (if t1150 = true then (laws_FnExactShearSurface.j2 k bt1132.1 (bt1142.2.2 != x5) bt1132.2.1 bt1132.2.2) else (laws_FnExactShearSurface.j2 k bt1132.1 true bt1132.2.1 bt1132.2.2))))) else (some false)))))
def laws_FnExactShearSurface.j2 : Nat → Int → Bool → List Int → List Int → Option (Bool)
  | 0, _, _, _, _ => none
  | k + 1, x10, x87, x1120000, x1120001 => if x87 = true then (some false) else ((laws_heldSurface.f k x1120000 x1120001 1).bind fun t1151 => (if t1151 < 0 then (some false) else (if t1151 = x10 then (some true) else (some false))))
end
def laws_FnExactShearSurface.f (k : Nat) (l0_0 : List Int) (l0_1 : List Int) : Option (Bool) := (laws_szSurface.f l0_0 l0_1 1048576).bind fun t1090 => (if t1090 < 0 then (some true) else ((laws_toSurface.f k l0_0 l0_1).bind fun bt1091 => ((spec_ShearSurface.f k bt1091.1 bt1091.2).bind fun bt1097 => ((laws_toSurface.f k l0_0 l0_1).bind fun bt1105 => ((impl_ShearSurface.f k bt1105.1 bt1105.2).bind fun bt1112 => ((laws_eqSurface.f k bt1112.1 bt1112.2.1 bt1097.1 bt1097.2.1).bind fun t1120 => (if t1120 = true then (laws_FnExactShearSurface.j0 k bt1097.2.2 bt1112.2.2 (bt1112.2.2 != bt1097.2.2) l0_0 l0_1 bt1097.1 bt1097.2.1 bt1105.1 bt1105.2 bt1112.1 bt1112.2.1) else (laws_FnExactShearSurface.j0 k bt1097.2.2 bt1112.2.2 true l0_0 l0_1 bt1097.1 bt1097.2.1 bt1105.1 bt1105.2 bt1112.1 bt1112.2.1))))))))
theorem laws_FnExactShearSurface.mono_l : ∀ k, (∀ y0 y1 y2 y3 y4 y5 y6 y7 y8 y9 y10, LeO (laws_FnExactShearSurface.j0 k y0 y1 y2 y3 y4 y5 y6 y7 y8 y9 y10) (laws_FnExactShearSurface.j0 (k + 1) y0 y1 y2 y3 y4 y5 y6 y7 y8 y9 y10)) ∧ (∀ y0 y1 y2 y3 y4 y5 y6 y7, LeO (laws_FnExactShearSurface.j1 k y0 y1 y2 y3 y4 y5 y6 y7) (laws_FnExactShearSurface.j1 (k + 1) y0 y1 y2 y3 y4 y5 y6 y7)) ∧ (∀ y0 y1 y2 y3, LeO (laws_FnExactShearSurface.j2 k y0 y1 y2 y3) (laws_FnExactShearSurface.j2 (k + 1) y0 y1 y2 y3))
  | 0 => ⟨fun _ _ _ _ _ _ _ _ _ _ _ r h => by simp [laws_FnExactShearSurface.j0] at h, fun _ _ _ _ _ _ _ _ r h => by simp [laws_FnExactShearSurface.j1] at h, fun _ _ _ _ r h => by simp [laws_FnExactShearSurface.j2] at h⟩
  | k + 1 => by
    obtain ⟨ih0, ih1, ih2⟩ := laws_FnExactShearSurface.mono_l k
    refine ⟨?_, ?_, ?_⟩
    · intro y0 y1 y2 y3 y4 y5 y6 y7 y8 y9 y10
      unfold laws_FnExactShearSurface.j0
      repeat' first
      | (with_reducible exact ih0 _ _ _ _ _ _ _ _ _ _ _)
      | (with_reducible exact ih1 _ _ _ _ _ _ _ _)
      | (with_reducible exact ih2 _ _ _ _)
      | (with_reducible exact impl_ShearSurface.mono _ _ _)
      | (with_reducible exact laws_eqSurface.mono _ _ _ _ _)
      | (with_reducible exact laws_heldSurface.mono _ _ _ _)
      | (with_reducible exact laws_markSurface.mono _ _ _ _)
      | (with_reducible exact laws_toSurface.mono _ _ _)
      | (with_reducible exact spec_ShearSurface.mono _ _ _)
      | (with_reducible exact LeO.refl _)
      | (with_reducible exact LeO.none _)
      | (with_reducible refine LeO.ite ?_ ?_)
      | (with_reducible refine LeO.bind ?_ (fun _ => ?_))
      | exact ih0 _ _ _ _ _ _ _ _ _ _ _
      | exact ih1 _ _ _ _ _ _ _ _
      | exact ih2 _ _ _ _
      | exact impl_ShearSurface.mono _ _ _
      | exact laws_eqSurface.mono _ _ _ _ _
      | exact laws_heldSurface.mono _ _ _ _
      | exact laws_markSurface.mono _ _ _ _
      | exact laws_toSurface.mono _ _ _
      | exact spec_ShearSurface.mono _ _ _
      | exact LeO.none _
      | refine LeO.ite ?_ ?_
      | refine LeO.bind ?_ (fun _ => ?_)
    · intro y0 y1 y2 y3 y4 y5 y6 y7
      unfold laws_FnExactShearSurface.j1
      repeat' first
      | (with_reducible exact ih0 _ _ _ _ _ _ _ _ _ _ _)
      | (with_reducible exact ih1 _ _ _ _ _ _ _ _)
      | (with_reducible exact ih2 _ _ _ _)
      | (with_reducible exact impl_ShearSurface.mono _ _ _)
      | (with_reducible exact laws_eqSurface.mono _ _ _ _ _)
      | (with_reducible exact laws_heldSurface.mono _ _ _ _)
      | (with_reducible exact laws_markSurface.mono _ _ _ _)
      | (with_reducible exact laws_toSurface.mono _ _ _)
      | (with_reducible exact spec_ShearSurface.mono _ _ _)
      | (with_reducible exact LeO.refl _)
      | (with_reducible exact LeO.none _)
      | (with_reducible refine LeO.ite ?_ ?_)
      | (with_reducible refine LeO.bind ?_ (fun _ => ?_))
      | exact ih0 _ _ _ _ _ _ _ _ _ _ _
      | exact ih1 _ _ _ _ _ _ _ _
      | exact ih2 _ _ _ _
      | exact impl_ShearSurface.mono _ _ _
      | exact laws_eqSurface.mono _ _ _ _ _
      | exact laws_heldSurface.mono _ _ _ _
      | exact laws_markSurface.mono _ _ _ _
      | exact laws_toSurface.mono _ _ _
      | exact spec_ShearSurface.mono _ _ _
      | exact LeO.none _
      | refine LeO.ite ?_ ?_
      | refine LeO.bind ?_ (fun _ => ?_)
    · intro y0 y1 y2 y3
      unfold laws_FnExactShearSurface.j2
      repeat' first
      | (with_reducible exact ih0 _ _ _ _ _ _ _ _ _ _ _)
      | (with_reducible exact ih1 _ _ _ _ _ _ _ _)
      | (with_reducible exact ih2 _ _ _ _)
      | (with_reducible exact impl_ShearSurface.mono _ _ _)
      | (with_reducible exact laws_eqSurface.mono _ _ _ _ _)
      | (with_reducible exact laws_heldSurface.mono _ _ _ _)
      | (with_reducible exact laws_markSurface.mono _ _ _ _)
      | (with_reducible exact laws_toSurface.mono _ _ _)
      | (with_reducible exact spec_ShearSurface.mono _ _ _)
      | (with_reducible exact LeO.refl _)
      | (with_reducible exact LeO.none _)
      | (with_reducible refine LeO.ite ?_ ?_)
      | (with_reducible refine LeO.bind ?_ (fun _ => ?_))
      | exact ih0 _ _ _ _ _ _ _ _ _ _ _
      | exact ih1 _ _ _ _ _ _ _ _
      | exact ih2 _ _ _ _
      | exact impl_ShearSurface.mono _ _ _
      | exact laws_eqSurface.mono _ _ _ _ _
      | exact laws_heldSurface.mono _ _ _ _
      | exact laws_markSurface.mono _ _ _ _
      | exact laws_toSurface.mono _ _ _
      | exact spec_ShearSurface.mono _ _ _
      | exact LeO.none _
      | refine LeO.ite ?_ ?_
      | refine LeO.bind ?_ (fun _ => ?_)
theorem laws_FnExactShearSurface.mono : ∀ a0 a1 k, LeO (laws_FnExactShearSurface.f k a0 a1) (laws_FnExactShearSurface.f (k + 1) a0 a1) := by
  intro a0 a1 k
  obtain ⟨ih0, ih1, ih2⟩ := laws_FnExactShearSurface.mono_l k
  unfold laws_FnExactShearSurface.f
  repeat' first
      | (with_reducible exact ih0 _ _ _ _ _ _ _ _ _ _ _)
      | (with_reducible exact ih1 _ _ _ _ _ _ _ _)
      | (with_reducible exact ih2 _ _ _ _)
      | (with_reducible exact impl_ShearSurface.mono _ _ _)
      | (with_reducible exact laws_eqSurface.mono _ _ _ _ _)
      | (with_reducible exact laws_heldSurface.mono _ _ _ _)
      | (with_reducible exact laws_markSurface.mono _ _ _ _)
      | (with_reducible exact laws_toSurface.mono _ _ _)
      | (with_reducible exact spec_ShearSurface.mono _ _ _)
      | (with_reducible exact LeO.refl _)
      | (with_reducible exact LeO.none _)
      | (with_reducible refine LeO.ite ?_ ?_)
      | (with_reducible refine LeO.bind ?_ (fun _ => ?_))
      | exact ih0 _ _ _ _ _ _ _ _ _ _ _
      | exact ih1 _ _ _ _ _ _ _ _
      | exact ih2 _ _ _ _
      | exact impl_ShearSurface.mono _ _ _
      | exact laws_eqSurface.mono _ _ _ _ _
      | exact laws_heldSurface.mono _ _ _ _
      | exact laws_markSurface.mono _ _ _ _
      | exact laws_toSurface.mono _ _ _
      | exact spec_ShearSurface.mono _ _ _
      | exact LeO.none _
      | refine LeO.ite ?_ ?_
      | refine LeO.bind ?_ (fun _ => ?_)
set_option maxHeartbeats 8000000 in
set_option maxRecDepth 100000 in
theorem laws_FnExactShearSurface.calls_true (k : Nat) (A0_0 : Option Addr) (c0_0 : Nat) (l0_0 : List Int) (A0_1 : Option Addr) (c0_1 : Nat) (l0_1 : List Int) (w : World) (hr0_0 : Kd.C (Kd.int .i64) w A0_0 l0_0.length l0_0) (hc0_0 : l0_0.length ≤ c0_0) (hr0_1 : Kd.C (Kd.int .i64) w A0_1 l0_1.length l0_1) (hc0_1 : l0_1.length ≤ c0_1) (h : laws_FnExactShearSurface.f k l0_0 l0_1 = some true) :
    Calls Try.prog 14 #[.agg #[.slice A0_0 l0_0.length c0_0, .slice A0_1 l0_1.length c0_1]] w fun e w' => e = .returned (.bool true) ∧ Below w.heap.size w w' := by
  have hu24 := Try.underlying24
  have hu27 := Try.underlying27
  have HR0_0 := Aside0.mk hr0_0
  have HC0_0 := Aside0.mk hc0_0
  clear hr0_0 hc0_0
  have HR0_1 := Aside0.mk hr0_1
  have HC0_1 := Aside0.mk hc0_1
  clear hr0_1 hc0_1
  have HB := Aside0.mk (Below.refl w.heap.size w)
  have H : ((laws_szSurface.f l0_0 l0_1 1048576).bind fun t1090 => (if t1090 < 0 then (some true) else ((laws_toSurface.f k l0_0 l0_1).bind fun bt1091 => ((spec_ShearSurface.f k bt1091.1 bt1091.2).bind fun bt1097 => ((laws_toSurface.f k l0_0 l0_1).bind fun bt1105 => ((impl_ShearSurface.f k bt1105.1 bt1105.2).bind fun bt1112 => ((laws_eqSurface.f k bt1112.1 bt1112.2.1 bt1097.1 bt1097.2.1).bind fun t1120 => (if t1120 = true then (laws_FnExactShearSurface.j0 k bt1097.2.2 bt1112.2.2 (bt1112.2.2 != bt1097.2.2) l0_0 l0_1 bt1097.1 bt1097.2.1 bt1105.1 bt1105.2 bt1112.1 bt1112.2.1) else (laws_FnExactShearSurface.j0 k bt1097.2.2 bt1112.2.2 true l0_0 l0_1 bt1097.1 bt1097.2.1 bt1105.1 bt1105.2 bt1112.1 bt1112.2.1))))))))) = some true := h
  clear h
  replace H := Option.bind_eq_some_iff.mp H
  obtain ⟨t1090, A20, H⟩ := H
  replace H : (if t1090 < 0 then (some true) else ((laws_toSurface.f k l0_0 l0_1).bind fun bt1091 => ((spec_ShearSurface.f k bt1091.1 bt1091.2).bind fun bt1097 => ((laws_toSurface.f k l0_0 l0_1).bind fun bt1105 => ((impl_ShearSurface.f k bt1105.1 bt1105.2).bind fun bt1112 => ((laws_eqSurface.f k bt1112.1 bt1112.2.1 bt1097.1 bt1097.2.1).bind fun t1120 => (if t1120 = true then (laws_FnExactShearSurface.j0 k bt1097.2.2 bt1112.2.2 (bt1112.2.2 != bt1097.2.2) l0_0 l0_1 bt1097.1 bt1097.2.1 bt1105.1 bt1105.2 bt1112.1 bt1112.2.1) else (laws_FnExactShearSurface.j0 k bt1097.2.2 bt1112.2.2 true l0_0 l0_1 bt1097.1 bt1097.2.1 bt1105.1 bt1105.2 bt1112.1 bt1112.2.1)))))))) = some true := H
  have A2 := Aside0.mk A20
  clear A20
  by_cases c3 : t1090 < 0
  · rw [if_pos c3] at H
    have c3b0 : decide (t1090 < 0) = true := decide_eq_true c3
    clear c3
    go_enter Try.func14, Try.ntmps14
    go_wp2_with (first | ((with_reducible refine gate_dst (N := 1) rfl ?_); refine box_event ?hg (N := 1) ?hd (cs := #[.slice A0_0 l0_0.length c0_0, .slice A0_1 l0_1.length c0_1]) (t := 24) ?hr ?_; (case hd => rfl); (case hg => rfl); (case hr => first | (go_simp; done) | (go_simp; rfl)); intro gb1089 hg w4 hbox hb; have n0_ := Aside0.mk (below_step (by repeat (first | (with_reducible first | exact HB.out | apply below_alloc | apply pw_below_drewN | apply below_drew1) | exact HB.out)) hb); have n1_ := Aside0.mk (hbox); have n2_ := Aside0.mk ((by rw [hg]; exact (below_size (by repeat (first | (with_reducible first | exact HB.out | apply below_alloc | apply pw_below_drewN | apply below_drew1) | exact HB.out))) : w.heap.size ≤ gb1089)); have n3_ := Aside0.mk ((by rw [hg]; exact (below_size (by repeat (first | (with_reducible first | exact HB.out | apply below_alloc | apply pw_below_drewN | apply below_drew1) | exact HB.out))) : w.heap.size ≤ gb1089)); clear HB; have HB := n0_; have BK1089 := n1_; have GW1089 := n2_; have GE1089 := n3_; clear n0_ n1_ n2_ n3_; clear hb hbox hg; have hcz5_0 : w4.cell? ⟨gb1089, 0, none⟩ = some (.slice A0_0 l0_0.length c0_0) := (blk_cell BK1089.out 0).trans rfl; have hcz5_1 : w4.cell? ⟨gb1089, 1, none⟩ = some (.slice A0_1 l0_1.length c0_1) := (blk_cell BK1089.out 1).trans rfl; have hfz5_0 := blk_frozen BK1089.out 0; have hfz5_1 := blk_frozen BK1089.out 1) | ((with_reducible refine gate_callee (f := 15) rfl ?_); refine goesL_ (some 16) rfl rfl Try.func15 (by kernel_rfl) rfl #[.agg #[.slice A0_0 l0_0.length c0_0, .slice A0_1 l0_1.length c0_1], .int .i64 1048576] rfl (by (try simp only [List.map_toArray, List.map_cons, List.map_nil]); first | done | rfl | (simp only [List.length_drop, List.length_take]; rfl)) ?_; (with_reducible refine (laws_szSurface.calls _ _ l0_0 _ _ l0_1 1048576 t1090 _ ?side1 ?side2 ?side3 ?side4 A2.out).mono ?_); (case side1 => repeat (first | exact (Kd.C_below HR0_0.out HB.out) | (with_reducible refine Kd.C_alloc ?_ _) | (with_reducible refine Kd.C_drewN ?_ _) | (with_reducible refine Kd.C_drew ?_))); (case side2 => exact HC0_0.out); (case side3 => repeat (first | exact (Kd.C_below HR0_1.out HB.out) | (with_reducible refine Kd.C_alloc ?_ _) | (with_reducible refine Kd.C_drewN ?_ _) | (with_reducible refine Kd.C_drew ?_))); (case side4 => exact HC0_1.out); rintro e w6 ⟨rfl, hb⟩; refine ⟨_, rfl, ?_⟩; have n0_ := Aside0.mk (blk_below (g := gb1089) (o := .cells #[.slice A0_0 l0_0.length c0_0, .slice A0_1 l0_1.length c0_1] 24 (0, 0)) (by (with_reducible repeat (first | refine blk_drewN ?_ _ | refine blk_drew ?_ | refine blk_alloc ?_ _)); exact BK1089.out) hb); have n1_ := Aside0.mk (below_step (by repeat (first | (with_reducible first | exact HB.out | apply below_alloc | apply pw_below_drewN | apply below_drew1 | refine below_set ?_ GE1089.out) | exact HB.out)) hb); clear BK1089; clear HB; have BK1089 := n0_; have HB := n1_; clear n0_ n1_; (try clear hb); (try clear hb2); (try clear hk); (try clear hi)))
    go_ret
    exact ⟨by first | rfl | (simp [errW_none, errW_some] <;> rfl) | (simp [*, errW_none, errW_some] <;> rfl), by repeat (first | (with_reducible first | exact HB.out | apply below_alloc | apply pw_below_drewN | apply below_drew1 | refine below_set ?_ GE1089.out) | exact HB.out)⟩
  · rw [if_neg c3] at H
    have c3b0 : decide (t1090 < 0) = false := decide_eq_false c3
    clear c3
    replace H := Option.bind_eq_some_iff.mp H
    obtain ⟨⟨t1091, t1094⟩, A70, H⟩ := H
    replace H : ((spec_ShearSurface.f k t1091 t1094).bind fun bt1097 => ((laws_toSurface.f k l0_0 l0_1).bind fun bt1105 => ((impl_ShearSurface.f k bt1105.1 bt1105.2).bind fun bt1112 => ((laws_eqSurface.f k bt1112.1 bt1112.2.1 bt1097.1 bt1097.2.1).bind fun t1120 => (if t1120 = true then (laws_FnExactShearSurface.j0 k bt1097.2.2 bt1112.2.2 (bt1112.2.2 != bt1097.2.2) l0_0 l0_1 bt1097.1 bt1097.2.1 bt1105.1 bt1105.2 bt1112.1 bt1112.2.1) else (laws_FnExactShearSurface.j0 k bt1097.2.2 bt1112.2.2 true l0_0 l0_1 bt1097.1 bt1097.2.1 bt1105.1 bt1105.2 bt1112.1 bt1112.2.1)))))) = some true := H
    have A7 := Aside0.mk A70
    clear A70
    replace H := Option.bind_eq_some_iff.mp H
    obtain ⟨⟨t1097, t1100, t1103⟩, A80, H⟩ := H
    replace H : ((laws_toSurface.f k l0_0 l0_1).bind fun bt1105 => ((impl_ShearSurface.f k bt1105.1 bt1105.2).bind fun bt1112 => ((laws_eqSurface.f k bt1112.1 bt1112.2.1 t1097 t1100).bind fun t1120 => (if t1120 = true then (laws_FnExactShearSurface.j0 k t1103 bt1112.2.2 (bt1112.2.2 != t1103) l0_0 l0_1 t1097 t1100 bt1105.1 bt1105.2 bt1112.1 bt1112.2.1) else (laws_FnExactShearSurface.j0 k t1103 bt1112.2.2 true l0_0 l0_1 t1097 t1100 bt1105.1 bt1105.2 bt1112.1 bt1112.2.1))))) = some true := H
    have A8 := Aside0.mk A80
    clear A80
    replace H := Option.bind_eq_some_iff.mp H
    obtain ⟨⟨t1105, t1108⟩, A90, H⟩ := H
    replace H : ((impl_ShearSurface.f k t1105 t1108).bind fun bt1112 => ((laws_eqSurface.f k bt1112.1 bt1112.2.1 t1097 t1100).bind fun t1120 => (if t1120 = true then (laws_FnExactShearSurface.j0 k t1103 bt1112.2.2 (bt1112.2.2 != t1103) l0_0 l0_1 t1097 t1100 t1105 t1108 bt1112.1 bt1112.2.1) else (laws_FnExactShearSurface.j0 k t1103 bt1112.2.2 true l0_0 l0_1 t1097 t1100 t1105 t1108 bt1112.1 bt1112.2.1)))) = some true := H
    have A9 := Aside0.mk A90
    clear A90
    replace H := Option.bind_eq_some_iff.mp H
    obtain ⟨⟨t1112, t1115, t1118⟩, A100, H⟩ := H
    replace H : ((laws_eqSurface.f k t1112 t1115 t1097 t1100).bind fun t1120 => (if t1120 = true then (laws_FnExactShearSurface.j0 k t1103 t1118 (t1118 != t1103) l0_0 l0_1 t1097 t1100 t1105 t1108 t1112 t1115) else (laws_FnExactShearSurface.j0 k t1103 t1118 true l0_0 l0_1 t1097 t1100 t1105 t1108 t1112 t1115))) = some true := H
    have A10 := Aside0.mk A100
    clear A100
    have HC11 := Aside0.mk H
    clear H
    go_enter Try.func14, Try.ntmps14
    go_upto_region 8 with (first | ((with_reducible refine gate_dst (N := 1) rfl ?_); refine box_event ?hg (N := 1) ?hd (cs := #[.slice A0_0 l0_0.length c0_0, .slice A0_1 l0_1.length c0_1]) (t := 24) ?hr ?_; (case hd => rfl); (case hg => rfl); (case hr => first | (go_simp; done) | (go_simp; rfl)); intro gb1089 hg w12 hbox hb; have n0_ := Aside0.mk (below_step (by repeat (first | (with_reducible first | exact HB.out | apply below_alloc | apply pw_below_drewN | apply below_drew1) | exact HB.out)) hb); have n1_ := Aside0.mk (hbox); have n2_ := Aside0.mk ((by rw [hg]; exact (below_size (by repeat (first | (with_reducible first | exact HB.out | apply below_alloc | apply pw_below_drewN | apply below_drew1) | exact HB.out))) : w.heap.size ≤ gb1089)); have n3_ := Aside0.mk ((by rw [hg]; exact (below_size (by repeat (first | (with_reducible first | exact HB.out | apply below_alloc | apply pw_below_drewN | apply below_drew1) | exact HB.out))) : w.heap.size ≤ gb1089)); clear HB; have HB := n0_; have BK1089 := n1_; have GW1089 := n2_; have GE1089 := n3_; clear n0_ n1_ n2_ n3_; clear hb hbox hg; have hcz13_0 : w12.cell? ⟨gb1089, 0, none⟩ = some (.slice A0_0 l0_0.length c0_0) := (blk_cell BK1089.out 0).trans rfl; have hcz13_1 : w12.cell? ⟨gb1089, 1, none⟩ = some (.slice A0_1 l0_1.length c0_1) := (blk_cell BK1089.out 1).trans rfl; have hfz13_0 := blk_frozen BK1089.out 0; have hfz13_1 := blk_frozen BK1089.out 1) | ((with_reducible refine gate_callee (f := 15) rfl ?_); refine goesL_ (some 16) rfl rfl Try.func15 (by kernel_rfl) rfl #[.agg #[.slice A0_0 l0_0.length c0_0, .slice A0_1 l0_1.length c0_1], .int .i64 1048576] rfl (by (try simp only [List.map_toArray, List.map_cons, List.map_nil]); first | done | rfl | (simp only [List.length_drop, List.length_take]; rfl)) ?_; (with_reducible refine (laws_szSurface.calls _ _ l0_0 _ _ l0_1 1048576 t1090 _ ?side1 ?side2 ?side3 ?side4 A2.out).mono ?_); (case side1 => repeat (first | exact (Kd.C_below HR0_0.out HB.out) | (with_reducible refine Kd.C_alloc ?_ _) | (with_reducible refine Kd.C_drewN ?_ _) | (with_reducible refine Kd.C_drew ?_))); (case side2 => exact HC0_0.out); (case side3 => repeat (first | exact (Kd.C_below HR0_1.out HB.out) | (with_reducible refine Kd.C_alloc ?_ _) | (with_reducible refine Kd.C_drewN ?_ _) | (with_reducible refine Kd.C_drew ?_))); (case side4 => exact HC0_1.out); rintro e w14 ⟨rfl, hb⟩; refine ⟨_, rfl, ?_⟩; have n0_ := Aside0.mk (blk_below (g := gb1089) (o := .cells #[.slice A0_0 l0_0.length c0_0, .slice A0_1 l0_1.length c0_1] 24 (0, 0)) (by (with_reducible repeat (first | refine blk_drewN ?_ _ | refine blk_drew ?_ | refine blk_alloc ?_ _)); exact BK1089.out) hb); have n1_ := Aside0.mk (below_step (by repeat (first | (with_reducible first | exact HB.out | apply below_alloc | apply pw_below_drewN | apply below_drew1 | refine below_set ?_ GE1089.out) | exact HB.out)) hb); clear BK1089; clear HB; have BK1089 := n0_; have HB := n1_; clear n0_ n1_; (try clear hb); (try clear hb2); (try clear hk); (try clear hi); have hcz15_0 : w14.cell? ⟨gb1089, 0, none⟩ = some (.slice A0_0 l0_0.length c0_0) := (blk_cell BK1089.out 0).trans rfl; have hcz15_1 : w14.cell? ⟨gb1089, 1, none⟩ = some (.slice A0_1 l0_1.length c0_1) := (blk_cell BK1089.out 1).trans rfl; have hfz15_0 := blk_frozen BK1089.out 0; have hfz15_1 := blk_frozen BK1089.out 1) | ((with_reducible refine gate_callee (f := 17) rfl ?_); refine goesL_ (some 21) rfl rfl Try.func17 (by kernel_rfl) rfl #[.agg #[.slice A0_0 l0_0.length c0_0, .slice A0_1 l0_1.length c0_1]] rfl (by (try simp only [List.map_toArray, List.map_cons, List.map_nil]); first | done | rfl | (simp only [List.length_drop, List.length_take]; rfl)) ?_; (with_reducible refine (laws_toSurface.calls k _ _ l0_0 _ _ l0_1 t1091 t1094 _ ?side1 ?side2 ?side3 ?side4 A7.out).mono ?_); (case side1 => repeat (first | exact (Kd.C_below HR0_0.out HB.out) | (with_reducible refine Kd.C_alloc ?_ _) | (with_reducible refine Kd.C_drewN ?_ _) | (with_reducible refine Kd.C_drew ?_))); (case side2 => exact HC0_0.out); (case side3 => repeat (first | exact (Kd.C_below HR0_1.out HB.out) | (with_reducible refine Kd.C_alloc ?_ _) | (with_reducible refine Kd.C_drewN ?_ _) | (with_reducible refine Kd.C_drew ?_))); (case side4 => exact HC0_1.out); rintro e w16 ⟨v1092, v1095, rfl, ho0, ho1, hb⟩; refine ⟨_, rfl, ?_⟩; have n0_ := Aside0.mk (Kd.R_lower ho0 (below_size (by repeat (first | (with_reducible first | exact HB.out | apply below_alloc | apply pw_below_drewN | apply below_drew1 | refine below_set ?_ GE1089.out) | exact HB.out)))); have n1_ := Aside0.mk (Kd.R_lower ho1 (below_size (by repeat (first | (with_reducible first | exact HB.out | apply below_alloc | apply pw_below_drewN | apply below_drew1 | refine below_set ?_ GE1089.out) | exact HB.out)))); have n2_ := Aside0.mk (blk_below (g := gb1089) (o := .cells #[.slice A0_0 l0_0.length c0_0, .slice A0_1 l0_1.length c0_1] 24 (0, 0)) (by (with_reducible repeat (first | refine blk_drewN ?_ _ | refine blk_drew ?_ | refine blk_alloc ?_ _)); exact BK1089.out) hb); have n3_ := Aside0.mk (below_step (by repeat (first | (with_reducible first | exact HB.out | apply below_alloc | apply pw_below_drewN | apply below_drew1 | refine below_set ?_ GE1089.out) | exact HB.out)) hb); clear BK1089; clear HB; have HO1093 := n0_; have HO1096 := n1_; have BK1089 := n2_; have HB := n3_; clear n0_ n1_ n2_ n3_; (try clear hb); (try clear hb2); (try clear hk); (try clear hi); (try clear ho0); (try clear ho1); obtain ⟨Ao17, co17, eo17⟩ := Kd.R_slice HO1093.out; subst eo17; obtain ⟨Ao18, co18, eo18⟩ := Kd.R_slice HO1096.out; subst eo18) | ((with_reducible refine gate_callee (f := 55) rfl ?_); refine goesL_ (some 22) rfl rfl Try.func55 (by kernel_rfl) rfl #[.agg #[.slice Ao17 t1091.length co17, .slice Ao18 t1094.length co18]] rfl (by (try simp only [List.map_toArray, List.map_cons, List.map_nil]); first | done | rfl | (simp only [List.length_drop, List.length_take]; rfl)) ?_; (with_reducible refine (spec_ShearSurface.calls k _ _ t1091 _ _ t1094 t1097 t1100 t1103 _ ?side1 ?side2 ?side3 ?side4 A8.out).mono ?_); (case side1 => repeat (first | exact (Kd.R_reads' HO1093.out).2.2 | (with_reducible refine Kd.C_alloc ?_ _) | (with_reducible refine Kd.C_drewN ?_ _) | (with_reducible refine Kd.C_drew ?_))); (case side2 => exact (Kd.R_reads' HO1093.out).2.1); (case side3 => repeat (first | exact (Kd.R_reads' HO1096.out).2.2 | (with_reducible refine Kd.C_alloc ?_ _) | (with_reducible refine Kd.C_drewN ?_ _) | (with_reducible refine Kd.C_drew ?_))); (case side4 => exact (Kd.R_reads' HO1096.out).2.1); rintro e w19 ⟨v1098, v1101, rfl, ho0, ho1, hb⟩; refine ⟨_, rfl, ?_⟩; have n0_ := Aside0.mk (Kd.R_mono (Kd.R_told (Kd.R_told (Kd.R_old (by (with_reducible repeat (first | apply Kd.R_alloc | apply Kd.R_drewN | apply Kd.R_drew)); exact HO1093.out) hb) (Kd.R_base ho0)) (Kd.R_base ho1)) (fun _ h_ => h_.1)); have n1_ := Aside0.mk (Kd.R_mono (Kd.R_told (Kd.R_told (Kd.R_old (by (with_reducible repeat (first | apply Kd.R_alloc | apply Kd.R_drewN | apply Kd.R_drew)); exact HO1096.out) hb) (Kd.R_base ho0)) (Kd.R_base ho1)) (fun _ h_ => h_.1)); have n2_ := Aside0.mk (Kd.R_lower (Kd.R_new' (Kd.R_new' ho0 (Kd.R_lt (by (with_reducible repeat (first | apply Kd.R_alloc | apply Kd.R_drewN | apply Kd.R_drew)); exact HO1093.out))) (Kd.R_lt (by (with_reducible repeat (first | apply Kd.R_alloc | apply Kd.R_drewN | apply Kd.R_drew)); exact HO1096.out))) (below_size (by repeat (first | (with_reducible first | exact HB.out | apply below_alloc | apply pw_below_drewN | apply below_drew1 | refine below_set ?_ GE1089.out) | exact HB.out)))); have n3_ := Aside0.mk (Kd.R_lower (Kd.R_new' (Kd.R_new' ho1 (Kd.R_lt (by (with_reducible repeat (first | apply Kd.R_alloc | apply Kd.R_drewN | apply Kd.R_drew)); exact HO1093.out))) (Kd.R_lt (by (with_reducible repeat (first | apply Kd.R_alloc | apply Kd.R_drewN | apply Kd.R_drew)); exact HO1096.out))) (below_size (by repeat (first | (with_reducible first | exact HB.out | apply below_alloc | apply pw_below_drewN | apply below_drew1 | refine below_set ?_ GE1089.out) | exact HB.out)))); have n4_ := Aside0.mk (blk_below (g := gb1089) (o := .cells #[.slice A0_0 l0_0.length c0_0, .slice A0_1 l0_1.length c0_1] 24 (0, 0)) (by (with_reducible repeat (first | refine blk_drewN ?_ _ | refine blk_drew ?_ | refine blk_alloc ?_ _)); exact BK1089.out) hb); have n5_ := Aside0.mk (below_step (by repeat (first | (with_reducible first | exact HB.out | apply below_alloc | apply pw_below_drewN | apply below_drew1 | refine below_set ?_ GE1089.out) | exact HB.out)) hb); clear HO1093; clear HO1096; clear BK1089; clear HB; have HO1093 := n0_; have HO1096 := n1_; have HO1099 := n2_; have HO1102 := n3_; have BK1089 := n4_; have HB := n5_; clear n0_ n1_ n2_ n3_ n4_ n5_; (try clear hb); (try clear hb2); (try clear hk); (try clear hi); (try clear ho0); (try clear ho1)) | ((with_reducible refine gate_dst (N := 4) rfl ?_); refine box_event ?hg (N := 4) ?hd (cs := #[.slice none 0 0, .slice none 0 0]) (t := 27) ?hr ?_; (case hd => rfl); (case hg => rfl); (case hr => first | (go_simp; done) | (go_simp; rfl)); intro gb1104 hg w20 hbox hb; have n0_ := Aside0.mk (Kd.R_below (by (with_reducible repeat (first | apply Kd.R_alloc | apply Kd.R_drewN | apply Kd.R_drew)); exact HO1093.out) hb); have n1_ := Aside0.mk (Kd.R_below (by (with_reducible repeat (first | apply Kd.R_alloc | apply Kd.R_drewN | apply Kd.R_drew)); exact HO1096.out) hb); have n2_ := Aside0.mk (Kd.R_below (by (with_reducible repeat (first | apply Kd.R_alloc | apply Kd.R_drewN | apply Kd.R_drew)); exact HO1099.out) hb); have n3_ := Aside0.mk (Kd.R_below (by (with_reducible repeat (first | apply Kd.R_alloc | apply Kd.R_drewN | apply Kd.R_drew)); exact HO1102.out) hb); have n4_ := Aside0.mk (blk_below (g := gb1089) (o := .cells #[.slice A0_0 l0_0.length c0_0, .slice A0_1 l0_1.length c0_1] 24 (0, 0)) (by (with_reducible repeat (first | refine blk_drewN ?_ _ | refine blk_drew ?_ | refine blk_alloc ?_ _)); exact BK1089.out) hb); have n5_ := Aside0.mk (below_step (by repeat (first | (with_reducible first | exact HB.out | apply below_alloc | apply pw_below_drewN | apply below_drew1 | refine below_set ?_ GE1089.out) | exact HB.out)) hb); have n6_ := Aside0.mk (hbox); have n7_ := Aside0.mk ((by rw [hg]; exact (below_size (by repeat (first | (with_reducible first | exact HB.out | apply below_alloc | apply pw_below_drewN | apply below_drew1 | refine below_set ?_ GE1089.out) | exact HB.out))) : w.heap.size ≤ gb1104)); have n8_ := Aside0.mk ((by rw [hg]; exact (below_size (by repeat (first | (with_reducible first | exact HB.out | apply below_alloc | apply pw_below_drewN | apply below_drew1 | refine below_set ?_ GE1089.out) | exact HB.out))) : w.heap.size ≤ gb1104)); have n9_ := Aside0.mk ((by rw [hg]; exact Nat.ne_of_lt (blk_lt (g := gb1089) (o := .cells #[.slice A0_0 l0_0.length c0_0, .slice A0_1 l0_1.length c0_1] 24 (0, 0)) (by (with_reducible repeat (first | refine blk_drewN ?_ _ | refine blk_drew ?_ | refine blk_alloc ?_ _)); exact BK1089.out)) : gb1089 ≠ gb1104)); have n10_ := Aside0.mk ((by rw [hg]; exact Nat.ne_of_gt (blk_lt (g := gb1089) (o := .cells #[.slice A0_0 l0_0.length c0_0, .slice A0_1 l0_1.length c0_1] 24 (0, 0)) (by (with_reducible repeat (first | refine blk_drewN ?_ _ | refine blk_drew ?_ | refine blk_alloc ?_ _)); exact BK1089.out)) : gb1104 ≠ gb1089)); clear HO1093; clear HO1096; clear HO1099; clear HO1102; clear BK1089; clear HB; have HO1093 := n0_; have HO1096 := n1_; have HO1099 := n2_; have HO1102 := n3_; have BK1089 := n4_; have HB := n5_; have BK1104 := n6_; have GW1104 := n7_; have GE1104 := n8_; have NB1089_1104 := n9_; have NB1104_1089 := n10_; clear n0_ n1_ n2_ n3_ n4_ n5_ n6_ n7_ n8_ n9_ n10_; clear hb hbox hg; obtain ⟨Ao21, co21, eo21⟩ := Kd.R_slice HO1099.out; subst eo21; have hnb22 := NB1104_1089.out; have hnc22 := NB1089_1104.out; have hcz23_0 : w20.cell? ⟨gb1104, 0, none⟩ = some (.slice none 0 0) := (blk_cell BK1104.out 0).trans rfl; have hcz23_1 : w20.cell? ⟨gb1104, 1, none⟩ = some (.slice none 0 0) := (blk_cell BK1104.out 1).trans rfl; have hfz23_0 := blk_frozen BK1104.out 0; have hfz23_1 := blk_frozen BK1104.out 1; obtain ⟨Ao24, co24, eo24⟩ := Kd.R_slice HO1102.out; subst eo24; have hcz25_0 : w20.cell? ⟨gb1089, 0, none⟩ = some (.slice A0_0 l0_0.length c0_0) := (blk_cell BK1089.out 0).trans rfl; have hcz25_1 : w20.cell? ⟨gb1089, 1, none⟩ = some (.slice A0_1 l0_1.length c0_1) := (blk_cell BK1089.out 1).trans rfl; have hfz25_0 := blk_frozen BK1089.out 0; have hfz25_1 := blk_frozen BK1089.out 1) | ((with_reducible refine gate_callee (f := 17) rfl ?_); refine goesL_ (some 26) rfl rfl Try.func17 (by kernel_rfl) rfl #[.agg #[.slice A0_0 l0_0.length c0_0, .slice A0_1 l0_1.length c0_1]] rfl (by (try simp only [List.map_toArray, List.map_cons, List.map_nil]); first | done | rfl | (simp only [List.length_drop, List.length_take]; rfl)) ?_; (with_reducible refine (laws_toSurface.calls k _ _ l0_0 _ _ l0_1 t1105 t1108 _ ?side1 ?side2 ?side3 ?side4 A9.out).mono ?_); (case side1 => exact Kd.C_below HR0_0.out (by repeat (first | (with_reducible first | exact HB.out | apply below_alloc | apply pw_below_drewN | apply below_drew1 | refine below_set ?_ GE1089.out | refine below_set ?_ GE1104.out) | exact HB.out))); (case side2 => exact HC0_0.out); (case side3 => exact Kd.C_below HR0_1.out (by repeat (first | (with_reducible first | exact HB.out | apply below_alloc | apply pw_below_drewN | apply below_drew1 | refine below_set ?_ GE1089.out | refine below_set ?_ GE1104.out) | exact HB.out))); (case side4 => exact HC0_1.out); rintro e w26 ⟨v1106, v1109, rfl, ho0, ho1, hb⟩; refine ⟨_, rfl, ?_⟩; have n0_ := Aside0.mk (Kd.R_mono (Kd.R_told (Kd.R_told (Kd.R_old (by (with_reducible repeat (first | apply Kd.R_alloc | apply Kd.R_drewN | apply Kd.R_drew)); exact (Kd.R_mono (Kd.R_far (p := ⟨gb1104, 1, none⟩) (Kd.R_far (p := ⟨gb1104, 0, none⟩) (Kd.R_types HO1093.out BK1104.out (by decide)) (fun _ hk => hk.2) (.slice Ao21 t1097.length co21)) (fun _ hk => hk.2) (.slice Ao24 t1100.length co24)) (fun _ h_ => h_.1))) hb) (Kd.R_base ho0)) (Kd.R_base ho1)) (fun _ h_ => h_.1)); have n1_ := Aside0.mk (Kd.R_mono (Kd.R_told (Kd.R_told (Kd.R_old (by (with_reducible repeat (first | apply Kd.R_alloc | apply Kd.R_drewN | apply Kd.R_drew)); exact (Kd.R_mono (Kd.R_far (p := ⟨gb1104, 1, none⟩) (Kd.R_far (p := ⟨gb1104, 0, none⟩) (Kd.R_types HO1096.out BK1104.out (by decide)) (fun _ hk => hk.2) (.slice Ao21 t1097.length co21)) (fun _ hk => hk.2) (.slice Ao24 t1100.length co24)) (fun _ h_ => h_.1))) hb) (Kd.R_base ho0)) (Kd.R_base ho1)) (fun _ h_ => h_.1)); have n2_ := Aside0.mk (Kd.R_mono (Kd.R_told (Kd.R_told (Kd.R_old (by (with_reducible repeat (first | apply Kd.R_alloc | apply Kd.R_drewN | apply Kd.R_drew)); exact (Kd.R_mono (Kd.R_far (p := ⟨gb1104, 1, none⟩) (Kd.R_far (p := ⟨gb1104, 0, none⟩) (Kd.R_types HO1099.out BK1104.out (by decide)) (fun _ hk => hk.2) (.slice Ao21 t1097.length co21)) (fun _ hk => hk.2) (.slice Ao24 t1100.length co24)) (fun _ h_ => h_.1))) hb) (Kd.R_base ho0)) (Kd.R_base ho1)) (fun _ h_ => h_.1)); have n3_ := Aside0.mk (Kd.R_mono (Kd.R_told (Kd.R_told (Kd.R_old (by (with_reducible repeat (first | apply Kd.R_alloc | apply Kd.R_drewN | apply Kd.R_drew)); exact (Kd.R_mono (Kd.R_far (p := ⟨gb1104, 1, none⟩) (Kd.R_far (p := ⟨gb1104, 0, none⟩) (Kd.R_types HO1102.out BK1104.out (by decide)) (fun _ hk => hk.2) (.slice Ao21 t1097.length co21)) (fun _ hk => hk.2) (.slice Ao24 t1100.length co24)) (fun _ h_ => h_.1))) hb) (Kd.R_base ho0)) (Kd.R_base ho1)) (fun _ h_ => h_.1)); have n4_ := Aside0.mk (Kd.R_lower (Kd.R_new' (Kd.R_new' (Kd.R_new' (Kd.R_new' ho0 (Kd.R_lt (by (with_reducible repeat (first | apply Kd.R_alloc | apply Kd.R_drewN | apply Kd.R_drew)); exact (Kd.R_mono (Kd.R_far (p := ⟨gb1104, 1, none⟩) (Kd.R_far (p := ⟨gb1104, 0, none⟩) (Kd.R_types HO1093.out BK1104.out (by decide)) (fun _ hk => hk.2) (.slice Ao21 t1097.length co21)) (fun _ hk => hk.2) (.slice Ao24 t1100.length co24)) (fun _ h_ => h_.1))))) (Kd.R_lt (by (with_reducible repeat (first | apply Kd.R_alloc | apply Kd.R_drewN | apply Kd.R_drew)); exact (Kd.R_mono (Kd.R_far (p := ⟨gb1104, 1, none⟩) (Kd.R_far (p := ⟨gb1104, 0, none⟩) (Kd.R_types HO1096.out BK1104.out (by decide)) (fun _ hk => hk.2) (.slice Ao21 t1097.length co21)) (fun _ hk => hk.2) (.slice Ao24 t1100.length co24)) (fun _ h_ => h_.1))))) (Kd.R_lt (by (with_reducible repeat (first | apply Kd.R_alloc | apply Kd.R_drewN | apply Kd.R_drew)); exact (Kd.R_mono (Kd.R_far (p := ⟨gb1104, 1, none⟩) (Kd.R_far (p := ⟨gb1104, 0, none⟩) (Kd.R_types HO1099.out BK1104.out (by decide)) (fun _ hk => hk.2) (.slice Ao21 t1097.length co21)) (fun _ hk => hk.2) (.slice Ao24 t1100.length co24)) (fun _ h_ => h_.1))))) (Kd.R_lt (by (with_reducible repeat (first | apply Kd.R_alloc | apply Kd.R_drewN | apply Kd.R_drew)); exact (Kd.R_mono (Kd.R_far (p := ⟨gb1104, 1, none⟩) (Kd.R_far (p := ⟨gb1104, 0, none⟩) (Kd.R_types HO1102.out BK1104.out (by decide)) (fun _ hk => hk.2) (.slice Ao21 t1097.length co21)) (fun _ hk => hk.2) (.slice Ao24 t1100.length co24)) (fun _ h_ => h_.1))))) (below_size (by repeat (first | (with_reducible first | exact HB.out | apply below_alloc | apply pw_below_drewN | apply below_drew1 | refine below_set ?_ GE1089.out | refine below_set ?_ GE1104.out) | exact HB.out)))); have n5_ := Aside0.mk (Kd.R_lower (Kd.R_new' (Kd.R_new' (Kd.R_new' (Kd.R_new' ho1 (Kd.R_lt (by (with_reducible repeat (first | apply Kd.R_alloc | apply Kd.R_drewN | apply Kd.R_drew)); exact (Kd.R_mono (Kd.R_far (p := ⟨gb1104, 1, none⟩) (Kd.R_far (p := ⟨gb1104, 0, none⟩) (Kd.R_types HO1093.out BK1104.out (by decide)) (fun _ hk => hk.2) (.slice Ao21 t1097.length co21)) (fun _ hk => hk.2) (.slice Ao24 t1100.length co24)) (fun _ h_ => h_.1))))) (Kd.R_lt (by (with_reducible repeat (first | apply Kd.R_alloc | apply Kd.R_drewN | apply Kd.R_drew)); exact (Kd.R_mono (Kd.R_far (p := ⟨gb1104, 1, none⟩) (Kd.R_far (p := ⟨gb1104, 0, none⟩) (Kd.R_types HO1096.out BK1104.out (by decide)) (fun _ hk => hk.2) (.slice Ao21 t1097.length co21)) (fun _ hk => hk.2) (.slice Ao24 t1100.length co24)) (fun _ h_ => h_.1))))) (Kd.R_lt (by (with_reducible repeat (first | apply Kd.R_alloc | apply Kd.R_drewN | apply Kd.R_drew)); exact (Kd.R_mono (Kd.R_far (p := ⟨gb1104, 1, none⟩) (Kd.R_far (p := ⟨gb1104, 0, none⟩) (Kd.R_types HO1099.out BK1104.out (by decide)) (fun _ hk => hk.2) (.slice Ao21 t1097.length co21)) (fun _ hk => hk.2) (.slice Ao24 t1100.length co24)) (fun _ h_ => h_.1))))) (Kd.R_lt (by (with_reducible repeat (first | apply Kd.R_alloc | apply Kd.R_drewN | apply Kd.R_drew)); exact (Kd.R_mono (Kd.R_far (p := ⟨gb1104, 1, none⟩) (Kd.R_far (p := ⟨gb1104, 0, none⟩) (Kd.R_types HO1102.out BK1104.out (by decide)) (fun _ hk => hk.2) (.slice Ao21 t1097.length co21)) (fun _ hk => hk.2) (.slice Ao24 t1100.length co24)) (fun _ h_ => h_.1))))) (below_size (by repeat (first | (with_reducible first | exact HB.out | apply below_alloc | apply pw_below_drewN | apply below_drew1 | refine below_set ?_ GE1089.out | refine below_set ?_ GE1104.out) | exact HB.out)))); have n6_ := Aside0.mk (blk_below (g := gb1089) (o := .cells #[.slice A0_0 l0_0.length c0_0, .slice A0_1 l0_1.length c0_1] 24 (0, 0)) (by (with_reducible repeat (first | refine blk_drewN ?_ _ | refine blk_drew ?_ | refine blk_alloc ?_ _)); refine blk_far ?_ NB1089_1104.out _; (with_reducible repeat (first | refine blk_drewN ?_ _ | refine blk_drew ?_ | refine blk_alloc ?_ _)); refine blk_far ?_ NB1089_1104.out _; (with_reducible repeat (first | refine blk_drewN ?_ _ | refine blk_drew ?_ | refine blk_alloc ?_ _)); exact BK1089.out) hb); have n7_ := Aside0.mk (blk_below (g := gb1104) (o := .cells #[.slice Ao21 t1097.length co21, .slice Ao24 t1100.length co24] 27 (0, 0)) (by (with_reducible repeat (first | refine blk_drewN ?_ _ | refine blk_drew ?_ | refine blk_alloc ?_ _)); refine blk_put (cs := #[.slice Ao21 t1097.length co21, .slice none 0 0]) ?_ 1 _ rfl; (with_reducible repeat (first | refine blk_drewN ?_ _ | refine blk_drew ?_ | refine blk_alloc ?_ _)); refine blk_put (cs := #[.slice none 0 0, .slice none 0 0]) ?_ 0 _ rfl; (with_reducible repeat (first | refine blk_drewN ?_ _ | refine blk_drew ?_ | refine blk_alloc ?_ _)); exact BK1104.out) hb); have n8_ := Aside0.mk (below_step (by repeat (first | (with_reducible first | exact HB.out | apply below_alloc | apply pw_below_drewN | apply below_drew1 | refine below_set ?_ GE1089.out | refine below_set ?_ GE1104.out) | exact HB.out)) hb); clear HO1093; clear HO1096; clear HO1099; clear HO1102; clear BK1089; clear BK1104; clear HB; have HO1093 := n0_; have HO1096 := n1_; have HO1099 := n2_; have HO1102 := n3_; have HO1107 := n4_; have HO1110 := n5_; have BK1089 := n6_; have BK1104 := n7_; have HB := n8_; clear n0_ n1_ n2_ n3_ n4_ n5_ n6_ n7_ n8_; (try clear hb); (try clear hb2); (try clear hk); (try clear hi); (try clear ho0); (try clear ho1)) | ((with_reducible refine gate_dst (N := 6) rfl ?_); refine box_event ?hg (N := 6) ?hd (cs := #[.slice none 0 0, .slice none 0 0]) (t := 27) ?hr ?_; (case hd => rfl); (case hg => rfl); (case hr => first | (go_simp; done) | (go_simp; rfl)); intro gb1111 hg w27 hbox hb; have n0_ := Aside0.mk (Kd.R_below (by (with_reducible repeat (first | apply Kd.R_alloc | apply Kd.R_drewN | apply Kd.R_drew)); exact HO1093.out) hb); have n1_ := Aside0.mk (Kd.R_below (by (with_reducible repeat (first | apply Kd.R_alloc | apply Kd.R_drewN | apply Kd.R_drew)); exact HO1096.out) hb); have n2_ := Aside0.mk (Kd.R_below (by (with_reducible repeat (first | apply Kd.R_alloc | apply Kd.R_drewN | apply Kd.R_drew)); exact HO1099.out) hb); have n3_ := Aside0.mk (Kd.R_below (by (with_reducible repeat (first | apply Kd.R_alloc | apply Kd.R_drewN | apply Kd.R_drew)); exact HO1102.out) hb); have n4_ := Aside0.mk (Kd.R_below (by (with_reducible repeat (first | apply Kd.R_alloc | apply Kd.R_drewN | apply Kd.R_drew)); exact HO1107.out) hb); have n5_ := Aside0.mk (Kd.R_below (by (with_reducible repeat (first | apply Kd.R_alloc | apply Kd.R_drewN | apply Kd.R_drew)); exact HO1110.out) hb); have n6_ := Aside0.mk (blk_below (g := gb1089) (o := .cells #[.slice A0_0 l0_0.length c0_0, .slice A0_1 l0_1.length c0_1] 24 (0, 0)) (by (with_reducible repeat (first | refine blk_drewN ?_ _ | refine blk_drew ?_ | refine blk_alloc ?_ _)); exact BK1089.out) hb); have n7_ := Aside0.mk (blk_below (g := gb1104) (o := .cells #[.slice Ao21 t1097.length co21, .slice Ao24 t1100.length co24] 27 (0, 0)) (by (with_reducible repeat (first | refine blk_drewN ?_ _ | refine blk_drew ?_ | refine blk_alloc ?_ _)); exact BK1104.out) hb); have n8_ := Aside0.mk (below_step (by repeat (first | (with_reducible first | exact HB.out | apply below_alloc | apply pw_below_drewN | apply below_drew1 | refine below_set ?_ GE1089.out | refine below_set ?_ GE1104.out) | exact HB.out)) hb); have n9_ := Aside0.mk (hbox); have n10_ := Aside0.mk ((by rw [hg]; exact (below_size (by repeat (first | (with_reducible first | exact HB.out | apply below_alloc | apply pw_below_drewN | apply below_drew1 | refine below_set ?_ GE1089.out | refine below_set ?_ GE1104.out) | exact HB.out))) : w.heap.size ≤ gb1111)); have n11_ := Aside0.mk ((by rw [hg]; exact (below_size (by repeat (first | (with_reducible first | exact HB.out | apply below_alloc | apply pw_below_drewN | apply below_drew1 | refine below_set ?_ GE1089.out | refine below_set ?_ GE1104.out) | exact HB.out))) : w.heap.size ≤ gb1111)); have n12_ := Aside0.mk ((by rw [hg]; exact Nat.ne_of_lt (blk_lt (g := gb1089) (o := .cells #[.slice A0_0 l0_0.length c0_0, .slice A0_1 l0_1.length c0_1] 24 (0, 0)) (by (with_reducible repeat (first | refine blk_drewN ?_ _ | refine blk_drew ?_ | refine blk_alloc ?_ _)); exact BK1089.out)) : gb1089 ≠ gb1111)); have n13_ := Aside0.mk ((by rw [hg]; exact Nat.ne_of_gt (blk_lt (g := gb1089) (o := .cells #[.slice A0_0 l0_0.length c0_0, .slice A0_1 l0_1.length c0_1] 24 (0, 0)) (by (with_reducible repeat (first | refine blk_drewN ?_ _ | refine blk_drew ?_ | refine blk_alloc ?_ _)); exact BK1089.out)) : gb1111 ≠ gb1089)); have n14_ := Aside0.mk ((by rw [hg]; exact Nat.ne_of_lt (blk_lt (g := gb1104) (o := .cells #[.slice Ao21 t1097.length co21, .slice Ao24 t1100.length co24] 27 (0, 0)) (by (with_reducible repeat (first | refine blk_drewN ?_ _ | refine blk_drew ?_ | refine blk_alloc ?_ _)); exact BK1104.out)) : gb1104 ≠ gb1111)); have n15_ := Aside0.mk ((by rw [hg]; exact Nat.ne_of_gt (blk_lt (g := gb1104) (o := .cells #[.slice Ao21 t1097.length co21, .slice Ao24 t1100.length co24] 27 (0, 0)) (by (with_reducible repeat (first | refine blk_drewN ?_ _ | refine blk_drew ?_ | refine blk_alloc ?_ _)); exact BK1104.out)) : gb1111 ≠ gb1104)); clear HO1093; clear HO1096; clear HO1099; clear HO1102; clear HO1107; clear HO1110; clear BK1089; clear BK1104; clear HB; have HO1093 := n0_; have HO1096 := n1_; have HO1099 := n2_; have HO1102 := n3_; have HO1107 := n4_; have HO1110 := n5_; have BK1089 := n6_; have BK1104 := n7_; have HB := n8_; have BK1111 := n9_; have GW1111 := n10_; have GE1111 := n11_; have NB1089_1111 := n12_; have NB1111_1089 := n13_; have NB1104_1111 := n14_; have NB1111_1104 := n15_; clear n0_ n1_ n2_ n3_ n4_ n5_ n6_ n7_ n8_ n9_ n10_ n11_ n12_ n13_ n14_ n15_; clear hb hbox hg; obtain ⟨Ao28, co28, eo28⟩ := Kd.R_slice HO1107.out; subst eo28; have hnb29 := NB1111_1089.out; have hnc29 := NB1089_1111.out; have hnb30 := NB1111_1104.out; have hnc30 := NB1104_1111.out; have hcz31_0 : w27.cell? ⟨gb1111, 0, none⟩ = some (.slice none 0 0) := (blk_cell BK1111.out 0).trans rfl; have hcz31_1 : w27.cell? ⟨gb1111, 1, none⟩ = some (.slice none 0 0) := (blk_cell BK1111.out 1).trans rfl; have hfz31_0 := blk_frozen BK1111.out 0; have hfz31_1 := blk_frozen BK1111.out 1; obtain ⟨Ao32, co32, eo32⟩ := Kd.R_slice HO1110.out; subst eo32) | ((with_reducible refine gate_callee (f := 56) rfl ?_); refine goesL_ (some 29) rfl rfl Try.func56 (by kernel_rfl) rfl #[.agg #[.slice Ao28 t1105.length co28, .slice Ao32 t1108.length co32]] rfl (by (try simp only [List.map_toArray, List.map_cons, List.map_nil]); first | done | rfl | (simp only [List.length_drop, List.length_take]; rfl)) ?_; (with_reducible refine (impl_ShearSurface.calls k _ _ t1105 _ _ t1108 t1112 t1115 t1118 _ ?side1 ?side2 ?side3 ?side4 A10.out).mono ?_); (case side1 => refine (Kd.R_reads' (e := 3) (base := w.heap.size) (ok := fun k_ => ((((some k_ ≠ (.slice Ao32 t1108.length co32 : Value).ownBlock ∧ some k_ ≠ (.slice Ao17 t1091.length co17 : Value).ownBlock) ∧ some k_ ≠ (.slice Ao18 t1094.length co18 : Value).ownBlock) ∧ some k_ ≠ (.slice Ao21 t1097.length co21 : Value).ownBlock) ∧ some k_ ≠ (.slice Ao24 t1100.length co24 : Value).ownBlock)) (n := t1105.length) (c := co28) ?_).2.2; exact (by (with_reducible repeat (first | apply Kd.R_alloc | apply Kd.R_drewN | apply Kd.R_drew)); exact (Kd.R_mono (Kd.R_far (p := ⟨gb1111, 1, none⟩) (Kd.R_far (p := ⟨gb1111, 0, none⟩) (Kd.R_types HO1107.out BK1111.out (by decide)) (fun _ hk => hk.2) (.slice Ao28 t1105.length co28)) (fun _ hk => hk.2) (.slice Ao32 t1108.length co32)) (fun _ h_ => h_.1)))); (case side2 => exact (Kd.R_reads' HO1107.out).2.1); (case side3 => refine (Kd.R_reads' (e := 3) (base := w.heap.size) (ok := fun k_ => ((((some k_ ≠ (.slice Ao28 t1105.length co28 : Value).ownBlock ∧ some k_ ≠ (.slice Ao17 t1091.length co17 : Value).ownBlock) ∧ some k_ ≠ (.slice Ao18 t1094.length co18 : Value).ownBlock) ∧ some k_ ≠ (.slice Ao21 t1097.length co21 : Value).ownBlock) ∧ some k_ ≠ (.slice Ao24 t1100.length co24 : Value).ownBlock)) (n := t1108.length) (c := co32) ?_).2.2; exact (by (with_reducible repeat (first | apply Kd.R_alloc | apply Kd.R_drewN | apply Kd.R_drew)); exact (Kd.R_mono (Kd.R_far (p := ⟨gb1111, 1, none⟩) (Kd.R_far (p := ⟨gb1111, 0, none⟩) (Kd.R_types HO1110.out BK1111.out (by decide)) (fun _ hk => hk.2) (.slice Ao28 t1105.length co28)) (fun _ hk => hk.2) (.slice Ao32 t1108.length co32)) (fun _ h_ => h_.1)))); (case side4 => exact (Kd.R_reads' HO1110.out).2.1); rintro e w33 ⟨v1113, v1116, rfl, ho0, ho1, hb⟩; refine ⟨_, rfl, ?_⟩; have n0_ := Aside0.mk (Kd.R_mono (Kd.R_told (Kd.R_told (Kd.R_old (by (with_reducible repeat (first | apply Kd.R_alloc | apply Kd.R_drewN | apply Kd.R_drew)); exact (Kd.R_mono (Kd.R_far (p := ⟨gb1111, 1, none⟩) (Kd.R_far (p := ⟨gb1111, 0, none⟩) (Kd.R_types HO1093.out BK1111.out (by decide)) (fun _ hk => hk.2) (.slice Ao28 t1105.length co28)) (fun _ hk => hk.2) (.slice Ao32 t1108.length co32)) (fun _ h_ => h_.1))) hb) (Kd.R_base ho0)) (Kd.R_base ho1)) (fun _ h_ => h_.1)); have n1_ := Aside0.mk (Kd.R_mono (Kd.R_told (Kd.R_told (Kd.R_old (by (with_reducible repeat (first | apply Kd.R_alloc | apply Kd.R_drewN | apply Kd.R_drew)); exact (Kd.R_mono (Kd.R_far (p := ⟨gb1111, 1, none⟩) (Kd.R_far (p := ⟨gb1111, 0, none⟩) (Kd.R_types HO1096.out BK1111.out (by decide)) (fun _ hk => hk.2) (.slice Ao28 t1105.length co28)) (fun _ hk => hk.2) (.slice Ao32 t1108.length co32)) (fun _ h_ => h_.1))) hb) (Kd.R_base ho0)) (Kd.R_base ho1)) (fun _ h_ => h_.1)); have n2_ := Aside0.mk (Kd.R_mono (Kd.R_told (Kd.R_told (Kd.R_old (by (with_reducible repeat (first | apply Kd.R_alloc | apply Kd.R_drewN | apply Kd.R_drew)); exact (Kd.R_mono (Kd.R_far (p := ⟨gb1111, 1, none⟩) (Kd.R_far (p := ⟨gb1111, 0, none⟩) (Kd.R_types HO1099.out BK1111.out (by decide)) (fun _ hk => hk.2) (.slice Ao28 t1105.length co28)) (fun _ hk => hk.2) (.slice Ao32 t1108.length co32)) (fun _ h_ => h_.1))) hb) (Kd.R_base ho0)) (Kd.R_base ho1)) (fun _ h_ => h_.1)); have n3_ := Aside0.mk (Kd.R_mono (Kd.R_told (Kd.R_told (Kd.R_old (by (with_reducible repeat (first | apply Kd.R_alloc | apply Kd.R_drewN | apply Kd.R_drew)); exact (Kd.R_mono (Kd.R_far (p := ⟨gb1111, 1, none⟩) (Kd.R_far (p := ⟨gb1111, 0, none⟩) (Kd.R_types HO1102.out BK1111.out (by decide)) (fun _ hk => hk.2) (.slice Ao28 t1105.length co28)) (fun _ hk => hk.2) (.slice Ao32 t1108.length co32)) (fun _ h_ => h_.1))) hb) (Kd.R_base ho0)) (Kd.R_base ho1)) (fun _ h_ => h_.1)); have n4_ := Aside0.mk (Kd.R_mono (Kd.R_told (Kd.R_told (Kd.R_old (by (with_reducible repeat (first | apply Kd.R_alloc | apply Kd.R_drewN | apply Kd.R_drew)); exact (Kd.R_mono (Kd.R_far (p := ⟨gb1111, 1, none⟩) (Kd.R_far (p := ⟨gb1111, 0, none⟩) (Kd.R_types HO1107.out BK1111.out (by decide)) (fun _ hk => hk.2) (.slice Ao28 t1105.length co28)) (fun _ hk => hk.2) (.slice Ao32 t1108.length co32)) (fun _ h_ => h_.1))) hb) (Kd.R_base ho0)) (Kd.R_base ho1)) (fun _ h_ => h_.1)); have n5_ := Aside0.mk (Kd.R_mono (Kd.R_told (Kd.R_told (Kd.R_old (by (with_reducible repeat (first | apply Kd.R_alloc | apply Kd.R_drewN | apply Kd.R_drew)); exact (Kd.R_mono (Kd.R_far (p := ⟨gb1111, 1, none⟩) (Kd.R_far (p := ⟨gb1111, 0, none⟩) (Kd.R_types HO1110.out BK1111.out (by decide)) (fun _ hk => hk.2) (.slice Ao28 t1105.length co28)) (fun _ hk => hk.2) (.slice Ao32 t1108.length co32)) (fun _ h_ => h_.1))) hb) (Kd.R_base ho0)) (Kd.R_base ho1)) (fun _ h_ => h_.1)); have n6_ := Aside0.mk (Kd.R_lower (Kd.R_new' (Kd.R_new' (Kd.R_new' (Kd.R_new' (Kd.R_new' (Kd.R_new' ho0 (Kd.R_lt (by (with_reducible repeat (first | apply Kd.R_alloc | apply Kd.R_drewN | apply Kd.R_drew)); exact (Kd.R_mono (Kd.R_far (p := ⟨gb1111, 1, none⟩) (Kd.R_far (p := ⟨gb1111, 0, none⟩) (Kd.R_types HO1093.out BK1111.out (by decide)) (fun _ hk => hk.2) (.slice Ao28 t1105.length co28)) (fun _ hk => hk.2) (.slice Ao32 t1108.length co32)) (fun _ h_ => h_.1))))) (Kd.R_lt (by (with_reducible repeat (first | apply Kd.R_alloc | apply Kd.R_drewN | apply Kd.R_drew)); exact (Kd.R_mono (Kd.R_far (p := ⟨gb1111, 1, none⟩) (Kd.R_far (p := ⟨gb1111, 0, none⟩) (Kd.R_types HO1096.out BK1111.out (by decide)) (fun _ hk => hk.2) (.slice Ao28 t1105.length co28)) (fun _ hk => hk.2) (.slice Ao32 t1108.length co32)) (fun _ h_ => h_.1))))) (Kd.R_lt (by (with_reducible repeat (first | apply Kd.R_alloc | apply Kd.R_drewN | apply Kd.R_drew)); exact (Kd.R_mono (Kd.R_far (p := ⟨gb1111, 1, none⟩) (Kd.R_far (p := ⟨gb1111, 0, none⟩) (Kd.R_types HO1099.out BK1111.out (by decide)) (fun _ hk => hk.2) (.slice Ao28 t1105.length co28)) (fun _ hk => hk.2) (.slice Ao32 t1108.length co32)) (fun _ h_ => h_.1))))) (Kd.R_lt (by (with_reducible repeat (first | apply Kd.R_alloc | apply Kd.R_drewN | apply Kd.R_drew)); exact (Kd.R_mono (Kd.R_far (p := ⟨gb1111, 1, none⟩) (Kd.R_far (p := ⟨gb1111, 0, none⟩) (Kd.R_types HO1102.out BK1111.out (by decide)) (fun _ hk => hk.2) (.slice Ao28 t1105.length co28)) (fun _ hk => hk.2) (.slice Ao32 t1108.length co32)) (fun _ h_ => h_.1))))) (Kd.R_lt (by (with_reducible repeat (first | apply Kd.R_alloc | apply Kd.R_drewN | apply Kd.R_drew)); exact (Kd.R_mono (Kd.R_far (p := ⟨gb1111, 1, none⟩) (Kd.R_far (p := ⟨gb1111, 0, none⟩) (Kd.R_types HO1107.out BK1111.out (by decide)) (fun _ hk => hk.2) (.slice Ao28 t1105.length co28)) (fun _ hk => hk.2) (.slice Ao32 t1108.length co32)) (fun _ h_ => h_.1))))) (Kd.R_lt (by (with_reducible repeat (first | apply Kd.R_alloc | apply Kd.R_drewN | apply Kd.R_drew)); exact (Kd.R_mono (Kd.R_far (p := ⟨gb1111, 1, none⟩) (Kd.R_far (p := ⟨gb1111, 0, none⟩) (Kd.R_types HO1110.out BK1111.out (by decide)) (fun _ hk => hk.2) (.slice Ao28 t1105.length co28)) (fun _ hk => hk.2) (.slice Ao32 t1108.length co32)) (fun _ h_ => h_.1))))) (below_size (by repeat (first | (with_reducible first | exact HB.out | apply below_alloc | apply pw_below_drewN | apply below_drew1 | refine below_set ?_ GE1089.out | refine below_set ?_ GE1104.out | refine below_set ?_ GE1111.out) | exact HB.out)))); have n7_ := Aside0.mk (Kd.R_lower (Kd.R_new' (Kd.R_new' (Kd.R_new' (Kd.R_new' (Kd.R_new' (Kd.R_new' ho1 (Kd.R_lt (by (with_reducible repeat (first | apply Kd.R_alloc | apply Kd.R_drewN | apply Kd.R_drew)); exact (Kd.R_mono (Kd.R_far (p := ⟨gb1111, 1, none⟩) (Kd.R_far (p := ⟨gb1111, 0, none⟩) (Kd.R_types HO1093.out BK1111.out (by decide)) (fun _ hk => hk.2) (.slice Ao28 t1105.length co28)) (fun _ hk => hk.2) (.slice Ao32 t1108.length co32)) (fun _ h_ => h_.1))))) (Kd.R_lt (by (with_reducible repeat (first | apply Kd.R_alloc | apply Kd.R_drewN | apply Kd.R_drew)); exact (Kd.R_mono (Kd.R_far (p := ⟨gb1111, 1, none⟩) (Kd.R_far (p := ⟨gb1111, 0, none⟩) (Kd.R_types HO1096.out BK1111.out (by decide)) (fun _ hk => hk.2) (.slice Ao28 t1105.length co28)) (fun _ hk => hk.2) (.slice Ao32 t1108.length co32)) (fun _ h_ => h_.1))))) (Kd.R_lt (by (with_reducible repeat (first | apply Kd.R_alloc | apply Kd.R_drewN | apply Kd.R_drew)); exact (Kd.R_mono (Kd.R_far (p := ⟨gb1111, 1, none⟩) (Kd.R_far (p := ⟨gb1111, 0, none⟩) (Kd.R_types HO1099.out BK1111.out (by decide)) (fun _ hk => hk.2) (.slice Ao28 t1105.length co28)) (fun _ hk => hk.2) (.slice Ao32 t1108.length co32)) (fun _ h_ => h_.1))))) (Kd.R_lt (by (with_reducible repeat (first | apply Kd.R_alloc | apply Kd.R_drewN | apply Kd.R_drew)); exact (Kd.R_mono (Kd.R_far (p := ⟨gb1111, 1, none⟩) (Kd.R_far (p := ⟨gb1111, 0, none⟩) (Kd.R_types HO1102.out BK1111.out (by decide)) (fun _ hk => hk.2) (.slice Ao28 t1105.length co28)) (fun _ hk => hk.2) (.slice Ao32 t1108.length co32)) (fun _ h_ => h_.1))))) (Kd.R_lt (by (with_reducible repeat (first | apply Kd.R_alloc | apply Kd.R_drewN | apply Kd.R_drew)); exact (Kd.R_mono (Kd.R_far (p := ⟨gb1111, 1, none⟩) (Kd.R_far (p := ⟨gb1111, 0, none⟩) (Kd.R_types HO1107.out BK1111.out (by decide)) (fun _ hk => hk.2) (.slice Ao28 t1105.length co28)) (fun _ hk => hk.2) (.slice Ao32 t1108.length co32)) (fun _ h_ => h_.1))))) (Kd.R_lt (by (with_reducible repeat (first | apply Kd.R_alloc | apply Kd.R_drewN | apply Kd.R_drew)); exact (Kd.R_mono (Kd.R_far (p := ⟨gb1111, 1, none⟩) (Kd.R_far (p := ⟨gb1111, 0, none⟩) (Kd.R_types HO1110.out BK1111.out (by decide)) (fun _ hk => hk.2) (.slice Ao28 t1105.length co28)) (fun _ hk => hk.2) (.slice Ao32 t1108.length co32)) (fun _ h_ => h_.1))))) (below_size (by repeat (first | (with_reducible first | exact HB.out | apply below_alloc | apply pw_below_drewN | apply below_drew1 | refine below_set ?_ GE1089.out | refine below_set ?_ GE1104.out | refine below_set ?_ GE1111.out) | exact HB.out)))); have n8_ := Aside0.mk (blk_below (g := gb1089) (o := .cells #[.slice A0_0 l0_0.length c0_0, .slice A0_1 l0_1.length c0_1] 24 (0, 0)) (by (with_reducible repeat (first | refine blk_drewN ?_ _ | refine blk_drew ?_ | refine blk_alloc ?_ _)); refine blk_far ?_ NB1089_1111.out _; (with_reducible repeat (first | refine blk_drewN ?_ _ | refine blk_drew ?_ | refine blk_alloc ?_ _)); refine blk_far ?_ NB1089_1111.out _; (with_reducible repeat (first | refine blk_drewN ?_ _ | refine blk_drew ?_ | refine blk_alloc ?_ _)); exact BK1089.out) hb); have n9_ := Aside0.mk (blk_below (g := gb1104) (o := .cells #[.slice Ao21 t1097.length co21, .slice Ao24 t1100.length co24] 27 (0, 0)) (by (with_reducible repeat (first | refine blk_drewN ?_ _ | refine blk_drew ?_ | refine blk_alloc ?_ _)); refine blk_far ?_ NB1104_1111.out _; (with_reducible repeat (first | refine blk_drewN ?_ _ | refine blk_drew ?_ | refine blk_alloc ?_ _)); refine blk_far ?_ NB1104_1111.out _; (with_reducible repeat (first | refine blk_drewN ?_ _ | refine blk_drew ?_ | refine blk_alloc ?_ _)); exact BK1104.out) hb); have n10_ := Aside0.mk (blk_below (g := gb1111) (o := .cells #[.slice Ao28 t1105.length co28, .slice Ao32 t1108.length co32] 27 (0, 0)) (by (with_reducible repeat (first | refine blk_drewN ?_ _ | refine blk_drew ?_ | refine blk_alloc ?_ _)); refine blk_put (cs := #[.slice Ao28 t1105.length co28, .slice none 0 0]) ?_ 1 _ rfl; (with_reducible repeat (first | refine blk_drewN ?_ _ | refine blk_drew ?_ | refine blk_alloc ?_ _)); refine blk_put (cs := #[.slice none 0 0, .slice none 0 0]) ?_ 0 _ rfl; (with_reducible repeat (first | refine blk_drewN ?_ _ | refine blk_drew ?_ | refine blk_alloc ?_ _)); exact BK1111.out) hb); have n11_ := Aside0.mk (below_step (by repeat (first | (with_reducible first | exact HB.out | apply below_alloc | apply pw_below_drewN | apply below_drew1 | refine below_set ?_ GE1089.out | refine below_set ?_ GE1104.out | refine below_set ?_ GE1111.out) | exact HB.out)) hb); clear HO1093; clear HO1096; clear HO1099; clear HO1102; clear HO1107; clear HO1110; clear BK1089; clear BK1104; clear BK1111; clear HB; have HO1093 := n0_; have HO1096 := n1_; have HO1099 := n2_; have HO1102 := n3_; have HO1107 := n4_; have HO1110 := n5_; have HO1114 := n6_; have HO1117 := n7_; have BK1089 := n8_; have BK1104 := n9_; have BK1111 := n10_; have HB := n11_; clear n0_ n1_ n2_ n3_ n4_ n5_ n6_ n7_ n8_ n9_ n10_ n11_; (try clear hb); (try clear hb2); (try clear hk); (try clear hi); (try clear ho0); (try clear ho1)) | ((with_reducible refine gate_dst (N := 7) rfl ?_); refine box_event ?hg (N := 7) ?hd (cs := #[.slice none 0 0, .slice none 0 0]) (t := 27) ?hr ?_; (case hd => rfl); (case hg => rfl); (case hr => first | (go_simp; done) | (go_simp; rfl)); intro gb1119 hg w34 hbox hb; have n0_ := Aside0.mk (Kd.R_below (by (with_reducible repeat (first | apply Kd.R_alloc | apply Kd.R_drewN | apply Kd.R_drew)); exact HO1093.out) hb); have n1_ := Aside0.mk (Kd.R_below (by (with_reducible repeat (first | apply Kd.R_alloc | apply Kd.R_drewN | apply Kd.R_drew)); exact HO1096.out) hb); have n2_ := Aside0.mk (Kd.R_below (by (with_reducible repeat (first | apply Kd.R_alloc | apply Kd.R_drewN | apply Kd.R_drew)); exact HO1099.out) hb); have n3_ := Aside0.mk (Kd.R_below (by (with_reducible repeat (first | apply Kd.R_alloc | apply Kd.R_drewN | apply Kd.R_drew)); exact HO1102.out) hb); have n4_ := Aside0.mk (Kd.R_below (by (with_reducible repeat (first | apply Kd.R_alloc | apply Kd.R_drewN | apply Kd.R_drew)); exact HO1107.out) hb); have n5_ := Aside0.mk (Kd.R_below (by (with_reducible repeat (first | apply Kd.R_alloc | apply Kd.R_drewN | apply Kd.R_drew)); exact HO1110.out) hb); have n6_ := Aside0.mk (Kd.R_below (by (with_reducible repeat (first | apply Kd.R_alloc | apply Kd.R_drewN | apply Kd.R_drew)); exact HO1114.out) hb); have n7_ := Aside0.mk (Kd.R_below (by (with_reducible repeat (first | apply Kd.R_alloc | apply Kd.R_drewN | apply Kd.R_drew)); exact HO1117.out) hb); have n8_ := Aside0.mk (blk_below (g := gb1089) (o := .cells #[.slice A0_0 l0_0.length c0_0, .slice A0_1 l0_1.length c0_1] 24 (0, 0)) (by (with_reducible repeat (first | refine blk_drewN ?_ _ | refine blk_drew ?_ | refine blk_alloc ?_ _)); exact BK1089.out) hb); have n9_ := Aside0.mk (blk_below (g := gb1104) (o := .cells #[.slice Ao21 t1097.length co21, .slice Ao24 t1100.length co24] 27 (0, 0)) (by (with_reducible repeat (first | refine blk_drewN ?_ _ | refine blk_drew ?_ | refine blk_alloc ?_ _)); exact BK1104.out) hb); have n10_ := Aside0.mk (blk_below (g := gb1111) (o := .cells #[.slice Ao28 t1105.length co28, .slice Ao32 t1108.length co32] 27 (0, 0)) (by (with_reducible repeat (first | refine blk_drewN ?_ _ | refine blk_drew ?_ | refine blk_alloc ?_ _)); exact BK1111.out) hb); have n11_ := Aside0.mk (below_step (by repeat (first | (with_reducible first | exact HB.out | apply below_alloc | apply pw_below_drewN | apply below_drew1 | refine below_set ?_ GE1089.out | refine below_set ?_ GE1104.out | refine below_set ?_ GE1111.out) | exact HB.out)) hb); have n12_ := Aside0.mk (hbox); have n13_ := Aside0.mk ((by rw [hg]; exact (below_size (by repeat (first | (with_reducible first | exact HB.out | apply below_alloc | apply pw_below_drewN | apply below_drew1 | refine below_set ?_ GE1089.out | refine below_set ?_ GE1104.out | refine below_set ?_ GE1111.out) | exact HB.out))) : w.heap.size ≤ gb1119)); have n14_ := Aside0.mk ((by rw [hg]; exact (below_size (by repeat (first | (with_reducible first | exact HB.out | apply below_alloc | apply pw_below_drewN | apply below_drew1 | refine below_set ?_ GE1089.out | refine below_set ?_ GE1104.out | refine below_set ?_ GE1111.out) | exact HB.out))) : w.heap.size ≤ gb1119)); have n15_ := Aside0.mk ((by rw [hg]; exact Nat.ne_of_lt (blk_lt (g := gb1089) (o := .cells #[.slice A0_0 l0_0.length c0_0, .slice A0_1 l0_1.length c0_1] 24 (0, 0)) (by (with_reducible repeat (first | refine blk_drewN ?_ _ | refine blk_drew ?_ | refine blk_alloc ?_ _)); exact BK1089.out)) : gb1089 ≠ gb1119)); have n16_ := Aside0.mk ((by rw [hg]; exact Nat.ne_of_gt (blk_lt (g := gb1089) (o := .cells #[.slice A0_0 l0_0.length c0_0, .slice A0_1 l0_1.length c0_1] 24 (0, 0)) (by (with_reducible repeat (first | refine blk_drewN ?_ _ | refine blk_drew ?_ | refine blk_alloc ?_ _)); exact BK1089.out)) : gb1119 ≠ gb1089)); have n17_ := Aside0.mk ((by rw [hg]; exact Nat.ne_of_lt (blk_lt (g := gb1104) (o := .cells #[.slice Ao21 t1097.length co21, .slice Ao24 t1100.length co24] 27 (0, 0)) (by (with_reducible repeat (first | refine blk_drewN ?_ _ | refine blk_drew ?_ | refine blk_alloc ?_ _)); exact BK1104.out)) : gb1104 ≠ gb1119)); have n18_ := Aside0.mk ((by rw [hg]; exact Nat.ne_of_gt (blk_lt (g := gb1104) (o := .cells #[.slice Ao21 t1097.length co21, .slice Ao24 t1100.length co24] 27 (0, 0)) (by (with_reducible repeat (first | refine blk_drewN ?_ _ | refine blk_drew ?_ | refine blk_alloc ?_ _)); exact BK1104.out)) : gb1119 ≠ gb1104)); have n19_ := Aside0.mk ((by rw [hg]; exact Nat.ne_of_lt (blk_lt (g := gb1111) (o := .cells #[.slice Ao28 t1105.length co28, .slice Ao32 t1108.length co32] 27 (0, 0)) (by (with_reducible repeat (first | refine blk_drewN ?_ _ | refine blk_drew ?_ | refine blk_alloc ?_ _)); exact BK1111.out)) : gb1111 ≠ gb1119)); have n20_ := Aside0.mk ((by rw [hg]; exact Nat.ne_of_gt (blk_lt (g := gb1111) (o := .cells #[.slice Ao28 t1105.length co28, .slice Ao32 t1108.length co32] 27 (0, 0)) (by (with_reducible repeat (first | refine blk_drewN ?_ _ | refine blk_drew ?_ | refine blk_alloc ?_ _)); exact BK1111.out)) : gb1119 ≠ gb1111)); clear HO1093; clear HO1096; clear HO1099; clear HO1102; clear HO1107; clear HO1110; clear HO1114; clear HO1117; clear BK1089; clear BK1104; clear BK1111; clear HB; have HO1093 := n0_; have HO1096 := n1_; have HO1099 := n2_; have HO1102 := n3_; have HO1107 := n4_; have HO1110 := n5_; have HO1114 := n6_; have HO1117 := n7_; have BK1089 := n8_; have BK1104 := n9_; have BK1111 := n10_; have HB := n11_; have BK1119 := n12_; have GW1119 := n13_; have GE1119 := n14_; have NB1089_1119 := n15_; have NB1119_1089 := n16_; have NB1104_1119 := n17_; have NB1119_1104 := n18_; have NB1111_1119 := n19_; have NB1119_1111 := n20_; clear n0_ n1_ n2_ n3_ n4_ n5_ n6_ n7_ n8_ n9_ n10_ n11_ n12_ n13_ n14_ n15_ n16_ n17_ n18_ n19_ n20_; clear hb hbox hg; obtain ⟨Ao35, co35, eo35⟩ := Kd.R_slice HO1114.out; subst eo35; have hnb36 := NB1119_1089.out; have hnc36 := NB1089_1119.out; have hnb37 := NB1119_1104.out; have hnc37 := NB1104_1119.out; have hnb38 := NB1119_1111.out; have hnc38 := NB1111_1119.out; have hcz39_0 : w34.cell? ⟨gb1119, 0, none⟩ = some (.slice none 0 0) := (blk_cell BK1119.out 0).trans rfl; have hcz39_1 : w34.cell? ⟨gb1119, 1, none⟩ = some (.slice none 0 0) := (blk_cell BK1119.out 1).trans rfl; have hfz39_0 := blk_frozen BK1119.out 0; have hfz39_1 := blk_frozen BK1119.out 1; obtain ⟨Ao40, co40, eo40⟩ := Kd.R_slice HO1117.out; subst eo40))
    (try simp only [Act.put, List.setIfInBounds_toArray, List.set_cons_zero, List.set_cons_succ])
    go_cut [40] (fun v40 wc => ∃ (kq : Nat) (x40_10 : Bool), v40 = .bool x40_10 ∧ Aside0 (laws_FnExactShearSurface.j0 kq t1103 t1118 x40_10 l0_0 l0_1 t1097 t1100 t1105 t1108 t1112 t1115 = some true) ∧ Aside0 (kq ≤ k) ∧ Aside0 (Kd.R (Kd.int .i64) 3 wc w.heap.size (fun k_ => some k_ ≠ ((.slice Ao24 t1100.length co24) : Value).ownBlock ∧ some k_ ≠ ((.slice Ao28 t1105.length co28) : Value).ownBlock ∧ some k_ ≠ ((.slice Ao32 t1108.length co32) : Value).ownBlock ∧ some k_ ≠ ((.slice Ao35 t1112.length co35) : Value).ownBlock ∧ some k_ ≠ ((.slice Ao40 t1115.length co40) : Value).ownBlock) (.slice Ao21 t1097.length co21) t1097) ∧ Aside0 (Kd.R (Kd.int .i64) 3 wc w.heap.size (fun k_ => some k_ ≠ ((.slice Ao21 t1097.length co21) : Value).ownBlock ∧ some k_ ≠ ((.slice Ao28 t1105.length co28) : Value).ownBlock ∧ some k_ ≠ ((.slice Ao32 t1108.length co32) : Value).ownBlock ∧ some k_ ≠ ((.slice Ao35 t1112.length co35) : Value).ownBlock ∧ some k_ ≠ ((.slice Ao40 t1115.length co40) : Value).ownBlock) (.slice Ao24 t1100.length co24) t1100) ∧ Aside0 (Kd.R (Kd.int .i64) 3 wc w.heap.size (fun k_ => some k_ ≠ ((.slice Ao21 t1097.length co21) : Value).ownBlock ∧ some k_ ≠ ((.slice Ao24 t1100.length co24) : Value).ownBlock ∧ some k_ ≠ ((.slice Ao32 t1108.length co32) : Value).ownBlock ∧ some k_ ≠ ((.slice Ao35 t1112.length co35) : Value).ownBlock ∧ some k_ ≠ ((.slice Ao40 t1115.length co40) : Value).ownBlock) (.slice Ao28 t1105.length co28) t1105) ∧ Aside0 (Kd.R (Kd.int .i64) 3 wc w.heap.size (fun k_ => some k_ ≠ ((.slice Ao21 t1097.length co21) : Value).ownBlock ∧ some k_ ≠ ((.slice Ao24 t1100.length co24) : Value).ownBlock ∧ some k_ ≠ ((.slice Ao28 t1105.length co28) : Value).ownBlock ∧ some k_ ≠ ((.slice Ao35 t1112.length co35) : Value).ownBlock ∧ some k_ ≠ ((.slice Ao40 t1115.length co40) : Value).ownBlock) (.slice Ao32 t1108.length co32) t1108) ∧ Aside0 (Kd.R (Kd.int .i64) 3 wc w.heap.size (fun k_ => some k_ ≠ ((.slice Ao21 t1097.length co21) : Value).ownBlock ∧ some k_ ≠ ((.slice Ao24 t1100.length co24) : Value).ownBlock ∧ some k_ ≠ ((.slice Ao28 t1105.length co28) : Value).ownBlock ∧ some k_ ≠ ((.slice Ao32 t1108.length co32) : Value).ownBlock ∧ some k_ ≠ ((.slice Ao40 t1115.length co40) : Value).ownBlock) (.slice Ao35 t1112.length co35) t1112) ∧ Aside0 (Kd.R (Kd.int .i64) 3 wc w.heap.size (fun k_ => some k_ ≠ ((.slice Ao21 t1097.length co21) : Value).ownBlock ∧ some k_ ≠ ((.slice Ao24 t1100.length co24) : Value).ownBlock ∧ some k_ ≠ ((.slice Ao28 t1105.length co28) : Value).ownBlock ∧ some k_ ≠ ((.slice Ao32 t1108.length co32) : Value).ownBlock ∧ some k_ ≠ ((.slice Ao35 t1112.length co35) : Value).ownBlock) (.slice Ao40 t1115.length co40) t1115) ∧ Aside0 (wc.heap[gb1089]? = some (.cells #[(.slice A0_0 l0_0.length c0_0), (.slice A0_1 l0_1.length c0_1)] 24 (0, 0))) ∧ Aside0 (wc.heap[gb1104]? = some (.cells #[(.slice Ao21 t1097.length co21), (.slice Ao24 t1100.length co24)] 27 (0, 0))) ∧ Aside0 (wc.heap[gb1111]? = some (.cells #[(.slice Ao28 t1105.length co28), (.slice Ao32 t1108.length co32)] 27 (0, 0))) ∧ Aside0 (wc.heap[gb1119]? = some (.cells #[(.slice Ao35 t1112.length co35), (.slice Ao40 t1115.length co40)] 27 (0, 0))) ∧ Aside0 (Below w.heap.size w wc))
    case first =>
      have H := HC11.out
      clear HC11
      replace H := Option.bind_eq_some_iff.mp H
      obtain ⟨t1120, A410, H⟩ := H
      replace H : (if t1120 = true then (laws_FnExactShearSurface.j0 k t1103 t1118 (t1118 != t1103) l0_0 l0_1 t1097 t1100 t1105 t1108 t1112 t1115) else (laws_FnExactShearSurface.j0 k t1103 t1118 true l0_0 l0_1 t1097 t1100 t1105 t1108 t1112 t1115)) = some true := H
      have A41 := Aside0.mk A410
      clear A410
      by_cases c42 : t1120 = true
      · subst c42
        have H1 : (laws_FnExactShearSurface.j0 k t1103 t1118 (t1118 != t1103) l0_0 l0_1 t1097 t1100 t1105 t1108 t1112 t1115) = some true := by rw [if_pos rfl] at H; exact H
        clear H
        have H := H1
        clear H1
        have H' := Aside0.mk H
        clear H
        have hnb43 := NB1119_1089.out
        have hnc43 := NB1089_1119.out
        have hnb44 := NB1119_1104.out
        have hnc44 := NB1104_1119.out
        have hnb45 := NB1119_1111.out
        have hnc45 := NB1111_1119.out
        have hcz46_0 : w34.cell? ⟨gb1119, 0, none⟩ = some (.slice none 0 0) := (blk_cell BK1119.out 0).trans rfl
        have hcz46_1 : w34.cell? ⟨gb1119, 1, none⟩ = some (.slice none 0 0) := (blk_cell BK1119.out 1).trans rfl
        have hfz46_0 := blk_frozen BK1119.out 0
        have hfz46_1 := blk_frozen BK1119.out 1
        have hnb47 := NB1104_1089.out
        have hnc47 := NB1089_1104.out
        have hnb48 := NB1104_1111.out
        have hnc48 := NB1111_1104.out
        have hcz49_0 : w34.cell? ⟨gb1104, 0, none⟩ = some (.slice Ao21 t1097.length co21) := (blk_cell BK1104.out 0).trans rfl
        have hcz49_1 : w34.cell? ⟨gb1104, 1, none⟩ = some (.slice Ao24 t1100.length co24) := (blk_cell BK1104.out 1).trans rfl
        have hfz49_0 := blk_frozen BK1104.out 0
        have hfz49_1 := blk_frozen BK1104.out 1
        go_wp2_with (first | ((with_reducible refine gate_callee (f := 19) rfl ?_); refine goesL_ (some 34) rfl rfl Try.func19 (by kernel_rfl) rfl #[.agg #[.slice Ao35 t1112.length co35, .slice Ao40 t1115.length co40], .agg #[.slice Ao21 t1097.length co21, .slice Ao24 t1100.length co24]] rfl (by (try simp only [List.map_toArray, List.map_cons, List.map_nil]); first | done | rfl | (simp only [List.length_drop, List.length_take]; rfl)) ?_; (with_reducible refine (laws_eqSurface.calls k _ _ t1112 _ _ t1115 _ _ t1097 _ _ t1100 true _ ?side1 ?side2 ?side3 ?side4 ?side5 ?side6 ?side7 ?side8 A41.out).mono ?_); (case side1 => refine (Kd.R_reads' (e := 3) (base := w.heap.size) (ok := fun k_ => ((((((some k_ ≠ (.slice Ao40 t1115.length co40 : Value).ownBlock ∧ some k_ ≠ (.slice Ao17 t1091.length co17 : Value).ownBlock) ∧ some k_ ≠ (.slice Ao18 t1094.length co18 : Value).ownBlock) ∧ some k_ ≠ (.slice Ao21 t1097.length co21 : Value).ownBlock) ∧ some k_ ≠ (.slice Ao24 t1100.length co24 : Value).ownBlock) ∧ some k_ ≠ (.slice Ao28 t1105.length co28 : Value).ownBlock) ∧ some k_ ≠ (.slice Ao32 t1108.length co32 : Value).ownBlock)) (n := t1112.length) (c := co35) ?_).2.2; exact (by (with_reducible repeat (first | apply Kd.R_alloc | apply Kd.R_drewN | apply Kd.R_drew)); exact (Kd.R_mono (Kd.R_far (p := ⟨gb1119, 1, none⟩) (Kd.R_far (p := ⟨gb1119, 0, none⟩) (Kd.R_types HO1114.out BK1119.out (by decide)) (fun _ hk => hk.2) (.slice Ao35 t1112.length co35)) (fun _ hk => hk.2) (.slice Ao40 t1115.length co40)) (fun _ h_ => h_.1)))); (case side2 => exact (Kd.R_reads' HO1114.out).2.1); (case side3 => refine (Kd.R_reads' (e := 3) (base := w.heap.size) (ok := fun k_ => ((((((some k_ ≠ (.slice Ao35 t1112.length co35 : Value).ownBlock ∧ some k_ ≠ (.slice Ao17 t1091.length co17 : Value).ownBlock) ∧ some k_ ≠ (.slice Ao18 t1094.length co18 : Value).ownBlock) ∧ some k_ ≠ (.slice Ao21 t1097.length co21 : Value).ownBlock) ∧ some k_ ≠ (.slice Ao24 t1100.length co24 : Value).ownBlock) ∧ some k_ ≠ (.slice Ao28 t1105.length co28 : Value).ownBlock) ∧ some k_ ≠ (.slice Ao32 t1108.length co32 : Value).ownBlock)) (n := t1115.length) (c := co40) ?_).2.2; exact (by (with_reducible repeat (first | apply Kd.R_alloc | apply Kd.R_drewN | apply Kd.R_drew)); exact (Kd.R_mono (Kd.R_far (p := ⟨gb1119, 1, none⟩) (Kd.R_far (p := ⟨gb1119, 0, none⟩) (Kd.R_types HO1117.out BK1119.out (by decide)) (fun _ hk => hk.2) (.slice Ao35 t1112.length co35)) (fun _ hk => hk.2) (.slice Ao40 t1115.length co40)) (fun _ h_ => h_.1)))); (case side4 => exact (Kd.R_reads' HO1117.out).2.1); (case side5 => refine (Kd.R_reads' (e := 3) (base := w.heap.size) (ok := fun k_ => ((((((some k_ ≠ (.slice Ao24 t1100.length co24 : Value).ownBlock ∧ some k_ ≠ (.slice Ao17 t1091.length co17 : Value).ownBlock) ∧ some k_ ≠ (.slice Ao18 t1094.length co18 : Value).ownBlock) ∧ some k_ ≠ (.slice Ao28 t1105.length co28 : Value).ownBlock) ∧ some k_ ≠ (.slice Ao32 t1108.length co32 : Value).ownBlock) ∧ some k_ ≠ (.slice Ao35 t1112.length co35 : Value).ownBlock) ∧ some k_ ≠ (.slice Ao40 t1115.length co40 : Value).ownBlock)) (n := t1097.length) (c := co21) ?_).2.2; exact (by (with_reducible repeat (first | apply Kd.R_alloc | apply Kd.R_drewN | apply Kd.R_drew)); exact (Kd.R_mono (Kd.R_far (p := ⟨gb1119, 1, none⟩) (Kd.R_far (p := ⟨gb1119, 0, none⟩) (Kd.R_types HO1099.out BK1119.out (by decide)) (fun _ hk => hk.2) (.slice Ao35 t1112.length co35)) (fun _ hk => hk.2) (.slice Ao40 t1115.length co40)) (fun _ h_ => h_.1)))); (case side6 => exact (Kd.R_reads' HO1099.out).2.1); (case side7 => refine (Kd.R_reads' (e := 3) (base := w.heap.size) (ok := fun k_ => ((((((some k_ ≠ (.slice Ao21 t1097.length co21 : Value).ownBlock ∧ some k_ ≠ (.slice Ao17 t1091.length co17 : Value).ownBlock) ∧ some k_ ≠ (.slice Ao18 t1094.length co18 : Value).ownBlock) ∧ some k_ ≠ (.slice Ao28 t1105.length co28 : Value).ownBlock) ∧ some k_ ≠ (.slice Ao32 t1108.length co32 : Value).ownBlock) ∧ some k_ ≠ (.slice Ao35 t1112.length co35 : Value).ownBlock) ∧ some k_ ≠ (.slice Ao40 t1115.length co40 : Value).ownBlock)) (n := t1100.length) (c := co24) ?_).2.2; exact (by (with_reducible repeat (first | apply Kd.R_alloc | apply Kd.R_drewN | apply Kd.R_drew)); exact (Kd.R_mono (Kd.R_far (p := ⟨gb1119, 1, none⟩) (Kd.R_far (p := ⟨gb1119, 0, none⟩) (Kd.R_types HO1102.out BK1119.out (by decide)) (fun _ hk => hk.2) (.slice Ao35 t1112.length co35)) (fun _ hk => hk.2) (.slice Ao40 t1115.length co40)) (fun _ h_ => h_.1)))); (case side8 => exact (Kd.R_reads' HO1102.out).2.1); rintro e w50 ⟨rfl, hb⟩; refine ⟨_, rfl, ?_⟩; have n0_ := Aside0.mk (Kd.R_below (by (with_reducible repeat (first | apply Kd.R_alloc | apply Kd.R_drewN | apply Kd.R_drew)); exact (Kd.R_mono (Kd.R_far (p := ⟨gb1119, 1, none⟩) (Kd.R_far (p := ⟨gb1119, 0, none⟩) (Kd.R_types HO1093.out BK1119.out (by decide)) (fun _ hk => hk.2) (.slice Ao35 t1112.length co35)) (fun _ hk => hk.2) (.slice Ao40 t1115.length co40)) (fun _ h_ => h_.1))) hb); have n1_ := Aside0.mk (Kd.R_below (by (with_reducible repeat (first | apply Kd.R_alloc | apply Kd.R_drewN | apply Kd.R_drew)); exact (Kd.R_mono (Kd.R_far (p := ⟨gb1119, 1, none⟩) (Kd.R_far (p := ⟨gb1119, 0, none⟩) (Kd.R_types HO1096.out BK1119.out (by decide)) (fun _ hk => hk.2) (.slice Ao35 t1112.length co35)) (fun _ hk => hk.2) (.slice Ao40 t1115.length co40)) (fun _ h_ => h_.1))) hb); have n2_ := Aside0.mk (Kd.R_below (by (with_reducible repeat (first | apply Kd.R_alloc | apply Kd.R_drewN | apply Kd.R_drew)); exact (Kd.R_mono (Kd.R_far (p := ⟨gb1119, 1, none⟩) (Kd.R_far (p := ⟨gb1119, 0, none⟩) (Kd.R_types HO1099.out BK1119.out (by decide)) (fun _ hk => hk.2) (.slice Ao35 t1112.length co35)) (fun _ hk => hk.2) (.slice Ao40 t1115.length co40)) (fun _ h_ => h_.1))) hb); have n3_ := Aside0.mk (Kd.R_below (by (with_reducible repeat (first | apply Kd.R_alloc | apply Kd.R_drewN | apply Kd.R_drew)); exact (Kd.R_mono (Kd.R_far (p := ⟨gb1119, 1, none⟩) (Kd.R_far (p := ⟨gb1119, 0, none⟩) (Kd.R_types HO1102.out BK1119.out (by decide)) (fun _ hk => hk.2) (.slice Ao35 t1112.length co35)) (fun _ hk => hk.2) (.slice Ao40 t1115.length co40)) (fun _ h_ => h_.1))) hb); have n4_ := Aside0.mk (Kd.R_below (by (with_reducible repeat (first | apply Kd.R_alloc | apply Kd.R_drewN | apply Kd.R_drew)); exact (Kd.R_mono (Kd.R_far (p := ⟨gb1119, 1, none⟩) (Kd.R_far (p := ⟨gb1119, 0, none⟩) (Kd.R_types HO1107.out BK1119.out (by decide)) (fun _ hk => hk.2) (.slice Ao35 t1112.length co35)) (fun _ hk => hk.2) (.slice Ao40 t1115.length co40)) (fun _ h_ => h_.1))) hb); have n5_ := Aside0.mk (Kd.R_below (by (with_reducible repeat (first | apply Kd.R_alloc | apply Kd.R_drewN | apply Kd.R_drew)); exact (Kd.R_mono (Kd.R_far (p := ⟨gb1119, 1, none⟩) (Kd.R_far (p := ⟨gb1119, 0, none⟩) (Kd.R_types HO1110.out BK1119.out (by decide)) (fun _ hk => hk.2) (.slice Ao35 t1112.length co35)) (fun _ hk => hk.2) (.slice Ao40 t1115.length co40)) (fun _ h_ => h_.1))) hb); have n6_ := Aside0.mk (Kd.R_below (by (with_reducible repeat (first | apply Kd.R_alloc | apply Kd.R_drewN | apply Kd.R_drew)); exact (Kd.R_mono (Kd.R_far (p := ⟨gb1119, 1, none⟩) (Kd.R_far (p := ⟨gb1119, 0, none⟩) (Kd.R_types HO1114.out BK1119.out (by decide)) (fun _ hk => hk.2) (.slice Ao35 t1112.length co35)) (fun _ hk => hk.2) (.slice Ao40 t1115.length co40)) (fun _ h_ => h_.1))) hb); have n7_ := Aside0.mk (Kd.R_below (by (with_reducible repeat (first | apply Kd.R_alloc | apply Kd.R_drewN | apply Kd.R_drew)); exact (Kd.R_mono (Kd.R_far (p := ⟨gb1119, 1, none⟩) (Kd.R_far (p := ⟨gb1119, 0, none⟩) (Kd.R_types HO1117.out BK1119.out (by decide)) (fun _ hk => hk.2) (.slice Ao35 t1112.length co35)) (fun _ hk => hk.2) (.slice Ao40 t1115.length co40)) (fun _ h_ => h_.1))) hb); have n8_ := Aside0.mk (blk_below (g := gb1089) (o := .cells #[.slice A0_0 l0_0.length c0_0, .slice A0_1 l0_1.length c0_1] 24 (0, 0)) (by (with_reducible repeat (first | refine blk_drewN ?_ _ | refine blk_drew ?_ | refine blk_alloc ?_ _)); refine blk_far ?_ NB1089_1119.out _; (with_reducible repeat (first | refine blk_drewN ?_ _ | refine blk_drew ?_ | refine blk_alloc ?_ _)); refine blk_far ?_ NB1089_1119.out _; (with_reducible repeat (first | refine blk_drewN ?_ _ | refine blk_drew ?_ | refine blk_alloc ?_ _)); exact BK1089.out) hb); have n9_ := Aside0.mk (blk_below (g := gb1104) (o := .cells #[.slice Ao21 t1097.length co21, .slice Ao24 t1100.length co24] 27 (0, 0)) (by (with_reducible repeat (first | refine blk_drewN ?_ _ | refine blk_drew ?_ | refine blk_alloc ?_ _)); refine blk_far ?_ NB1104_1119.out _; (with_reducible repeat (first | refine blk_drewN ?_ _ | refine blk_drew ?_ | refine blk_alloc ?_ _)); refine blk_far ?_ NB1104_1119.out _; (with_reducible repeat (first | refine blk_drewN ?_ _ | refine blk_drew ?_ | refine blk_alloc ?_ _)); exact BK1104.out) hb); have n10_ := Aside0.mk (blk_below (g := gb1111) (o := .cells #[.slice Ao28 t1105.length co28, .slice Ao32 t1108.length co32] 27 (0, 0)) (by (with_reducible repeat (first | refine blk_drewN ?_ _ | refine blk_drew ?_ | refine blk_alloc ?_ _)); refine blk_far ?_ NB1111_1119.out _; (with_reducible repeat (first | refine blk_drewN ?_ _ | refine blk_drew ?_ | refine blk_alloc ?_ _)); refine blk_far ?_ NB1111_1119.out _; (with_reducible repeat (first | refine blk_drewN ?_ _ | refine blk_drew ?_ | refine blk_alloc ?_ _)); exact BK1111.out) hb); have n11_ := Aside0.mk (blk_below (g := gb1119) (o := .cells #[.slice Ao35 t1112.length co35, .slice Ao40 t1115.length co40] 27 (0, 0)) (by (with_reducible repeat (first | refine blk_drewN ?_ _ | refine blk_drew ?_ | refine blk_alloc ?_ _)); refine blk_put (cs := #[.slice Ao35 t1112.length co35, .slice none 0 0]) ?_ 1 _ rfl; (with_reducible repeat (first | refine blk_drewN ?_ _ | refine blk_drew ?_ | refine blk_alloc ?_ _)); refine blk_put (cs := #[.slice none 0 0, .slice none 0 0]) ?_ 0 _ rfl; (with_reducible repeat (first | refine blk_drewN ?_ _ | refine blk_drew ?_ | refine blk_alloc ?_ _)); exact BK1119.out) hb); have n12_ := Aside0.mk (below_step (by repeat (first | (with_reducible first | exact HB.out | apply below_alloc | apply pw_below_drewN | apply below_drew1 | refine below_set ?_ GE1089.out | refine below_set ?_ GE1104.out | refine below_set ?_ GE1111.out | refine below_set ?_ GE1119.out) | exact HB.out)) hb); clear HO1093; clear HO1096; clear HO1099; clear HO1102; clear HO1107; clear HO1110; clear HO1114; clear HO1117; clear BK1089; clear BK1104; clear BK1111; clear BK1119; clear HB; have HO1093 := n0_; have HO1096 := n1_; have HO1099 := n2_; have HO1102 := n3_; have HO1107 := n4_; have HO1110 := n5_; have HO1114 := n6_; have HO1117 := n7_; have BK1089 := n8_; have BK1104 := n9_; have BK1111 := n10_; have BK1119 := n11_; have HB := n12_; clear n0_ n1_ n2_ n3_ n4_ n5_ n6_ n7_ n8_ n9_ n10_ n11_ n12_; (try clear hb); (try clear hb2); (try clear hk); (try clear hi)))
        go_meet
        case rel => exact ⟨_, ((t1118 != t1103)), (by first | rfl | (simp; done) | (simp [*]; done)), H', ⟨by first | omega | exact Nat.le_refl _⟩, ⟨by (with_reducible repeat (first | apply Kd.R_alloc | apply Kd.R_drewN | apply Kd.R_drew)); exact Kd.R_mono HO1099.out (fun _ hk => ⟨hk.1.1.1.1.1.1, ⟨hk.1.1.1.2, ⟨hk.1.1.2, ⟨hk.1.2, hk.2⟩⟩⟩⟩)⟩, ⟨by (with_reducible repeat (first | apply Kd.R_alloc | apply Kd.R_drewN | apply Kd.R_drew)); exact Kd.R_mono HO1102.out (fun _ hk => ⟨hk.1.1.1.1.1.1, ⟨hk.1.1.1.2, ⟨hk.1.1.2, ⟨hk.1.2, hk.2⟩⟩⟩⟩)⟩, ⟨by (with_reducible repeat (first | apply Kd.R_alloc | apply Kd.R_drewN | apply Kd.R_drew)); exact Kd.R_mono HO1107.out (fun _ hk => ⟨hk.1.1.1.2, ⟨hk.1.1.2, ⟨hk.1.1.1.1.1.1, ⟨hk.1.2, hk.2⟩⟩⟩⟩)⟩, ⟨by (with_reducible repeat (first | apply Kd.R_alloc | apply Kd.R_drewN | apply Kd.R_drew)); exact Kd.R_mono HO1110.out (fun _ hk => ⟨hk.1.1.1.2, ⟨hk.1.1.2, ⟨hk.1.1.1.1.1.1, ⟨hk.1.2, hk.2⟩⟩⟩⟩)⟩, ⟨by (with_reducible repeat (first | apply Kd.R_alloc | apply Kd.R_drewN | apply Kd.R_drew)); exact Kd.R_mono HO1114.out (fun _ hk => ⟨hk.1.1.1.2, ⟨hk.1.1.2, ⟨hk.1.2, ⟨hk.2, hk.1.1.1.1.1.1⟩⟩⟩⟩)⟩, ⟨by (with_reducible repeat (first | apply Kd.R_alloc | apply Kd.R_drewN | apply Kd.R_drew)); exact Kd.R_mono HO1117.out (fun _ hk => ⟨hk.1.1.1.2, ⟨hk.1.1.2, ⟨hk.1.2, ⟨hk.2, hk.1.1.1.1.1.1⟩⟩⟩⟩)⟩, ⟨by (with_reducible repeat (first | refine blk_drewN ?_ _ | refine blk_drew ?_ | refine blk_alloc ?_ _)); exact BK1089.out⟩, ⟨by (with_reducible repeat (first | refine blk_drewN ?_ _ | refine blk_drew ?_ | refine blk_alloc ?_ _)); exact BK1104.out⟩, ⟨by (with_reducible repeat (first | refine blk_drewN ?_ _ | refine blk_drew ?_ | refine blk_alloc ?_ _)); exact BK1111.out⟩, ⟨by (with_reducible repeat (first | refine blk_drewN ?_ _ | refine blk_drew ?_ | refine blk_alloc ?_ _)); exact BK1119.out⟩, ⟨by repeat (first | (with_reducible first | exact HB.out | apply below_alloc | apply pw_below_drewN | apply below_drew1 | refine below_set ?_ GE1089.out | refine below_set ?_ GE1104.out | refine below_set ?_ GE1111.out | refine below_set ?_ GE1119.out) | exact HB.out)⟩⟩
      · replace c42 := Bool.eq_false_iff.mpr c42
        subst c42
        have H1 : (laws_FnExactShearSurface.j0 k t1103 t1118 true l0_0 l0_1 t1097 t1100 t1105 t1108 t1112 t1115) = some true := by rw [if_neg (show ¬ (false = true) by decide)] at H; exact H
        clear H
        have H := H1
        clear H1
        exact absurd H (by cases k <;> simp [laws_FnExactShearSurface.j0])
    case rest =>
      clear HC11
      try clear c1
      try clear c2
      try clear p2
      try clear c3
      try clear c3b0
      try clear c4
      try clear c5
      try clear c14
      try clear c15
      try clear c17
      try clear c19
      try clear c22
      try clear c29
      try clear c30
      try clear c36
      try clear c37
      try clear c38
      try clear c42
      try clear c43
      try clear c44
      try clear c45
      try clear c47
      try clear c48
      try clear c51
      try clear c52
      try clear c53
      try clear c55
      try clear c56
      try clear hcz13_0
      try clear hcz13_1
      try clear hcz15_0
      try clear hcz15_1
      try clear hcz23_0
      try clear hcz23_1
      try clear hcz25_0
      try clear hcz25_1
      try clear hcz31_0
      try clear hcz31_1
      try clear hcz39_0
      try clear hcz39_1
      try clear hcz46_0
      try clear hcz46_1
      try clear hcz49_0
      try clear hcz49_1
      try clear hcz54_0
      try clear hcz54_1
      try clear hcz57_0
      try clear hcz57_1
      try clear hcz5_0
      try clear hcz5_1
      try clear hfz13_0
      try clear hfz13_1
      try clear hfz15_0
      try clear hfz15_1
      try clear hfz23_0
      try clear hfz23_1
      try clear hfz25_0
      try clear hfz25_1
      try clear hfz31_0
      try clear hfz31_1
      try clear hfz39_0
      try clear hfz39_1
      try clear hfz46_0
      try clear hfz46_1
      try clear hfz49_0
      try clear hfz49_1
      try clear hfz54_0
      try clear hfz54_1
      try clear hfz57_0
      try clear hfz57_1
      try clear hfz5_0
      try clear hfz5_1
      obtain ⟨kq, x40_10, rfl, HA, HJ10, HO_1105000, HO_1105001, HO_1112000, HO_1112001, HO_1120000, HO_1120001, BK1089, BK1104, BK1111, BK1119, HB⟩ := hcut
      cases kq with
      | zero => exact absurd HA.out (by simp [laws_FnExactShearSurface.j0])
      | succ kj10 =>
        have H := HA.out
        clear HA
        simp only [laws_FnExactShearSurface.j0] at H
        by_cases c59 : x40_10 = true
        · subst c59
          have H1 : (some false) = some true := by rw [if_pos rfl] at H; exact H
          clear H
          have H := H1
          clear H1
          exact absurd H (by simp)
        · replace c59 := Bool.eq_false_iff.mpr c59
          subst c59
          have H1 : ((laws_toSurface.f kj10 l0_0 l0_1).bind fun bt1121 => ((laws_eqSurface.f kj10 t1105 t1108 bt1121.1 bt1121.2).bind fun t1127 => (if t1127 = true then ((laws_markSurface.f kj10 t1105 t1108 1).bind fun bt1128 => (if bt1128.1 < 0 then (laws_FnExactShearSurface.j1 kj10 t1103 true l0_0 l0_1 t1097 t1100 t1112 t1115) else ((laws_eqSurface.f kj10 t1112 t1115 t1097 t1100).bind fun t1131 => (if t1131 = true then (laws_FnExactShearSurface.j1 kj10 t1103 (t1118 != t1103) l0_0 l0_1 t1097 t1100 t1112 t1115) else (laws_FnExactShearSurface.j1 kj10 t1103 true l0_0 l0_1 t1097 t1100 t1112 t1115))))) else (some false)))) = some true := by rw [if_neg (show ¬ (false = true) by decide)] at H; exact H
          clear H
          have H := H1
          clear H1
          replace H := Option.bind_eq_some_iff.mp H
          obtain ⟨⟨t1121, t1124⟩, A600, H⟩ := H
          replace H : ((laws_eqSurface.f kj10 t1105 t1108 t1121 t1124).bind fun t1127 => (if t1127 = true then ((laws_markSurface.f kj10 t1105 t1108 1).bind fun bt1128 => (if bt1128.1 < 0 then (laws_FnExactShearSurface.j1 kj10 t1103 true l0_0 l0_1 t1097 t1100 t1112 t1115) else ((laws_eqSurface.f kj10 t1112 t1115 t1097 t1100).bind fun t1131 => (if t1131 = true then (laws_FnExactShearSurface.j1 kj10 t1103 (t1118 != t1103) l0_0 l0_1 t1097 t1100 t1112 t1115) else (laws_FnExactShearSurface.j1 kj10 t1103 true l0_0 l0_1 t1097 t1100 t1112 t1115))))) else (some false))) = some true := H
          have A60 := Aside0.mk A600
          clear A600
          replace H := Option.bind_eq_some_iff.mp H
          obtain ⟨t1127, A610, H⟩ := H
          replace H : (if t1127 = true then ((laws_markSurface.f kj10 t1105 t1108 1).bind fun bt1128 => (if bt1128.1 < 0 then (laws_FnExactShearSurface.j1 kj10 t1103 true l0_0 l0_1 t1097 t1100 t1112 t1115) else ((laws_eqSurface.f kj10 t1112 t1115 t1097 t1100).bind fun t1131 => (if t1131 = true then (laws_FnExactShearSurface.j1 kj10 t1103 (t1118 != t1103) l0_0 l0_1 t1097 t1100 t1112 t1115) else (laws_FnExactShearSurface.j1 kj10 t1103 true l0_0 l0_1 t1097 t1100 t1112 t1115))))) else (some false)) = some true := H
          have A61 := Aside0.mk A610
          clear A610
          by_cases c62 : t1127 = true
          · subst c62
            have H1 : ((laws_markSurface.f kj10 t1105 t1108 1).bind fun bt1128 => (if bt1128.1 < 0 then (laws_FnExactShearSurface.j1 kj10 t1103 true l0_0 l0_1 t1097 t1100 t1112 t1115) else ((laws_eqSurface.f kj10 t1112 t1115 t1097 t1100).bind fun t1131 => (if t1131 = true then (laws_FnExactShearSurface.j1 kj10 t1103 (t1118 != t1103) l0_0 l0_1 t1097 t1100 t1112 t1115) else (laws_FnExactShearSurface.j1 kj10 t1103 true l0_0 l0_1 t1097 t1100 t1112 t1115))))) = some true := by rw [if_pos rfl] at H; exact H
            clear H
            have H := H1
            clear H1
            replace H := Option.bind_eq_some_iff.mp H
            obtain ⟨⟨t1128, t1129, t1130⟩, A630, H⟩ := H
            replace H : (if t1128 < 0 then (laws_FnExactShearSurface.j1 kj10 t1103 true l0_0 l0_1 t1097 t1100 t1112 t1115) else ((laws_eqSurface.f kj10 t1112 t1115 t1097 t1100).bind fun t1131 => (if t1131 = true then (laws_FnExactShearSurface.j1 kj10 t1103 (t1118 != t1103) l0_0 l0_1 t1097 t1100 t1112 t1115) else (laws_FnExactShearSurface.j1 kj10 t1103 true l0_0 l0_1 t1097 t1100 t1112 t1115)))) = some true := H
            have A63 := Aside0.mk A630
            clear A630
            have HC64 := Aside0.mk H
            clear H
            try go_wp2
            have n0_ := Aside0.mk (Kd.R_drew HO_1105000.out)
            have n1_ := Aside0.mk (Kd.R_drew HO_1105001.out)
            have n2_ := Aside0.mk (Kd.R_drew HO_1112000.out)
            have n3_ := Aside0.mk (Kd.R_drew HO_1112001.out)
            have n4_ := Aside0.mk (Kd.R_drew HO_1120000.out)
            have n5_ := Aside0.mk (Kd.R_drew HO_1120001.out)
            have n6_ := Aside0.mk (blk_drew BK1089.out)
            have n7_ := Aside0.mk (blk_drew BK1104.out)
            have n8_ := Aside0.mk (blk_drew BK1111.out)
            have n9_ := Aside0.mk (blk_drew BK1119.out)
            have n10_ := Aside0.mk (below_drew1 HB.out)
            clear HO_1105000 HO_1105001 HO_1112000 HO_1112001 HO_1120000 HO_1120001 BK1089 BK1104 BK1111 BK1119 HB
            have HO_1105000 := n0_
            have HO_1105001 := n1_
            have HO_1112000 := n2_
            have HO_1112001 := n3_
            have HO_1120000 := n4_
            have HO_1120001 := n5_
            have BK1089 := n6_
            have BK1104 := n7_
            have BK1111 := n8_
            have BK1119 := n9_
            have HB := n10_
            clear n0_ n1_ n2_ n3_ n4_ n5_ n6_ n7_ n8_ n9_ n10_
            refine start_ (n := 5) (S := fun w' => w'.cell? ⟨gb1111, 0, none⟩ = some (.slice Ao28 t1105.length co28) ∧ w'.cell? ⟨gb1111, 1, none⟩ = some (.slice Ao32 t1108.length co32) ∧ w'.cell? ⟨gb1089, 0, none⟩ = some (.slice A0_0 l0_0.length c0_0) ∧ w'.cell? ⟨gb1089, 1, none⟩ = some (.slice A0_1 l0_1.length c0_1)) (ds := []) #[false, false, false, false, false] (by kernel_rfl) rfl rfl ⟨(blk_cell BK1111.out 0).trans rfl, (blk_cell BK1111.out 1).trans rfl, (blk_cell BK1089.out 0).trans rfl, (blk_cell BK1089.out 1).trans rfl⟩ (fun hHeld => ?_)
            generalize wc.drew = w65 at HO_1105000 HO_1105001 HO_1112000 HO_1112001 HO_1120000 HO_1120001 BK1089 BK1104 BK1111 BK1119 HB hHeld ⊢
            refine take_ (i := 0) (N := some 41) (v := ?_) (a' := ?_) #[true, false, false, false, false] rfl rfl (by kernel_rfl) (fun _ _ _ h => h) (Or.inl ⟨by rfl, ?_⟩) hHeld ?_ ?_
            rotate_left
            · rintro w' ⟨s0, s1, s2, s3⟩
              go_simp
              with_reducible rfl
            rotate_left
            · simp only [Act.put, List.setIfInBounds_toArray, List.set_cons_zero, List.set_cons_succ, i64_w, i32_w]
              rfl
            refine take_ (i := 1) (N := some 42) (v := ?_) (a' := ?_) #[true, true, false, false, false] rfl rfl (by kernel_rfl) (fun _ _ _ h => h) (Or.inl ⟨by rfl, ?_⟩) hHeld ?_ ?_
            rotate_left
            · rintro w' ⟨s0, s1, s2, s3⟩
              go_simp
              with_reducible rfl
            rotate_left
            · simp only [Act.put, List.setIfInBounds_toArray, List.set_cons_zero, List.set_cons_succ, i64_w, i32_w]
              rfl
            refine one_ (i := 2) (N := some 43) #[true, true, true, false, false] rfl rfl (by kernel_rfl) (by decide) (fun K hK => ?_)
            refine goes_ Try.func17 (by kernel_rfl) rfl #[.agg #[.slice A0_0 l0_0.length c0_0, .slice A0_1 l0_1.length c0_1]] (by rfl) rfl rfl (by (try simp only [List.map_toArray, List.map_cons, List.map_nil]); first | done | rfl | (simp only [List.length_drop, List.length_take]; rfl)) ?_
            with_reducible refine (laws_toSurface.calls kj10 _ _ l0_0 _ _ l0_1 t1121 t1124 _ ?side1 ?side2 ?side3 ?side4 A60.out).mono ?_
            (case side1 => repeat (first | exact (Kd.C_below HR0_0.out HB.out) | (with_reducible refine Kd.C_alloc ?_ _) | (with_reducible refine Kd.C_drewN ?_ _) | (with_reducible refine Kd.C_drew ?_)))
            (case side2 => exact HC0_0.out)
            (case side3 => repeat (first | exact (Kd.C_below HR0_1.out HB.out) | (with_reducible refine Kd.C_alloc ?_ _) | (with_reducible refine Kd.C_drewN ?_ _) | (with_reducible refine Kd.C_drew ?_)))
            (case side4 => exact HC0_1.out)
            rintro e w66 ⟨v1122, v1125, rfl, ho0, ho1, hb⟩
            refine ⟨_, rfl, ?_⟩
            have n0_ := Aside0.mk (Kd.R_mono (Kd.R_told (Kd.R_told (Kd.R_old (by (with_reducible repeat (first | apply Kd.R_alloc | apply Kd.R_drewN | apply Kd.R_drew)); exact HO_1105000.out) hb) (Kd.R_base ho0)) (Kd.R_base ho1)) (fun _ h_ => h_.1))
            have n1_ := Aside0.mk (Kd.R_mono (Kd.R_told (Kd.R_told (Kd.R_old (by (with_reducible repeat (first | apply Kd.R_alloc | apply Kd.R_drewN | apply Kd.R_drew)); exact HO_1105001.out) hb) (Kd.R_base ho0)) (Kd.R_base ho1)) (fun _ h_ => h_.1))
            have n2_ := Aside0.mk (Kd.R_mono (Kd.R_told (Kd.R_told (Kd.R_old (by (with_reducible repeat (first | apply Kd.R_alloc | apply Kd.R_drewN | apply Kd.R_drew)); exact HO_1112000.out) hb) (Kd.R_base ho0)) (Kd.R_base ho1)) (fun _ h_ => h_.1))
            have n3_ := Aside0.mk (Kd.R_mono (Kd.R_told (Kd.R_told (Kd.R_old (by (with_reducible repeat (first | apply Kd.R_alloc | apply Kd.R_drewN | apply Kd.R_drew)); exact HO_1112001.out) hb) (Kd.R_base ho0)) (Kd.R_base ho1)) (fun _ h_ => h_.1))
            have n4_ := Aside0.mk (Kd.R_mono (Kd.R_told (Kd.R_told (Kd.R_old (by (with_reducible repeat (first | apply Kd.R_alloc | apply Kd.R_drewN | apply Kd.R_drew)); exact HO_1120000.out) hb) (Kd.R_base ho0)) (Kd.R_base ho1)) (fun _ h_ => h_.1))
            have n5_ := Aside0.mk (Kd.R_mono (Kd.R_told (Kd.R_told (Kd.R_old (by (with_reducible repeat (first | apply Kd.R_alloc | apply Kd.R_drewN | apply Kd.R_drew)); exact HO_1120001.out) hb) (Kd.R_base ho0)) (Kd.R_base ho1)) (fun _ h_ => h_.1))
            have n6_ := Aside0.mk (Kd.R_lower (Kd.R_new' (Kd.R_new' (Kd.R_new' (Kd.R_new' (Kd.R_new' (Kd.R_new' ho0 (Kd.R_lt (by (with_reducible repeat (first | apply Kd.R_alloc | apply Kd.R_drewN | apply Kd.R_drew)); exact HO_1105000.out))) (Kd.R_lt (by (with_reducible repeat (first | apply Kd.R_alloc | apply Kd.R_drewN | apply Kd.R_drew)); exact HO_1105001.out))) (Kd.R_lt (by (with_reducible repeat (first | apply Kd.R_alloc | apply Kd.R_drewN | apply Kd.R_drew)); exact HO_1112000.out))) (Kd.R_lt (by (with_reducible repeat (first | apply Kd.R_alloc | apply Kd.R_drewN | apply Kd.R_drew)); exact HO_1112001.out))) (Kd.R_lt (by (with_reducible repeat (first | apply Kd.R_alloc | apply Kd.R_drewN | apply Kd.R_drew)); exact HO_1120000.out))) (Kd.R_lt (by (with_reducible repeat (first | apply Kd.R_alloc | apply Kd.R_drewN | apply Kd.R_drew)); exact HO_1120001.out))) (below_size (by repeat (first | (with_reducible first | exact HB.out | apply below_alloc | apply pw_below_drewN | apply below_drew1 | refine below_set ?_ GE1089.out | refine below_set ?_ GE1104.out | refine below_set ?_ GE1111.out | refine below_set ?_ GE1119.out) | exact HB.out))))
            have n7_ := Aside0.mk (Kd.R_lower (Kd.R_new' (Kd.R_new' (Kd.R_new' (Kd.R_new' (Kd.R_new' (Kd.R_new' ho1 (Kd.R_lt (by (with_reducible repeat (first | apply Kd.R_alloc | apply Kd.R_drewN | apply Kd.R_drew)); exact HO_1105000.out))) (Kd.R_lt (by (with_reducible repeat (first | apply Kd.R_alloc | apply Kd.R_drewN | apply Kd.R_drew)); exact HO_1105001.out))) (Kd.R_lt (by (with_reducible repeat (first | apply Kd.R_alloc | apply Kd.R_drewN | apply Kd.R_drew)); exact HO_1112000.out))) (Kd.R_lt (by (with_reducible repeat (first | apply Kd.R_alloc | apply Kd.R_drewN | apply Kd.R_drew)); exact HO_1112001.out))) (Kd.R_lt (by (with_reducible repeat (first | apply Kd.R_alloc | apply Kd.R_drewN | apply Kd.R_drew)); exact HO_1120000.out))) (Kd.R_lt (by (with_reducible repeat (first | apply Kd.R_alloc | apply Kd.R_drewN | apply Kd.R_drew)); exact HO_1120001.out))) (below_size (by repeat (first | (with_reducible first | exact HB.out | apply below_alloc | apply pw_below_drewN | apply below_drew1 | refine below_set ?_ GE1089.out | refine below_set ?_ GE1104.out | refine below_set ?_ GE1111.out | refine below_set ?_ GE1119.out) | exact HB.out))))
            have n8_ := Aside0.mk (blk_below (g := gb1089) (o := .cells #[.slice A0_0 l0_0.length c0_0, .slice A0_1 l0_1.length c0_1] 24 (0, 0)) (by (with_reducible repeat (first | refine blk_drewN ?_ _ | refine blk_drew ?_ | refine blk_alloc ?_ _)); exact BK1089.out) hb)
            have n9_ := Aside0.mk (blk_below (g := gb1104) (o := .cells #[.slice Ao21 t1097.length co21, .slice Ao24 t1100.length co24] 27 (0, 0)) (by (with_reducible repeat (first | refine blk_drewN ?_ _ | refine blk_drew ?_ | refine blk_alloc ?_ _)); exact BK1104.out) hb)
            have n10_ := Aside0.mk (blk_below (g := gb1111) (o := .cells #[.slice Ao28 t1105.length co28, .slice Ao32 t1108.length co32] 27 (0, 0)) (by (with_reducible repeat (first | refine blk_drewN ?_ _ | refine blk_drew ?_ | refine blk_alloc ?_ _)); exact BK1111.out) hb)
            have n11_ := Aside0.mk (blk_below (g := gb1119) (o := .cells #[.slice Ao35 t1112.length co35, .slice Ao40 t1115.length co40] 27 (0, 0)) (by (with_reducible repeat (first | refine blk_drewN ?_ _ | refine blk_drew ?_ | refine blk_alloc ?_ _)); exact BK1119.out) hb)
            have n12_ := Aside0.mk (below_step (by repeat (first | (with_reducible first | exact HB.out | apply below_alloc | apply pw_below_drewN | apply below_drew1 | refine below_set ?_ GE1089.out | refine below_set ?_ GE1104.out | refine below_set ?_ GE1111.out | refine below_set ?_ GE1119.out) | exact HB.out)) hb)
            clear HO_1105000 HO_1105001 HO_1112000 HO_1112001 HO_1120000 HO_1120001 BK1089 BK1104 BK1111 BK1119 HB
            have HO_1105000 := n0_
            have HO_1105001 := n1_
            have HO_1112000 := n2_
            have HO_1112001 := n3_
            have HO_1120000 := n4_
            have HO_1120001 := n5_
            have HO1123 := n6_
            have HO1126 := n7_
            have BK1089 := n8_
            have BK1104 := n9_
            have BK1111 := n10_
            have BK1119 := n11_
            have HB := n12_
            clear n0_ n1_ n2_ n3_ n4_ n5_ n6_ n7_ n8_ n9_ n10_ n11_ n12_
            (try clear hb)
            (try clear hb2)
            (try clear hk)
            (try clear hi)
            (try clear ho0)
            (try clear ho1)
            obtain ⟨Ao67, co67, eo67⟩ := Kd.R_slice HO1123.out
            (first | subst eo67 | (injection eo67 with f1_ f2_ f3_; have f4_ := f1_.symm; have f5_ := f3_.symm; clear f1_ f2_ f3_; subst f4_; subst f5_))
            obtain ⟨Ao68, co68, eo68⟩ := Kd.R_slice HO1126.out
            (first | subst eo68 | (injection eo68 with f1_ f2_ f3_; have f4_ := f1_.symm; have f5_ := f3_.symm; clear f1_ f2_ f3_; subst f4_; subst f5_))
            refine hK.out _ _ ⟨(blk_cell BK1111.out 0).trans rfl, (blk_cell BK1111.out 1).trans rfl, (blk_cell BK1089.out 0).trans rfl, (blk_cell BK1089.out 1).trans rfl⟩ (fun hHeld => ?_)
            clear hK K
            refine norm_ (a' := ?_) ?_ ?_
            rotate_left
            · show Act.put _ (some 43) _ = _
              simp only [Act.put, List.setIfInBounds_toArray, List.set_cons_zero, List.set_cons_succ, i64_w, i32_w]
              rfl
            refine one_ (i := 3) (N := some 44) #[true, true, true, true, false] rfl rfl (by kernel_rfl) (by decide) (fun K hK => ?_)
            refine goes_ Try.func19 (by kernel_rfl) rfl #[.agg #[.slice Ao28 t1105.length co28, .slice Ao32 t1108.length co32], .agg #[.slice Ao67 t1121.length co67, .slice Ao68 t1124.length co68]] (by rfl) rfl rfl (by (try simp only [List.map_toArray, List.map_cons, List.map_nil]); first | done | rfl | (simp only [List.length_drop, List.length_take]; rfl)) ?_
            with_reducible refine (laws_eqSurface.calls kj10 _ _ t1105 _ _ t1108 _ _ t1121 _ _ t1124 true _ ?side1 ?side2 ?side3 ?side4 ?side5 ?side6 ?side7 ?side8 A61.out).mono ?_
            (case side1 => repeat (first | exact (Kd.R_reads' HO_1112000.out).2.2 | (with_reducible refine Kd.C_alloc ?_ _) | (with_reducible refine Kd.C_drewN ?_ _) | (with_reducible refine Kd.C_drew ?_)))
            (case side2 => exact (Kd.R_reads' HO_1112000.out).2.1)
            (case side3 => repeat (first | exact (Kd.R_reads' HO_1112001.out).2.2 | (with_reducible refine Kd.C_alloc ?_ _) | (with_reducible refine Kd.C_drewN ?_ _) | (with_reducible refine Kd.C_drew ?_)))
            (case side4 => exact (Kd.R_reads' HO_1112001.out).2.1)
            (case side5 => repeat (first | exact (Kd.R_reads' HO1123.out).2.2 | (with_reducible refine Kd.C_alloc ?_ _) | (with_reducible refine Kd.C_drewN ?_ _) | (with_reducible refine Kd.C_drew ?_)))
            (case side6 => exact (Kd.R_reads' HO1123.out).2.1)
            (case side7 => repeat (first | exact (Kd.R_reads' HO1126.out).2.2 | (with_reducible refine Kd.C_alloc ?_ _) | (with_reducible refine Kd.C_drewN ?_ _) | (with_reducible refine Kd.C_drew ?_)))
            (case side8 => exact (Kd.R_reads' HO1126.out).2.1)
            rintro e w69 ⟨rfl, hb⟩
            refine ⟨_, rfl, ?_⟩
            have n0_ := Aside0.mk (Kd.R_below (by (with_reducible repeat (first | apply Kd.R_alloc | apply Kd.R_drewN | apply Kd.R_drew)); exact HO_1105000.out) hb)
            have n1_ := Aside0.mk (Kd.R_below (by (with_reducible repeat (first | apply Kd.R_alloc | apply Kd.R_drewN | apply Kd.R_drew)); exact HO_1105001.out) hb)
            have n2_ := Aside0.mk (Kd.R_below (by (with_reducible repeat (first | apply Kd.R_alloc | apply Kd.R_drewN | apply Kd.R_drew)); exact HO_1112000.out) hb)
            have n3_ := Aside0.mk (Kd.R_below (by (with_reducible repeat (first | apply Kd.R_alloc | apply Kd.R_drewN | apply Kd.R_drew)); exact HO_1112001.out) hb)
            have n4_ := Aside0.mk (Kd.R_below (by (with_reducible repeat (first | apply Kd.R_alloc | apply Kd.R_drewN | apply Kd.R_drew)); exact HO_1120000.out) hb)
            have n5_ := Aside0.mk (Kd.R_below (by (with_reducible repeat (first | apply Kd.R_alloc | apply Kd.R_drewN | apply Kd.R_drew)); exact HO_1120001.out) hb)
            have n6_ := Aside0.mk (Kd.R_below (by (with_reducible repeat (first | apply Kd.R_alloc | apply Kd.R_drewN | apply Kd.R_drew)); exact HO1123.out) hb)
            have n7_ := Aside0.mk (Kd.R_below (by (with_reducible repeat (first | apply Kd.R_alloc | apply Kd.R_drewN | apply Kd.R_drew)); exact HO1126.out) hb)
            have n8_ := Aside0.mk (blk_below (g := gb1089) (o := .cells #[.slice A0_0 l0_0.length c0_0, .slice A0_1 l0_1.length c0_1] 24 (0, 0)) (by (with_reducible repeat (first | refine blk_drewN ?_ _ | refine blk_drew ?_ | refine blk_alloc ?_ _)); exact BK1089.out) hb)
            have n9_ := Aside0.mk (blk_below (g := gb1104) (o := .cells #[.slice Ao21 t1097.length co21, .slice Ao24 t1100.length co24] 27 (0, 0)) (by (with_reducible repeat (first | refine blk_drewN ?_ _ | refine blk_drew ?_ | refine blk_alloc ?_ _)); exact BK1104.out) hb)
            have n10_ := Aside0.mk (blk_below (g := gb1111) (o := .cells #[.slice Ao28 t1105.length co28, .slice Ao32 t1108.length co32] 27 (0, 0)) (by (with_reducible repeat (first | refine blk_drewN ?_ _ | refine blk_drew ?_ | refine blk_alloc ?_ _)); exact BK1111.out) hb)
            have n11_ := Aside0.mk (blk_below (g := gb1119) (o := .cells #[.slice Ao35 t1112.length co35, .slice Ao40 t1115.length co40] 27 (0, 0)) (by (with_reducible repeat (first | refine blk_drewN ?_ _ | refine blk_drew ?_ | refine blk_alloc ?_ _)); exact BK1119.out) hb)
            have n12_ := Aside0.mk (below_step (by repeat (first | (with_reducible first | exact HB.out | apply below_alloc | apply pw_below_drewN | apply below_drew1 | refine below_set ?_ GE1089.out | refine below_set ?_ GE1104.out | refine below_set ?_ GE1111.out | refine below_set ?_ GE1119.out) | exact HB.out)) hb)
            clear HO_1105000 HO_1105001 HO_1112000 HO_1112001 HO_1120000 HO_1120001 HO1123 HO1126 BK1089 BK1104 BK1111 BK1119 HB
            have HO_1105000 := n0_
            have HO_1105001 := n1_
            have HO_1112000 := n2_
            have HO_1112001 := n3_
            have HO_1120000 := n4_
            have HO_1120001 := n5_
            have HO1123 := n6_
            have HO1126 := n7_
            have BK1089 := n8_
            have BK1104 := n9_
            have BK1111 := n10_
            have BK1119 := n11_
            have HB := n12_
            clear n0_ n1_ n2_ n3_ n4_ n5_ n6_ n7_ n8_ n9_ n10_ n11_ n12_
            (try clear hb)
            (try clear hb2)
            (try clear hk)
            (try clear hi)
            refine hK.out _ _ ⟨(blk_cell BK1111.out 0).trans rfl, (blk_cell BK1111.out 1).trans rfl, (blk_cell BK1089.out 0).trans rfl, (blk_cell BK1089.out 1).trans rfl⟩ (fun hHeld => ?_)
            clear hK K
            refine norm_ (a' := ?_) ?_ ?_
            rotate_left
            · show Act.put _ (some 44) _ = _
              simp only [Act.put, List.setIfInBounds_toArray, List.set_cons_zero, List.set_cons_succ, i64_w, i32_w]
              rfl
            refine pure_ (i := 4) (N := some 45) (v := ?_) (a' := ?_) #[true, true, true, true, true] rfl rfl (by kernel_rfl) (fun _ _ _ h => h) (Or.inl ⟨by rfl, ?_⟩) ?_ ?_
            rotate_left
            · intro w'
              go_simp
              with_reducible rfl
            rotate_left
            · simp only [Act.put, List.setIfInBounds_toArray, List.set_cons_zero, List.set_cons_succ, i64_w, i32_w]
              rfl
            refine done_ (by kernel_rfl) ?_
            have hnb70 := NB1111_1089.out
            have hnc70 := NB1089_1111.out
            have hnb71 := NB1111_1104.out
            have hnc71 := NB1104_1111.out
            have hnb72 := NB1111_1119.out
            have hnc72 := NB1119_1111.out
            have hcz73_0 : w69.cell? ⟨gb1111, 0, none⟩ = some (.slice Ao28 t1105.length co28) := (blk_cell BK1111.out 0).trans rfl
            have hcz73_1 : w69.cell? ⟨gb1111, 1, none⟩ = some (.slice Ao32 t1108.length co32) := (blk_cell BK1111.out 1).trans rfl
            have hfz73_0 := blk_frozen BK1111.out 0
            have hfz73_1 := blk_frozen BK1111.out 1
            go_upto_region 14 with (first | ((with_reducible refine gate_callee (f := 42) rfl ?_); refine goesL_ (some 48) rfl rfl Try.func42 (by kernel_rfl) rfl #[.agg #[.slice Ao28 t1105.length co28, .slice Ao32 t1108.length co32], .int .i64 1] rfl (by (try simp only [List.map_toArray, List.map_cons, List.map_nil]); first | done | rfl | (simp only [List.length_drop, List.length_take]; rfl)) ?_; (with_reducible refine (laws_markSurface.calls kj10 (fun k_ => some k_ = (.slice Ao28 t1105.length co28 : Value).ownBlock) (.slice Ao28 t1105.length co28) t1105 (fun k_ => some k_ = (.slice Ao32 t1108.length co32 : Value).ownBlock) (.slice Ao32 t1108.length co32) t1108 1 t1128 t1129 t1130 w _ ?side1 ?side2 ?side3 ?side4 ?side5 A63.out).mono ?_); (case side1 => repeat (first | (with_reducible first | exact HB.out | apply below_alloc | apply pw_below_drewN | apply below_drew1 | refine below_set ?_ GE1089.out | refine below_set ?_ GE1104.out | refine below_set ?_ GE1111.out | refine below_set ?_ GE1119.out) | exact HB.out)); (case side2 => exact Kd.R_tight rfl HO_1112000.out); (case side3 => exact fun k_ e_ => (HO_1112000.out.1 k_ e_.symm).1.1.2.2.1); (case side4 => exact Kd.R_tight rfl HO_1112001.out); (case side5 => exact fun k_ e_ => (HO_1112001.out.1 k_ e_.symm).1.1.2.2.1); rintro e w74 ⟨rfl, hy0, hy1, hb, hkp⟩; refine ⟨_, rfl, ?_⟩; have n0_ := Aside0.mk (Kd.R_mono (ok' := fun k_ => some k_ ≠ (.slice Ao24 t1100.length co24 : Value).ownBlock ∧ some k_ ≠ (.slice Ao28 t1105.length co28 : Value).ownBlock ∧ some k_ ≠ (.slice Ao32 t1108.length co32 : Value).ownBlock ∧ some k_ ≠ (.slice Ao35 t1112.length co35 : Value).ownBlock ∧ some k_ ≠ (.slice Ao40 t1115.length co40 : Value).ownBlock ∧ some k_ ≠ (.slice Ao67 t1121.length co67 : Value).ownBlock ∧ some k_ ≠ (.slice Ao68 t1124.length co68 : Value).ownBlock) (Kd.R_keptB (HO_1105000.out) hkp (fun k_ hk_ hs_ => Or.elim hs_ (fun e_ => (hk_.1.1.2.1) e_) (fun e_ => (hk_.1.1.2.2.1) e_))) (fun k_ hk_ => ⟨hk_.1.1.1.1, hk_.1.1.1.2.1, hk_.1.1.1.2.2.1, hk_.1.1.1.2.2.2.1, hk_.1.1.1.2.2.2.2, hk_.1.1.2, hk_.1.2⟩)); have n1_ := Aside0.mk (Kd.R_mono (ok' := fun k_ => some k_ ≠ (.slice Ao21 t1097.length co21 : Value).ownBlock ∧ some k_ ≠ (.slice Ao28 t1105.length co28 : Value).ownBlock ∧ some k_ ≠ (.slice Ao32 t1108.length co32 : Value).ownBlock ∧ some k_ ≠ (.slice Ao35 t1112.length co35 : Value).ownBlock ∧ some k_ ≠ (.slice Ao40 t1115.length co40 : Value).ownBlock ∧ some k_ ≠ (.slice Ao67 t1121.length co67 : Value).ownBlock ∧ some k_ ≠ (.slice Ao68 t1124.length co68 : Value).ownBlock) (Kd.R_keptB (HO_1105001.out) hkp (fun k_ hk_ hs_ => Or.elim hs_ (fun e_ => (hk_.1.1.2.1) e_) (fun e_ => (hk_.1.1.2.2.1) e_))) (fun k_ hk_ => ⟨hk_.1.1.1.1, hk_.1.1.1.2.1, hk_.1.1.1.2.2.1, hk_.1.1.1.2.2.2.1, hk_.1.1.1.2.2.2.2, hk_.1.1.2, hk_.1.2⟩)); have n2_ := Aside0.mk (Kd.R_reok rfl hy0 (fun k_ e_ => HO_1112000.out.1 k_ e_)); have n3_ := Aside0.mk (Kd.R_reok rfl hy1 (fun k_ e_ => HO_1112001.out.1 k_ e_)); have n4_ := Aside0.mk (Kd.R_mono (ok' := fun k_ => some k_ ≠ (.slice Ao21 t1097.length co21 : Value).ownBlock ∧ some k_ ≠ (.slice Ao24 t1100.length co24 : Value).ownBlock ∧ some k_ ≠ (.slice Ao28 t1105.length co28 : Value).ownBlock ∧ some k_ ≠ (.slice Ao32 t1108.length co32 : Value).ownBlock ∧ some k_ ≠ (.slice Ao40 t1115.length co40 : Value).ownBlock ∧ some k_ ≠ (.slice Ao67 t1121.length co67 : Value).ownBlock ∧ some k_ ≠ (.slice Ao68 t1124.length co68 : Value).ownBlock) (Kd.R_keptB (HO_1120000.out) hkp (fun k_ hk_ hs_ => Or.elim hs_ (fun e_ => (hk_.1.1.2.2.1) e_) (fun e_ => (hk_.1.1.2.2.2.1) e_))) (fun k_ hk_ => ⟨hk_.1.1.1.1, hk_.1.1.1.2.1, hk_.1.1.1.2.2.1, hk_.1.1.1.2.2.2.1, hk_.1.1.1.2.2.2.2, hk_.1.1.2, hk_.1.2⟩)); have n5_ := Aside0.mk (Kd.R_mono (ok' := fun k_ => some k_ ≠ (.slice Ao21 t1097.length co21 : Value).ownBlock ∧ some k_ ≠ (.slice Ao24 t1100.length co24 : Value).ownBlock ∧ some k_ ≠ (.slice Ao28 t1105.length co28 : Value).ownBlock ∧ some k_ ≠ (.slice Ao32 t1108.length co32 : Value).ownBlock ∧ some k_ ≠ (.slice Ao35 t1112.length co35 : Value).ownBlock ∧ some k_ ≠ (.slice Ao67 t1121.length co67 : Value).ownBlock ∧ some k_ ≠ (.slice Ao68 t1124.length co68 : Value).ownBlock) (Kd.R_keptB (HO_1120001.out) hkp (fun k_ hk_ hs_ => Or.elim hs_ (fun e_ => (hk_.1.1.2.2.1) e_) (fun e_ => (hk_.1.1.2.2.2.1) e_))) (fun k_ hk_ => ⟨hk_.1.1.1.1, hk_.1.1.1.2.1, hk_.1.1.1.2.2.1, hk_.1.1.1.2.2.2.1, hk_.1.1.1.2.2.2.2, hk_.1.1.2, hk_.1.2⟩)); have n6_ := Aside0.mk (blk_kept (by (with_reducible repeat (first | refine blk_drewN ?_ _ | refine blk_drew ?_ | refine blk_alloc ?_ _)); exact BK1089.out) hkp (fun hs_ => Or.elim hs_ (fun e_ => (fun e_ => (Kd.R_ne HO_1112000.out BK1089.out (by decide)) e_) e_) (fun e_ => (fun e_ => (Kd.R_ne HO_1112001.out BK1089.out (by decide)) e_) e_))); have n7_ := Aside0.mk (blk_kept (by (with_reducible repeat (first | refine blk_drewN ?_ _ | refine blk_drew ?_ | refine blk_alloc ?_ _)); exact BK1104.out) hkp (fun hs_ => Or.elim hs_ (fun e_ => (fun e_ => (Kd.R_ne HO_1112000.out BK1104.out (by decide)) e_) e_) (fun e_ => (fun e_ => (Kd.R_ne HO_1112001.out BK1104.out (by decide)) e_) e_))); have n8_ := Aside0.mk (blk_kept (by (with_reducible repeat (first | refine blk_drewN ?_ _ | refine blk_drew ?_ | refine blk_alloc ?_ _)); exact BK1111.out) hkp (fun hs_ => Or.elim hs_ (fun e_ => (fun e_ => (Kd.R_ne HO_1112000.out BK1111.out (by decide)) e_) e_) (fun e_ => (fun e_ => (Kd.R_ne HO_1112001.out BK1111.out (by decide)) e_) e_))); have n9_ := Aside0.mk (blk_kept (by (with_reducible repeat (first | refine blk_drewN ?_ _ | refine blk_drew ?_ | refine blk_alloc ?_ _)); exact BK1119.out) hkp (fun hs_ => Or.elim hs_ (fun e_ => (fun e_ => (Kd.R_ne HO_1112000.out BK1119.out (by decide)) e_) e_) (fun e_ => (fun e_ => (Kd.R_ne HO_1112001.out BK1119.out (by decide)) e_) e_))); have n10_ := Aside0.mk (Kd.R_mono (ok' := fun k_ => some k_ ≠ (.slice Ao21 t1097.length co21 : Value).ownBlock ∧ some k_ ≠ (.slice Ao24 t1100.length co24 : Value).ownBlock ∧ some k_ ≠ (.slice Ao28 t1105.length co28 : Value).ownBlock ∧ some k_ ≠ (.slice Ao32 t1108.length co32 : Value).ownBlock ∧ some k_ ≠ (.slice Ao35 t1112.length co35 : Value).ownBlock ∧ some k_ ≠ (.slice Ao40 t1115.length co40 : Value).ownBlock ∧ some k_ ≠ (.slice Ao68 t1124.length co68 : Value).ownBlock) (Kd.R_keptB (HO1123.out) hkp (fun k_ hk_ hs_ => Or.elim hs_ (fun e_ => (hk_.1.1.1.2) e_) (fun e_ => (hk_.1.1.2) e_))) (fun k_ hk_ => ⟨hk_.1.1.1.1.1.1.2, hk_.1.1.1.1.1.2, hk_.1.1.1.1.2, hk_.1.1.1.2, hk_.1.1.2, hk_.1.2, hk_.1.1.1.1.1.1.1⟩)); have n11_ := Aside0.mk (Kd.R_mono (ok' := fun k_ => some k_ ≠ (.slice Ao21 t1097.length co21 : Value).ownBlock ∧ some k_ ≠ (.slice Ao24 t1100.length co24 : Value).ownBlock ∧ some k_ ≠ (.slice Ao28 t1105.length co28 : Value).ownBlock ∧ some k_ ≠ (.slice Ao32 t1108.length co32 : Value).ownBlock ∧ some k_ ≠ (.slice Ao35 t1112.length co35 : Value).ownBlock ∧ some k_ ≠ (.slice Ao40 t1115.length co40 : Value).ownBlock ∧ some k_ ≠ (.slice Ao67 t1121.length co67 : Value).ownBlock) (Kd.R_keptB (HO1126.out) hkp (fun k_ hk_ hs_ => Or.elim hs_ (fun e_ => (hk_.1.1.1.2) e_) (fun e_ => (hk_.1.1.2) e_))) (fun k_ hk_ => ⟨hk_.1.1.1.1.1.1.2, hk_.1.1.1.1.1.2, hk_.1.1.1.1.2, hk_.1.1.1.2, hk_.1.1.2, hk_.1.2, hk_.1.1.1.1.1.1.1⟩)); have n12_ := Aside0.mk (hb); clear HO_1105000; clear HO_1105001; clear HO_1112000; clear HO_1112001; clear HO_1120000; clear HO_1120001; clear BK1089; clear BK1104; clear BK1111; clear BK1119; clear HO1123; clear HO1126; clear HB; have HO_1105000 := n0_; have HO_1105001 := n1_; have HO_1112000 := n2_; have HO_1112001 := n3_; have HO_1120000 := n4_; have HO_1120001 := n5_; have BK1089 := n6_; have BK1104 := n7_; have BK1111 := n8_; have BK1119 := n9_; have HO1123 := n10_; have HO1126 := n11_; have HB := n12_; clear n0_ n1_ n2_ n3_ n4_ n5_ n6_ n7_ n8_ n9_ n10_ n11_ n12_; (try clear hb); (try clear hkp); (try clear hy0); (try clear hy1)))
            (try simp only [Act.put, List.setIfInBounds_toArray, List.set_cons_zero, List.set_cons_succ])
            go_cut [61] (fun v61 wc => ∃ (kq : Nat) (x61_63 : Bool), v61 = .bool x61_63 ∧ Aside0 (laws_FnExactShearSurface.j1 kq t1103 x61_63 l0_0 l0_1 t1097 t1100 t1112 t1115 = some true) ∧ Aside0 (kq ≤ kj10) ∧ Aside0 (Kd.R (Kd.int .i64) 3 wc w.heap.size (fun k_ => some k_ ≠ ((.slice Ao24 t1100.length co24) : Value).ownBlock ∧ some k_ ≠ ((.slice Ao28 t1105.length co28) : Value).ownBlock ∧ some k_ ≠ ((.slice Ao32 t1108.length co32) : Value).ownBlock ∧ some k_ ≠ ((.slice Ao35 t1112.length co35) : Value).ownBlock ∧ some k_ ≠ ((.slice Ao40 t1115.length co40) : Value).ownBlock) (.slice Ao21 t1097.length co21) t1097) ∧ Aside0 (Kd.R (Kd.int .i64) 3 wc w.heap.size (fun k_ => some k_ ≠ ((.slice Ao21 t1097.length co21) : Value).ownBlock ∧ some k_ ≠ ((.slice Ao28 t1105.length co28) : Value).ownBlock ∧ some k_ ≠ ((.slice Ao32 t1108.length co32) : Value).ownBlock ∧ some k_ ≠ ((.slice Ao35 t1112.length co35) : Value).ownBlock ∧ some k_ ≠ ((.slice Ao40 t1115.length co40) : Value).ownBlock) (.slice Ao24 t1100.length co24) t1100) ∧ Aside0 (Kd.R (Kd.int .i64) 3 wc w.heap.size (fun k_ => some k_ ≠ ((.slice Ao21 t1097.length co21) : Value).ownBlock ∧ some k_ ≠ ((.slice Ao24 t1100.length co24) : Value).ownBlock ∧ some k_ ≠ ((.slice Ao32 t1108.length co32) : Value).ownBlock ∧ some k_ ≠ ((.slice Ao35 t1112.length co35) : Value).ownBlock ∧ some k_ ≠ ((.slice Ao40 t1115.length co40) : Value).ownBlock) (.slice Ao28 t1105.length co28) t1129) ∧ Aside0 (Kd.R (Kd.int .i64) 3 wc w.heap.size (fun k_ => some k_ ≠ ((.slice Ao21 t1097.length co21) : Value).ownBlock ∧ some k_ ≠ ((.slice Ao24 t1100.length co24) : Value).ownBlock ∧ some k_ ≠ ((.slice Ao28 t1105.length co28) : Value).ownBlock ∧ some k_ ≠ ((.slice Ao35 t1112.length co35) : Value).ownBlock ∧ some k_ ≠ ((.slice Ao40 t1115.length co40) : Value).ownBlock) (.slice Ao32 t1108.length co32) t1130) ∧ Aside0 (Kd.R (Kd.int .i64) 3 wc w.heap.size (fun k_ => some k_ ≠ ((.slice Ao21 t1097.length co21) : Value).ownBlock ∧ some k_ ≠ ((.slice Ao24 t1100.length co24) : Value).ownBlock ∧ some k_ ≠ ((.slice Ao28 t1105.length co28) : Value).ownBlock ∧ some k_ ≠ ((.slice Ao32 t1108.length co32) : Value).ownBlock ∧ some k_ ≠ ((.slice Ao40 t1115.length co40) : Value).ownBlock) (.slice Ao35 t1112.length co35) t1112) ∧ Aside0 (Kd.R (Kd.int .i64) 3 wc w.heap.size (fun k_ => some k_ ≠ ((.slice Ao21 t1097.length co21) : Value).ownBlock ∧ some k_ ≠ ((.slice Ao24 t1100.length co24) : Value).ownBlock ∧ some k_ ≠ ((.slice Ao28 t1105.length co28) : Value).ownBlock ∧ some k_ ≠ ((.slice Ao32 t1108.length co32) : Value).ownBlock ∧ some k_ ≠ ((.slice Ao35 t1112.length co35) : Value).ownBlock) (.slice Ao40 t1115.length co40) t1115) ∧ Aside0 (wc.heap[gb1089]? = some (.cells #[(.slice A0_0 l0_0.length c0_0), (.slice A0_1 l0_1.length c0_1)] 24 (0, 0))) ∧ Aside0 (wc.heap[gb1104]? = some (.cells #[(.slice Ao21 t1097.length co21), (.slice Ao24 t1100.length co24)] 27 (0, 0))) ∧ Aside0 (wc.heap[gb1111]? = some (.cells #[(.slice Ao28 t1105.length co28), (.slice Ao32 t1108.length co32)] 27 (0, 0))) ∧ Aside0 (wc.heap[gb1119]? = some (.cells #[(.slice Ao35 t1112.length co35), (.slice Ao40 t1115.length co40)] 27 (0, 0))) ∧ Aside0 (Below w.heap.size w wc))
            case first =>
              have H := HC64.out
              clear HC64
              by_cases c75 : t1128 < 0
              · rw [if_pos c75] at H
                have c75b0 : decide (t1128 < 0) = true := decide_eq_true c75
                clear c75
                (first | rw [c75b0] | (simp only [i64_w, i32_w]; rw [c75b0]) | skip)
                exact absurd H (by cases kj10 <;> simp [laws_FnExactShearSurface.j1])
              · rw [if_neg c75] at H
                have c75b0 : decide (t1128 < 0) = false := decide_eq_false c75
                clear c75
                (first | rw [c75b0] | (simp only [i64_w, i32_w]; rw [c75b0]) | skip)
                replace H := Option.bind_eq_some_iff.mp H
                obtain ⟨t1131, A760, H⟩ := H
                replace H : (if t1131 = true then (laws_FnExactShearSurface.j1 kj10 t1103 (t1118 != t1103) l0_0 l0_1 t1097 t1100 t1112 t1115) else (laws_FnExactShearSurface.j1 kj10 t1103 true l0_0 l0_1 t1097 t1100 t1112 t1115)) = some true := H
                have A76 := Aside0.mk A760
                clear A760
                by_cases c77 : t1131 = true
                · subst c77
                  have H1 : (laws_FnExactShearSurface.j1 kj10 t1103 (t1118 != t1103) l0_0 l0_1 t1097 t1100 t1112 t1115) = some true := by rw [if_pos rfl] at H; exact H
                  clear H
                  have H := H1
                  clear H1
                  have H' := Aside0.mk H
                  clear H
                  have hnb78 := NB1119_1089.out
                  have hnc78 := NB1089_1119.out
                  have hnb79 := NB1119_1104.out
                  have hnc79 := NB1104_1119.out
                  have hnb80 := NB1119_1111.out
                  have hnc80 := NB1111_1119.out
                  have hcz81_0 : w74.cell? ⟨gb1119, 0, none⟩ = some (.slice Ao35 t1112.length co35) := (blk_cell BK1119.out 0).trans rfl
                  have hcz81_1 : w74.cell? ⟨gb1119, 1, none⟩ = some (.slice Ao40 t1115.length co40) := (blk_cell BK1119.out 1).trans rfl
                  have hfz81_0 := blk_frozen BK1119.out 0
                  have hfz81_1 := blk_frozen BK1119.out 1
                  have hnb82 := NB1104_1089.out
                  have hnc82 := NB1089_1104.out
                  have hnb83 := NB1104_1111.out
                  have hnc83 := NB1111_1104.out
                  have hcz84_0 : w74.cell? ⟨gb1104, 0, none⟩ = some (.slice Ao21 t1097.length co21) := (blk_cell BK1104.out 0).trans rfl
                  have hcz84_1 : w74.cell? ⟨gb1104, 1, none⟩ = some (.slice Ao24 t1100.length co24) := (blk_cell BK1104.out 1).trans rfl
                  have hfz84_0 := blk_frozen BK1104.out 0
                  have hfz84_1 := blk_frozen BK1104.out 1
                  go_wp2_with (first | (go_at_call 19; (with_reducible refine (laws_eqSurface.calls kj10 _ _ t1112 _ _ t1115 _ _ t1097 _ _ t1100 true _ ?side1 ?side2 ?side3 ?side4 ?side5 ?side6 ?side7 ?side8 A76.out).mono ?_); (case side1 => repeat (first | exact (Kd.R_reads' HO_1120000.out).2.2 | (with_reducible refine Kd.C_alloc ?_ _) | (with_reducible refine Kd.C_drewN ?_ _) | (with_reducible refine Kd.C_drew ?_))); (case side2 => exact (Kd.R_reads' HO_1120000.out).2.1); (case side3 => repeat (first | exact (Kd.R_reads' HO_1120001.out).2.2 | (with_reducible refine Kd.C_alloc ?_ _) | (with_reducible refine Kd.C_drewN ?_ _) | (with_reducible refine Kd.C_drew ?_))); (case side4 => exact (Kd.R_reads' HO_1120001.out).2.1); (case side5 => repeat (first | exact (Kd.R_reads' HO_1105000.out).2.2 | (with_reducible refine Kd.C_alloc ?_ _) | (with_reducible refine Kd.C_drewN ?_ _) | (with_reducible refine Kd.C_drew ?_))); (case side6 => exact (Kd.R_reads' HO_1105000.out).2.1); (case side7 => repeat (first | exact (Kd.R_reads' HO_1105001.out).2.2 | (with_reducible refine Kd.C_alloc ?_ _) | (with_reducible refine Kd.C_drewN ?_ _) | (with_reducible refine Kd.C_drew ?_))); (case side8 => exact (Kd.R_reads' HO_1105001.out).2.1); rintro e w85 ⟨rfl, hb⟩; have n0_ := Aside0.mk (Kd.R_below (by (with_reducible repeat (first | apply Kd.R_alloc | apply Kd.R_drewN | apply Kd.R_drew)); exact HO_1105000.out) hb); have n1_ := Aside0.mk (Kd.R_below (by (with_reducible repeat (first | apply Kd.R_alloc | apply Kd.R_drewN | apply Kd.R_drew)); exact HO_1105001.out) hb); have n2_ := Aside0.mk (Kd.R_below (by (with_reducible repeat (first | apply Kd.R_alloc | apply Kd.R_drewN | apply Kd.R_drew)); exact HO_1112000.out) hb); have n3_ := Aside0.mk (Kd.R_below (by (with_reducible repeat (first | apply Kd.R_alloc | apply Kd.R_drewN | apply Kd.R_drew)); exact HO_1112001.out) hb); have n4_ := Aside0.mk (Kd.R_below (by (with_reducible repeat (first | apply Kd.R_alloc | apply Kd.R_drewN | apply Kd.R_drew)); exact HO_1120000.out) hb); have n5_ := Aside0.mk (Kd.R_below (by (with_reducible repeat (first | apply Kd.R_alloc | apply Kd.R_drewN | apply Kd.R_drew)); exact HO_1120001.out) hb); have n6_ := Aside0.mk (Kd.R_below (by (with_reducible repeat (first | apply Kd.R_alloc | apply Kd.R_drewN | apply Kd.R_drew)); exact HO1123.out) hb); have n7_ := Aside0.mk (Kd.R_below (by (with_reducible repeat (first | apply Kd.R_alloc | apply Kd.R_drewN | apply Kd.R_drew)); exact HO1126.out) hb); have n8_ := Aside0.mk (blk_below (g := gb1089) (o := .cells #[.slice A0_0 l0_0.length c0_0, .slice A0_1 l0_1.length c0_1] 24 (0, 0)) (by (with_reducible repeat (first | refine blk_drewN ?_ _ | refine blk_drew ?_ | refine blk_alloc ?_ _)); exact BK1089.out) hb); have n9_ := Aside0.mk (blk_below (g := gb1104) (o := .cells #[.slice Ao21 t1097.length co21, .slice Ao24 t1100.length co24] 27 (0, 0)) (by (with_reducible repeat (first | refine blk_drewN ?_ _ | refine blk_drew ?_ | refine blk_alloc ?_ _)); exact BK1104.out) hb); have n10_ := Aside0.mk (blk_below (g := gb1111) (o := .cells #[.slice Ao28 t1105.length co28, .slice Ao32 t1108.length co32] 27 (0, 0)) (by (with_reducible repeat (first | refine blk_drewN ?_ _ | refine blk_drew ?_ | refine blk_alloc ?_ _)); exact BK1111.out) hb); have n11_ := Aside0.mk (blk_below (g := gb1119) (o := .cells #[.slice Ao35 t1112.length co35, .slice Ao40 t1115.length co40] 27 (0, 0)) (by (with_reducible repeat (first | refine blk_drewN ?_ _ | refine blk_drew ?_ | refine blk_alloc ?_ _)); exact BK1119.out) hb); have n12_ := Aside0.mk (below_step (by repeat (first | (with_reducible first | exact HB.out | apply below_alloc | apply pw_below_drewN | apply below_drew1 | refine below_set ?_ GE1089.out | refine below_set ?_ GE1104.out | refine below_set ?_ GE1111.out | refine below_set ?_ GE1119.out) | exact HB.out)) hb); clear HO_1105000; clear HO_1105001; clear HO_1112000; clear HO_1112001; clear HO_1120000; clear HO_1120001; clear HO1123; clear HO1126; clear BK1089; clear BK1104; clear BK1111; clear BK1119; clear HB; have HO_1105000 := n0_; have HO_1105001 := n1_; have HO_1112000 := n2_; have HO_1112001 := n3_; have HO_1120000 := n4_; have HO_1120001 := n5_; have HO1123 := n6_; have HO1126 := n7_; have BK1089 := n8_; have BK1104 := n9_; have BK1111 := n10_; have BK1119 := n11_; have HB := n12_; clear n0_ n1_ n2_ n3_ n4_ n5_ n6_ n7_ n8_ n9_ n10_ n11_ n12_; (try clear hb); (try clear hb2); (try clear hk); (try clear hi)))
                  go_meet
                  case rel => exact ⟨_, ((t1118 != t1103)), (by first | rfl | (simp; done) | (simp [*]; done)), H', ⟨by have := HJ10.out; first | omega | exact Nat.le_refl _⟩, ⟨by (with_reducible repeat (first | apply Kd.R_alloc | apply Kd.R_drewN | apply Kd.R_drew)); exact Kd.R_mono HO_1105000.out (fun _ hk => ⟨hk.1, ⟨hk.2.1, ⟨hk.2.2.1, ⟨hk.2.2.2.1, hk.2.2.2.2.1⟩⟩⟩⟩)⟩, ⟨by (with_reducible repeat (first | apply Kd.R_alloc | apply Kd.R_drewN | apply Kd.R_drew)); exact Kd.R_mono HO_1105001.out (fun _ hk => ⟨hk.1, ⟨hk.2.1, ⟨hk.2.2.1, ⟨hk.2.2.2.1, hk.2.2.2.2.1⟩⟩⟩⟩)⟩, ⟨by (with_reducible repeat (first | apply Kd.R_alloc | apply Kd.R_drewN | apply Kd.R_drew)); exact Kd.R_mono HO_1112000.out (fun _ hk => ⟨hk.1.1.1, ⟨hk.1.1.2.1, ⟨hk.1.1.2.2.1, ⟨hk.1.1.2.2.2.1, hk.1.1.2.2.2.2⟩⟩⟩⟩)⟩, ⟨by (with_reducible repeat (first | apply Kd.R_alloc | apply Kd.R_drewN | apply Kd.R_drew)); exact Kd.R_mono HO_1112001.out (fun _ hk => ⟨hk.1.1.1, ⟨hk.1.1.2.1, ⟨hk.1.1.2.2.1, ⟨hk.1.1.2.2.2.1, hk.1.1.2.2.2.2⟩⟩⟩⟩)⟩, ⟨by (with_reducible repeat (first | apply Kd.R_alloc | apply Kd.R_drewN | apply Kd.R_drew)); exact Kd.R_mono HO_1120000.out (fun _ hk => ⟨hk.1, ⟨hk.2.1, ⟨hk.2.2.1, ⟨hk.2.2.2.1, hk.2.2.2.2.1⟩⟩⟩⟩)⟩, ⟨by (with_reducible repeat (first | apply Kd.R_alloc | apply Kd.R_drewN | apply Kd.R_drew)); exact Kd.R_mono HO_1120001.out (fun _ hk => ⟨hk.1, ⟨hk.2.1, ⟨hk.2.2.1, ⟨hk.2.2.2.1, hk.2.2.2.2.1⟩⟩⟩⟩)⟩, ⟨by (with_reducible repeat (first | refine blk_drewN ?_ _ | refine blk_drew ?_ | refine blk_alloc ?_ _)); exact BK1089.out⟩, ⟨by (with_reducible repeat (first | refine blk_drewN ?_ _ | refine blk_drew ?_ | refine blk_alloc ?_ _)); exact BK1104.out⟩, ⟨by (with_reducible repeat (first | refine blk_drewN ?_ _ | refine blk_drew ?_ | refine blk_alloc ?_ _)); exact BK1111.out⟩, ⟨by (with_reducible repeat (first | refine blk_drewN ?_ _ | refine blk_drew ?_ | refine blk_alloc ?_ _)); exact BK1119.out⟩, ⟨by repeat (first | (with_reducible first | exact HB.out | apply below_alloc | apply pw_below_drewN | apply below_drew1 | refine below_set ?_ GE1089.out | refine below_set ?_ GE1104.out | refine below_set ?_ GE1111.out | refine below_set ?_ GE1119.out) | exact HB.out)⟩⟩
                · replace c77 := Bool.eq_false_iff.mpr c77
                  subst c77
                  have H1 : (laws_FnExactShearSurface.j1 kj10 t1103 true l0_0 l0_1 t1097 t1100 t1112 t1115) = some true := by rw [if_neg (show ¬ (false = true) by decide)] at H; exact H
                  clear H
                  have H := H1
                  clear H1
                  exact absurd H (by cases kj10 <;> simp [laws_FnExactShearSurface.j1])
            case rest =>
              clear HC64
              try clear c1
              try clear c2
              try clear p2
              try clear c3
              try clear c3b0
              try clear c4
              try clear c5
              try clear c6
              try clear c7
              try clear c8
              try clear c9
              try clear c14
              try clear c15
              try clear c17
              try clear c19
              try clear c22
              try clear c29
              try clear c30
              try clear c36
              try clear c37
              try clear c38
              try clear c42
              try clear c43
              try clear c44
              try clear c45
              try clear c47
              try clear c48
              try clear c51
              try clear c52
              try clear c53
              try clear c55
              try clear c56
              try clear c59
              try clear c62
              try clear c70
              try clear c71
              try clear c72
              try clear c75
              try clear c75b0
              try clear c77
              try clear c78
              try clear c79
              try clear c80
              try clear c82
              try clear c83
              try clear c86
              try clear c87
              try clear c88
              try clear c90
              try clear c91
              try clear hcz13_0
              try clear hcz13_1
              try clear hcz15_0
              try clear hcz15_1
              try clear hcz23_0
              try clear hcz23_1
              try clear hcz25_0
              try clear hcz25_1
              try clear hcz31_0
              try clear hcz31_1
              try clear hcz39_0
              try clear hcz39_1
              try clear hcz46_0
              try clear hcz46_1
              try clear hcz49_0
              try clear hcz49_1
              try clear hcz54_0
              try clear hcz54_1
              try clear hcz57_0
              try clear hcz57_1
              try clear hcz5_0
              try clear hcz5_1
              try clear hcz73_0
              try clear hcz73_1
              try clear hcz81_0
              try clear hcz81_1
              try clear hcz84_0
              try clear hcz84_1
              try clear hcz89_0
              try clear hcz89_1
              try clear hcz92_0
              try clear hcz92_1
              try clear hfz13_0
              try clear hfz13_1
              try clear hfz15_0
              try clear hfz15_1
              try clear hfz23_0
              try clear hfz23_1
              try clear hfz25_0
              try clear hfz25_1
              try clear hfz31_0
              try clear hfz31_1
              try clear hfz39_0
              try clear hfz39_1
              try clear hfz46_0
              try clear hfz46_1
              try clear hfz49_0
              try clear hfz49_1
              try clear hfz54_0
              try clear hfz54_1
              try clear hfz57_0
              try clear hfz57_1
              try clear hfz5_0
              try clear hfz5_1
              try clear hfz73_0
              try clear hfz73_1
              try clear hfz81_0
              try clear hfz81_1
              try clear hfz84_0
              try clear hfz84_1
              try clear hfz89_0
              try clear hfz89_1
              try clear hfz92_0
              try clear hfz92_1
              try clear p2
              obtain ⟨kq, x61_63, rfl, HA, HJ63, HO_1105000, HO_1105001, HO_1112000, HO_1112001, HO_1120000, HO_1120001, BK1089, BK1104, BK1111, BK1119, HB⟩ := hcut
              have hl1112000_63 := (Kd.R_reads' HO_1112000.out).1
              rw [hl1112000_63] at HO_1112000
              (try simp only [hl1112000_63])
              (try simp only [hl1112000_63] at BK1089)
              (try simp only [hl1112000_63] at BK1104)
              (try simp only [hl1112000_63] at BK1111)
              (try simp only [hl1112000_63] at BK1119)
              (try simp only [hl1112000_63] at HO_1105000)
              (try simp only [hl1112000_63] at HO_1105001)
              (try simp only [hl1112000_63] at HO_1112001)
              (try simp only [hl1112000_63] at HO_1120000)
              (try simp only [hl1112000_63] at HO_1120001)
              have hl1112001_63 := (Kd.R_reads' HO_1112001.out).1
              rw [hl1112001_63] at HO_1112001
              (try simp only [hl1112001_63])
              (try simp only [hl1112001_63] at BK1089)
              (try simp only [hl1112001_63] at BK1104)
              (try simp only [hl1112001_63] at BK1111)
              (try simp only [hl1112001_63] at BK1119)
              (try simp only [hl1112001_63] at HO_1105000)
              (try simp only [hl1112001_63] at HO_1105001)
              (try simp only [hl1112001_63] at HO_1112000)
              (try simp only [hl1112001_63] at HO_1120000)
              (try simp only [hl1112001_63] at HO_1120001)
              cases kq with
              | zero => exact absurd HA.out (by simp [laws_FnExactShearSurface.j1])
              | succ kj63 =>
                have H := HA.out
                clear HA
                simp only [laws_FnExactShearSurface.j1] at H
                by_cases c94 : x61_63 = true
                · subst c94
                  have H1 : (some false) = some true := by rw [if_pos rfl] at H; exact H
                  clear H
                  have H := H1
                  clear H1
                  exact absurd H (by simp)
                · replace c94 := Bool.eq_false_iff.mpr c94
                  subst c94
                  have H1 : ((laws_markSurface.f kj63 t1112 t1115 1).bind fun bt1132 => ((laws_heldSurface.f kj63 bt1132.2.1 bt1132.2.2 1).bind fun t1135 => (if t1135 < 0 then (some false) else (if t1135 = bt1132.1 then ((laws_toSurface.f kj63 l0_0 l0_1).bind fun bt1136 => ((impl_ShearSurface.f kj63 bt1136.1 bt1136.2).bind fun bt1142 => ((laws_eqSurface.f kj63 bt1142.1 bt1142.2.1 t1097 t1100).bind fun t1150 => (if t1150 = true then (laws_FnExactShearSurface.j2 kj63 bt1132.1 (bt1142.2.2 != t1103) bt1132.2.1 bt1132.2.2) else (laws_FnExactShearSurface.j2 kj63 bt1132.1 true bt1132.2.1 bt1132.2.2))))) else (some false))))) = some true := by rw [if_neg (show ¬ (false = true) by decide)] at H; exact H
                  clear H
                  have H := H1
                  clear H1
                  replace H := Option.bind_eq_some_iff.mp H
                  obtain ⟨⟨t1132, t1133, t1134⟩, A950, H⟩ := H
                  replace H : ((laws_heldSurface.f kj63 t1133 t1134 1).bind fun t1135 => (if t1135 < 0 then (some false) else (if t1135 = t1132 then ((laws_toSurface.f kj63 l0_0 l0_1).bind fun bt1136 => ((impl_ShearSurface.f kj63 bt1136.1 bt1136.2).bind fun bt1142 => ((laws_eqSurface.f kj63 bt1142.1 bt1142.2.1 t1097 t1100).bind fun t1150 => (if t1150 = true then (laws_FnExactShearSurface.j2 kj63 t1132 (bt1142.2.2 != t1103) t1133 t1134) else (laws_FnExactShearSurface.j2 kj63 t1132 true t1133 t1134))))) else (some false)))) = some true := H
                  have A95 := Aside0.mk A950
                  clear A950
                  replace H := Option.bind_eq_some_iff.mp H
                  obtain ⟨t1135, A960, H⟩ := H
                  replace H : (if t1135 < 0 then (some false) else (if t1135 = t1132 then ((laws_toSurface.f kj63 l0_0 l0_1).bind fun bt1136 => ((impl_ShearSurface.f kj63 bt1136.1 bt1136.2).bind fun bt1142 => ((laws_eqSurface.f kj63 bt1142.1 bt1142.2.1 t1097 t1100).bind fun t1150 => (if t1150 = true then (laws_FnExactShearSurface.j2 kj63 t1132 (bt1142.2.2 != t1103) t1133 t1134) else (laws_FnExactShearSurface.j2 kj63 t1132 true t1133 t1134))))) else (some false))) = some true := H
                  have A96 := Aside0.mk A960
                  clear A960
                  by_cases c97 : t1135 < 0
                  · rw [if_pos c97] at H
                    have c97b0 : decide (t1135 < 0) = true := decide_eq_true c97
                    clear c97
                    exact absurd H (by simp)
                  · rw [if_neg c97] at H
                    have c97b0 : decide (t1135 < 0) = false := decide_eq_false c97
                    clear c97
                    by_cases c105 : t1135 = t1132
                    · rw [if_pos c105] at H
                      have c105b0 : (t1135 == t1132) = true := beq_iff_eq.mpr c105
                      have c105b1 : (t1135 != t1132) = false := bne_eq_false_iff_eq.mpr c105
                      clear c105
                      replace H := Option.bind_eq_some_iff.mp H
                      obtain ⟨⟨t1136, t1139⟩, A1060, H⟩ := H
                      replace H : ((impl_ShearSurface.f kj63 t1136 t1139).bind fun bt1142 => ((laws_eqSurface.f kj63 bt1142.1 bt1142.2.1 t1097 t1100).bind fun t1150 => (if t1150 = true then (laws_FnExactShearSurface.j2 kj63 t1132 (bt1142.2.2 != t1103) t1133 t1134) else (laws_FnExactShearSurface.j2 kj63 t1132 true t1133 t1134)))) = some true := H
                      have A106 := Aside0.mk A1060
                      clear A1060
                      replace H := Option.bind_eq_some_iff.mp H
                      obtain ⟨⟨t1142, t1145, t1148⟩, A1070, H⟩ := H
                      replace H : ((laws_eqSurface.f kj63 t1142 t1145 t1097 t1100).bind fun t1150 => (if t1150 = true then (laws_FnExactShearSurface.j2 kj63 t1132 (t1148 != t1103) t1133 t1134) else (laws_FnExactShearSurface.j2 kj63 t1132 true t1133 t1134))) = some true := H
                      have A107 := Aside0.mk A1070
                      clear A1070
                      have HC108 := Aside0.mk H
                      clear H
                      have hnb109 := NB1119_1089.out
                      have hnc109 := NB1089_1119.out
                      have hnb110 := NB1119_1104.out
                      have hnc110 := NB1104_1119.out
                      have hnb111 := NB1119_1111.out
                      have hnc111 := NB1111_1119.out
                      have hcz112_0 : wc.cell? ⟨gb1119, 0, none⟩ = some (.slice Ao35 t1112.length co35) := (blk_cell BK1119.out 0).trans rfl
                      have hcz112_1 : wc.cell? ⟨gb1119, 1, none⟩ = some (.slice Ao40 t1115.length co40) := (blk_cell BK1119.out 1).trans rfl
                      have hfz112_0 := blk_frozen BK1119.out 0
                      have hfz112_1 := blk_frozen BK1119.out 1
                      go_upto_region 25 with (first | ((with_reducible refine gate_callee (f := 42) rfl ?_); refine goesL_ (some 64) rfl rfl Try.func42 (by kernel_rfl) rfl #[.agg #[.slice Ao35 t1112.length co35, .slice Ao40 t1115.length co40], .int .i64 1] rfl (by (try simp only [List.map_toArray, List.map_cons, List.map_nil]); first | done | rfl | (simp only [List.length_drop, List.length_take]; rfl)) ?_; (with_reducible refine (laws_markSurface.calls kj63 (fun k_ => some k_ = (.slice Ao35 t1112.length co35 : Value).ownBlock) (.slice Ao35 t1112.length co35) t1112 (fun k_ => some k_ = (.slice Ao40 t1115.length co40 : Value).ownBlock) (.slice Ao40 t1115.length co40) t1115 1 t1132 t1133 t1134 w _ ?side1 ?side2 ?side3 ?side4 ?side5 A95.out).mono ?_); (case side1 => repeat (first | (with_reducible first | exact HB.out | apply below_alloc | apply pw_below_drewN | apply below_drew1 | refine below_set ?_ GE1089.out | refine below_set ?_ GE1104.out | refine below_set ?_ GE1111.out | refine below_set ?_ GE1119.out) | exact HB.out)); (case side2 => exact Kd.R_tight rfl HO_1120000.out); (case side3 => exact fun k_ e_ => (HO_1120000.out.1 k_ e_.symm).2.2.2.2); (case side4 => exact Kd.R_tight rfl HO_1120001.out); (case side5 => exact fun k_ e_ => (HO_1120001.out.1 k_ e_.symm).2.2.2.2); rintro e w113 ⟨rfl, hy0, hy1, hb, hkp⟩; refine ⟨_, rfl, ?_⟩; have n0_ := Aside0.mk (Kd.R_mono (ok' := fun k_ => some k_ ≠ (.slice Ao24 t1100.length co24 : Value).ownBlock ∧ some k_ ≠ (.slice Ao28 t1129.length co28 : Value).ownBlock ∧ some k_ ≠ (.slice Ao32 t1130.length co32 : Value).ownBlock ∧ some k_ ≠ (.slice Ao35 t1112.length co35 : Value).ownBlock ∧ some k_ ≠ (.slice Ao40 t1115.length co40 : Value).ownBlock) (Kd.R_keptB (HO_1105000.out) hkp (fun k_ hk_ hs_ => Or.elim hs_ (fun e_ => (hk_.2.2.2.1) e_) (fun e_ => (hk_.2.2.2.2) e_))) (fun k_ hk_ => ⟨hk_.1.1, hk_.1.2.1, hk_.1.2.2.1, hk_.1.2.2.2.1, hk_.1.2.2.2.2⟩)); have n1_ := Aside0.mk (Kd.R_mono (ok' := fun k_ => some k_ ≠ (.slice Ao21 t1097.length co21 : Value).ownBlock ∧ some k_ ≠ (.slice Ao28 t1129.length co28 : Value).ownBlock ∧ some k_ ≠ (.slice Ao32 t1130.length co32 : Value).ownBlock ∧ some k_ ≠ (.slice Ao35 t1112.length co35 : Value).ownBlock ∧ some k_ ≠ (.slice Ao40 t1115.length co40 : Value).ownBlock) (Kd.R_keptB (HO_1105001.out) hkp (fun k_ hk_ hs_ => Or.elim hs_ (fun e_ => (hk_.2.2.2.1) e_) (fun e_ => (hk_.2.2.2.2) e_))) (fun k_ hk_ => ⟨hk_.1.1, hk_.1.2.1, hk_.1.2.2.1, hk_.1.2.2.2.1, hk_.1.2.2.2.2⟩)); have n2_ := Aside0.mk (Kd.R_mono (ok' := fun k_ => some k_ ≠ (.slice Ao21 t1097.length co21 : Value).ownBlock ∧ some k_ ≠ (.slice Ao24 t1100.length co24 : Value).ownBlock ∧ some k_ ≠ (.slice Ao32 t1130.length co32 : Value).ownBlock ∧ some k_ ≠ (.slice Ao35 t1112.length co35 : Value).ownBlock ∧ some k_ ≠ (.slice Ao40 t1115.length co40 : Value).ownBlock) (Kd.R_keptB (HO_1112000.out) hkp (fun k_ hk_ hs_ => Or.elim hs_ (fun e_ => (hk_.2.2.2.1) e_) (fun e_ => (hk_.2.2.2.2) e_))) (fun k_ hk_ => ⟨hk_.1.1, hk_.1.2.1, hk_.1.2.2.1, hk_.1.2.2.2.1, hk_.1.2.2.2.2⟩)); have n3_ := Aside0.mk (Kd.R_mono (ok' := fun k_ => some k_ ≠ (.slice Ao21 t1097.length co21 : Value).ownBlock ∧ some k_ ≠ (.slice Ao24 t1100.length co24 : Value).ownBlock ∧ some k_ ≠ (.slice Ao28 t1129.length co28 : Value).ownBlock ∧ some k_ ≠ (.slice Ao35 t1112.length co35 : Value).ownBlock ∧ some k_ ≠ (.slice Ao40 t1115.length co40 : Value).ownBlock) (Kd.R_keptB (HO_1112001.out) hkp (fun k_ hk_ hs_ => Or.elim hs_ (fun e_ => (hk_.2.2.2.1) e_) (fun e_ => (hk_.2.2.2.2) e_))) (fun k_ hk_ => ⟨hk_.1.1, hk_.1.2.1, hk_.1.2.2.1, hk_.1.2.2.2.1, hk_.1.2.2.2.2⟩)); have n4_ := Aside0.mk (Kd.R_reok rfl hy0 (fun k_ e_ => HO_1120000.out.1 k_ e_)); have n5_ := Aside0.mk (Kd.R_reok rfl hy1 (fun k_ e_ => HO_1120001.out.1 k_ e_)); have n6_ := Aside0.mk (blk_kept (by (with_reducible repeat (first | refine blk_drewN ?_ _ | refine blk_drew ?_ | refine blk_alloc ?_ _)); exact BK1089.out) hkp (fun hs_ => Or.elim hs_ (fun e_ => (fun e_ => (Kd.R_ne HO_1120000.out BK1089.out (by decide)) e_) e_) (fun e_ => (fun e_ => (Kd.R_ne HO_1120001.out BK1089.out (by decide)) e_) e_))); have n7_ := Aside0.mk (blk_kept (by (with_reducible repeat (first | refine blk_drewN ?_ _ | refine blk_drew ?_ | refine blk_alloc ?_ _)); exact BK1104.out) hkp (fun hs_ => Or.elim hs_ (fun e_ => (fun e_ => (Kd.R_ne HO_1120000.out BK1104.out (by decide)) e_) e_) (fun e_ => (fun e_ => (Kd.R_ne HO_1120001.out BK1104.out (by decide)) e_) e_))); have n8_ := Aside0.mk (blk_kept (by (with_reducible repeat (first | refine blk_drewN ?_ _ | refine blk_drew ?_ | refine blk_alloc ?_ _)); exact BK1111.out) hkp (fun hs_ => Or.elim hs_ (fun e_ => (fun e_ => (Kd.R_ne HO_1120000.out BK1111.out (by decide)) e_) e_) (fun e_ => (fun e_ => (Kd.R_ne HO_1120001.out BK1111.out (by decide)) e_) e_))); have n9_ := Aside0.mk (blk_kept (by (with_reducible repeat (first | refine blk_drewN ?_ _ | refine blk_drew ?_ | refine blk_alloc ?_ _)); exact BK1119.out) hkp (fun hs_ => Or.elim hs_ (fun e_ => (fun e_ => (Kd.R_ne HO_1120000.out BK1119.out (by decide)) e_) e_) (fun e_ => (fun e_ => (Kd.R_ne HO_1120001.out BK1119.out (by decide)) e_) e_))); have n10_ := Aside0.mk (hb); clear HO_1105000; clear HO_1105001; clear HO_1112000; clear HO_1112001; clear HO_1120000; clear HO_1120001; clear BK1089; clear BK1104; clear BK1111; clear BK1119; clear HB; have HO_1105000 := n0_; have HO_1105001 := n1_; have HO_1112000 := n2_; have HO_1112001 := n3_; have HO_1120000 := n4_; have HO_1120001 := n5_; have BK1089 := n6_; have BK1104 := n7_; have BK1111 := n8_; have BK1119 := n9_; have HB := n10_; clear n0_ n1_ n2_ n3_ n4_ n5_ n6_ n7_ n8_ n9_ n10_; (try clear hb); (try clear hkp); (try clear hy0); (try clear hy1); have hcz114_0 : w113.cell? ⟨gb1119, 0, none⟩ = some (.slice Ao35 t1112.length co35) := (blk_cell BK1119.out 0).trans rfl; have hcz114_1 : w113.cell? ⟨gb1119, 1, none⟩ = some (.slice Ao40 t1115.length co40) := (blk_cell BK1119.out 1).trans rfl; have hfz114_0 := blk_frozen BK1119.out 0; have hfz114_1 := blk_frozen BK1119.out 1) | ((with_reducible refine gate_callee (f := 46) rfl ?_); refine goesL_ (some 67) rfl rfl Try.func46 (by kernel_rfl) rfl #[.agg #[.slice Ao35 t1133.length co35, .slice Ao40 t1134.length co40], .int .i64 1] rfl (by (try simp only [List.map_toArray, List.map_cons, List.map_nil]); first | done | (rw [show t1133.length = t1112.length from (Kd.R_reads' HO_1120000.out).1.symm, show t1134.length = t1115.length from (Kd.R_reads' HO_1120001.out).1.symm] <;> rfl) | rfl | (simp only [List.length_drop, List.length_take]; rfl)) ?_; (with_reducible refine (laws_heldSurface.calls kj63 _ _ t1133 _ _ t1134 1 t1135 _ ?side1 ?side2 ?side3 ?side4 A96.out).mono ?_); (case side1 => repeat (first | exact (Kd.R_reads' HO_1120000.out).2.2 | (with_reducible refine Kd.C_alloc ?_ _) | (with_reducible refine Kd.C_drewN ?_ _) | (with_reducible refine Kd.C_drew ?_))); (case side2 => rw [show t1133.length = t1112.length from (Kd.R_reads' HO_1120000.out).1.symm]; exact (Kd.R_reads' HO_1120000.out).2.1); (case side3 => repeat (first | exact (Kd.R_reads' HO_1120001.out).2.2 | (with_reducible refine Kd.C_alloc ?_ _) | (with_reducible refine Kd.C_drewN ?_ _) | (with_reducible refine Kd.C_drew ?_))); (case side4 => rw [show t1134.length = t1115.length from (Kd.R_reads' HO_1120001.out).1.symm]; exact (Kd.R_reads' HO_1120001.out).2.1); rintro e w115 ⟨rfl, hb⟩; refine ⟨_, rfl, ?_⟩; have n0_ := Aside0.mk (Kd.R_below (by (with_reducible repeat (first | apply Kd.R_alloc | apply Kd.R_drewN | apply Kd.R_drew)); exact HO_1105000.out) hb); have n1_ := Aside0.mk (Kd.R_below (by (with_reducible repeat (first | apply Kd.R_alloc | apply Kd.R_drewN | apply Kd.R_drew)); exact HO_1105001.out) hb); have n2_ := Aside0.mk (Kd.R_below (by (with_reducible repeat (first | apply Kd.R_alloc | apply Kd.R_drewN | apply Kd.R_drew)); exact HO_1112000.out) hb); have n3_ := Aside0.mk (Kd.R_below (by (with_reducible repeat (first | apply Kd.R_alloc | apply Kd.R_drewN | apply Kd.R_drew)); exact HO_1112001.out) hb); have n4_ := Aside0.mk (Kd.R_below (by (with_reducible repeat (first | apply Kd.R_alloc | apply Kd.R_drewN | apply Kd.R_drew)); exact HO_1120000.out) hb); have n5_ := Aside0.mk (Kd.R_below (by (with_reducible repeat (first | apply Kd.R_alloc | apply Kd.R_drewN | apply Kd.R_drew)); exact HO_1120001.out) hb); have n6_ := Aside0.mk (blk_below (g := gb1089) (o := .cells #[.slice A0_0 l0_0.length c0_0, .slice A0_1 l0_1.length c0_1] 24 (0, 0)) (by (with_reducible repeat (first | refine blk_drewN ?_ _ | refine blk_drew ?_ | refine blk_alloc ?_ _)); exact BK1089.out) hb); have n7_ := Aside0.mk (blk_below (g := gb1104) (o := .cells #[.slice Ao21 t1097.length co21, .slice Ao24 t1100.length co24] 27 (0, 0)) (by (with_reducible repeat (first | refine blk_drewN ?_ _ | refine blk_drew ?_ | refine blk_alloc ?_ _)); exact BK1104.out) hb); have n8_ := Aside0.mk (blk_below (g := gb1111) (o := .cells #[.slice Ao28 t1129.length co28, .slice Ao32 t1130.length co32] 27 (0, 0)) (by (with_reducible repeat (first | refine blk_drewN ?_ _ | refine blk_drew ?_ | refine blk_alloc ?_ _)); exact BK1111.out) hb); have n9_ := Aside0.mk (blk_below (g := gb1119) (o := .cells #[.slice Ao35 t1112.length co35, .slice Ao40 t1115.length co40] 27 (0, 0)) (by (with_reducible repeat (first | refine blk_drewN ?_ _ | refine blk_drew ?_ | refine blk_alloc ?_ _)); exact BK1119.out) hb); have n10_ := Aside0.mk (below_step (by repeat (first | (with_reducible first | exact HB.out | apply below_alloc | apply pw_below_drewN | apply below_drew1 | refine below_set ?_ GE1089.out | refine below_set ?_ GE1104.out | refine below_set ?_ GE1111.out | refine below_set ?_ GE1119.out) | exact HB.out)) hb); clear HO_1105000; clear HO_1105001; clear HO_1112000; clear HO_1112001; clear HO_1120000; clear HO_1120001; clear BK1089; clear BK1104; clear BK1111; clear BK1119; clear HB; have HO_1105000 := n0_; have HO_1105001 := n1_; have HO_1112000 := n2_; have HO_1112001 := n3_; have HO_1120000 := n4_; have HO_1120001 := n5_; have BK1089 := n6_; have BK1104 := n7_; have BK1111 := n8_; have BK1119 := n9_; have HB := n10_; clear n0_ n1_ n2_ n3_ n4_ n5_ n6_ n7_ n8_ n9_ n10_; (try clear hb); (try clear hb2); (try clear hk); (try clear hi); have hnb116 := NB1089_1104.out; have hnc116 := NB1104_1089.out; have hnb117 := NB1089_1111.out; have hnc117 := NB1111_1089.out; have hcz118_0 : w115.cell? ⟨gb1089, 0, none⟩ = some (.slice A0_0 l0_0.length c0_0) := (blk_cell BK1089.out 0).trans rfl; have hcz118_1 : w115.cell? ⟨gb1089, 1, none⟩ = some (.slice A0_1 l0_1.length c0_1) := (blk_cell BK1089.out 1).trans rfl; have hfz118_0 := blk_frozen BK1089.out 0; have hfz118_1 := blk_frozen BK1089.out 1) | ((with_reducible refine gate_callee (f := 17) rfl ?_); refine goesL_ (some 75) rfl rfl Try.func17 (by kernel_rfl) rfl #[.agg #[.slice A0_0 l0_0.length c0_0, .slice A0_1 l0_1.length c0_1]] rfl (by (try simp only [List.map_toArray, List.map_cons, List.map_nil]); first | done | rfl | (simp only [List.length_drop, List.length_take]; rfl)) ?_; (with_reducible refine (laws_toSurface.calls kj63 _ _ l0_0 _ _ l0_1 t1136 t1139 _ ?side1 ?side2 ?side3 ?side4 A106.out).mono ?_); (case side1 => repeat (first | exact (Kd.C_below HR0_0.out HB.out) | (with_reducible refine Kd.C_alloc ?_ _) | (with_reducible refine Kd.C_drewN ?_ _) | (with_reducible refine Kd.C_drew ?_))); (case side2 => exact HC0_0.out); (case side3 => repeat (first | exact (Kd.C_below HR0_1.out HB.out) | (with_reducible refine Kd.C_alloc ?_ _) | (with_reducible refine Kd.C_drewN ?_ _) | (with_reducible refine Kd.C_drew ?_))); (case side4 => exact HC0_1.out); rintro e w119 ⟨v1137, v1140, rfl, ho0, ho1, hb⟩; refine ⟨_, rfl, ?_⟩; have n0_ := Aside0.mk (Kd.R_mono (Kd.R_told (Kd.R_told (Kd.R_old (by (with_reducible repeat (first | apply Kd.R_alloc | apply Kd.R_drewN | apply Kd.R_drew)); exact HO_1105000.out) hb) (Kd.R_base ho0)) (Kd.R_base ho1)) (fun _ h_ => h_.1)); have n1_ := Aside0.mk (Kd.R_mono (Kd.R_told (Kd.R_told (Kd.R_old (by (with_reducible repeat (first | apply Kd.R_alloc | apply Kd.R_drewN | apply Kd.R_drew)); exact HO_1105001.out) hb) (Kd.R_base ho0)) (Kd.R_base ho1)) (fun _ h_ => h_.1)); have n2_ := Aside0.mk (Kd.R_mono (Kd.R_told (Kd.R_told (Kd.R_old (by (with_reducible repeat (first | apply Kd.R_alloc | apply Kd.R_drewN | apply Kd.R_drew)); exact HO_1112000.out) hb) (Kd.R_base ho0)) (Kd.R_base ho1)) (fun _ h_ => h_.1)); have n3_ := Aside0.mk (Kd.R_mono (Kd.R_told (Kd.R_told (Kd.R_old (by (with_reducible repeat (first | apply Kd.R_alloc | apply Kd.R_drewN | apply Kd.R_drew)); exact HO_1112001.out) hb) (Kd.R_base ho0)) (Kd.R_base ho1)) (fun _ h_ => h_.1)); have n4_ := Aside0.mk (Kd.R_mono (Kd.R_told (Kd.R_told (Kd.R_old (by (with_reducible repeat (first | apply Kd.R_alloc | apply Kd.R_drewN | apply Kd.R_drew)); exact HO_1120000.out) hb) (Kd.R_base ho0)) (Kd.R_base ho1)) (fun _ h_ => h_.1)); have n5_ := Aside0.mk (Kd.R_mono (Kd.R_told (Kd.R_told (Kd.R_old (by (with_reducible repeat (first | apply Kd.R_alloc | apply Kd.R_drewN | apply Kd.R_drew)); exact HO_1120001.out) hb) (Kd.R_base ho0)) (Kd.R_base ho1)) (fun _ h_ => h_.1)); have n6_ := Aside0.mk (Kd.R_lower (Kd.R_new' (Kd.R_new' (Kd.R_new' (Kd.R_new' (Kd.R_new' (Kd.R_new' ho0 (Kd.R_lt (by (with_reducible repeat (first | apply Kd.R_alloc | apply Kd.R_drewN | apply Kd.R_drew)); exact HO_1105000.out))) (Kd.R_lt (by (with_reducible repeat (first | apply Kd.R_alloc | apply Kd.R_drewN | apply Kd.R_drew)); exact HO_1105001.out))) (Kd.R_lt (by (with_reducible repeat (first | apply Kd.R_alloc | apply Kd.R_drewN | apply Kd.R_drew)); exact HO_1112000.out))) (Kd.R_lt (by (with_reducible repeat (first | apply Kd.R_alloc | apply Kd.R_drewN | apply Kd.R_drew)); exact HO_1112001.out))) (Kd.R_lt (by (with_reducible repeat (first | apply Kd.R_alloc | apply Kd.R_drewN | apply Kd.R_drew)); exact HO_1120000.out))) (Kd.R_lt (by (with_reducible repeat (first | apply Kd.R_alloc | apply Kd.R_drewN | apply Kd.R_drew)); exact HO_1120001.out))) (below_size (by repeat (first | (with_reducible first | exact HB.out | apply below_alloc | apply pw_below_drewN | apply below_drew1 | refine below_set ?_ GE1089.out | refine below_set ?_ GE1104.out | refine below_set ?_ GE1111.out | refine below_set ?_ GE1119.out) | exact HB.out)))); have n7_ := Aside0.mk (Kd.R_lower (Kd.R_new' (Kd.R_new' (Kd.R_new' (Kd.R_new' (Kd.R_new' (Kd.R_new' ho1 (Kd.R_lt (by (with_reducible repeat (first | apply Kd.R_alloc | apply Kd.R_drewN | apply Kd.R_drew)); exact HO_1105000.out))) (Kd.R_lt (by (with_reducible repeat (first | apply Kd.R_alloc | apply Kd.R_drewN | apply Kd.R_drew)); exact HO_1105001.out))) (Kd.R_lt (by (with_reducible repeat (first | apply Kd.R_alloc | apply Kd.R_drewN | apply Kd.R_drew)); exact HO_1112000.out))) (Kd.R_lt (by (with_reducible repeat (first | apply Kd.R_alloc | apply Kd.R_drewN | apply Kd.R_drew)); exact HO_1112001.out))) (Kd.R_lt (by (with_reducible repeat (first | apply Kd.R_alloc | apply Kd.R_drewN | apply Kd.R_drew)); exact HO_1120000.out))) (Kd.R_lt (by (with_reducible repeat (first | apply Kd.R_alloc | apply Kd.R_drewN | apply Kd.R_drew)); exact HO_1120001.out))) (below_size (by repeat (first | (with_reducible first | exact HB.out | apply below_alloc | apply pw_below_drewN | apply below_drew1 | refine below_set ?_ GE1089.out | refine below_set ?_ GE1104.out | refine below_set ?_ GE1111.out | refine below_set ?_ GE1119.out) | exact HB.out)))); have n8_ := Aside0.mk (blk_below (g := gb1089) (o := .cells #[.slice A0_0 l0_0.length c0_0, .slice A0_1 l0_1.length c0_1] 24 (0, 0)) (by (with_reducible repeat (first | refine blk_drewN ?_ _ | refine blk_drew ?_ | refine blk_alloc ?_ _)); exact BK1089.out) hb); have n9_ := Aside0.mk (blk_below (g := gb1104) (o := .cells #[.slice Ao21 t1097.length co21, .slice Ao24 t1100.length co24] 27 (0, 0)) (by (with_reducible repeat (first | refine blk_drewN ?_ _ | refine blk_drew ?_ | refine blk_alloc ?_ _)); exact BK1104.out) hb); have n10_ := Aside0.mk (blk_below (g := gb1111) (o := .cells #[.slice Ao28 t1129.length co28, .slice Ao32 t1130.length co32] 27 (0, 0)) (by (with_reducible repeat (first | refine blk_drewN ?_ _ | refine blk_drew ?_ | refine blk_alloc ?_ _)); exact BK1111.out) hb); have n11_ := Aside0.mk (blk_below (g := gb1119) (o := .cells #[.slice Ao35 t1112.length co35, .slice Ao40 t1115.length co40] 27 (0, 0)) (by (with_reducible repeat (first | refine blk_drewN ?_ _ | refine blk_drew ?_ | refine blk_alloc ?_ _)); exact BK1119.out) hb); have n12_ := Aside0.mk (below_step (by repeat (first | (with_reducible first | exact HB.out | apply below_alloc | apply pw_below_drewN | apply below_drew1 | refine below_set ?_ GE1089.out | refine below_set ?_ GE1104.out | refine below_set ?_ GE1111.out | refine below_set ?_ GE1119.out) | exact HB.out)) hb); clear HO_1105000; clear HO_1105001; clear HO_1112000; clear HO_1112001; clear HO_1120000; clear HO_1120001; clear BK1089; clear BK1104; clear BK1111; clear BK1119; clear HB; have HO_1105000 := n0_; have HO_1105001 := n1_; have HO_1112000 := n2_; have HO_1112001 := n3_; have HO_1120000 := n4_; have HO_1120001 := n5_; have HO1138 := n6_; have HO1141 := n7_; have BK1089 := n8_; have BK1104 := n9_; have BK1111 := n10_; have BK1119 := n11_; have HB := n12_; clear n0_ n1_ n2_ n3_ n4_ n5_ n6_ n7_ n8_ n9_ n10_ n11_ n12_; (try clear hb); (try clear hb2); (try clear hk); (try clear hi); (try clear ho0); (try clear ho1); obtain ⟨Ao120, co120, eo120⟩ := Kd.R_slice HO1138.out; subst eo120; obtain ⟨Ao121, co121, eo121⟩ := Kd.R_slice HO1141.out; subst eo121) | ((with_reducible refine gate_callee (f := 56) rfl ?_); refine goesL_ (some 76) rfl rfl Try.func56 (by kernel_rfl) rfl #[.agg #[.slice Ao120 t1136.length co120, .slice Ao121 t1139.length co121]] rfl (by (try simp only [List.map_toArray, List.map_cons, List.map_nil]); first | done | rfl | (simp only [List.length_drop, List.length_take]; rfl)) ?_; (with_reducible refine (impl_ShearSurface.calls kj63 _ _ t1136 _ _ t1139 t1142 t1145 t1148 _ ?side1 ?side2 ?side3 ?side4 A107.out).mono ?_); (case side1 => repeat (first | exact (Kd.R_reads' HO1138.out).2.2 | (with_reducible refine Kd.C_alloc ?_ _) | (with_reducible refine Kd.C_drewN ?_ _) | (with_reducible refine Kd.C_drew ?_))); (case side2 => exact (Kd.R_reads' HO1138.out).2.1); (case side3 => repeat (first | exact (Kd.R_reads' HO1141.out).2.2 | (with_reducible refine Kd.C_alloc ?_ _) | (with_reducible refine Kd.C_drewN ?_ _) | (with_reducible refine Kd.C_drew ?_))); (case side4 => exact (Kd.R_reads' HO1141.out).2.1); rintro e w122 ⟨v1143, v1146, rfl, ho0, ho1, hb⟩; refine ⟨_, rfl, ?_⟩; have n0_ := Aside0.mk (Kd.R_mono (Kd.R_told (Kd.R_told (Kd.R_old (by (with_reducible repeat (first | apply Kd.R_alloc | apply Kd.R_drewN | apply Kd.R_drew)); exact HO_1105000.out) hb) (Kd.R_base ho0)) (Kd.R_base ho1)) (fun _ h_ => h_.1)); have n1_ := Aside0.mk (Kd.R_mono (Kd.R_told (Kd.R_told (Kd.R_old (by (with_reducible repeat (first | apply Kd.R_alloc | apply Kd.R_drewN | apply Kd.R_drew)); exact HO_1105001.out) hb) (Kd.R_base ho0)) (Kd.R_base ho1)) (fun _ h_ => h_.1)); have n2_ := Aside0.mk (Kd.R_mono (Kd.R_told (Kd.R_told (Kd.R_old (by (with_reducible repeat (first | apply Kd.R_alloc | apply Kd.R_drewN | apply Kd.R_drew)); exact HO_1112000.out) hb) (Kd.R_base ho0)) (Kd.R_base ho1)) (fun _ h_ => h_.1)); have n3_ := Aside0.mk (Kd.R_mono (Kd.R_told (Kd.R_told (Kd.R_old (by (with_reducible repeat (first | apply Kd.R_alloc | apply Kd.R_drewN | apply Kd.R_drew)); exact HO_1112001.out) hb) (Kd.R_base ho0)) (Kd.R_base ho1)) (fun _ h_ => h_.1)); have n4_ := Aside0.mk (Kd.R_mono (Kd.R_told (Kd.R_told (Kd.R_old (by (with_reducible repeat (first | apply Kd.R_alloc | apply Kd.R_drewN | apply Kd.R_drew)); exact HO_1120000.out) hb) (Kd.R_base ho0)) (Kd.R_base ho1)) (fun _ h_ => h_.1)); have n5_ := Aside0.mk (Kd.R_mono (Kd.R_told (Kd.R_told (Kd.R_old (by (with_reducible repeat (first | apply Kd.R_alloc | apply Kd.R_drewN | apply Kd.R_drew)); exact HO_1120001.out) hb) (Kd.R_base ho0)) (Kd.R_base ho1)) (fun _ h_ => h_.1)); have n6_ := Aside0.mk (Kd.R_mono (Kd.R_told (Kd.R_told (Kd.R_old (by (with_reducible repeat (first | apply Kd.R_alloc | apply Kd.R_drewN | apply Kd.R_drew)); exact HO1138.out) hb) (Kd.R_base ho0)) (Kd.R_base ho1)) (fun _ h_ => h_.1)); have n7_ := Aside0.mk (Kd.R_mono (Kd.R_told (Kd.R_told (Kd.R_old (by (with_reducible repeat (first | apply Kd.R_alloc | apply Kd.R_drewN | apply Kd.R_drew)); exact HO1141.out) hb) (Kd.R_base ho0)) (Kd.R_base ho1)) (fun _ h_ => h_.1)); have n8_ := Aside0.mk (Kd.R_lower (Kd.R_new' (Kd.R_new' (Kd.R_new' (Kd.R_new' (Kd.R_new' (Kd.R_new' (Kd.R_new' (Kd.R_new' ho0 (Kd.R_lt (by (with_reducible repeat (first | apply Kd.R_alloc | apply Kd.R_drewN | apply Kd.R_drew)); exact HO_1105000.out))) (Kd.R_lt (by (with_reducible repeat (first | apply Kd.R_alloc | apply Kd.R_drewN | apply Kd.R_drew)); exact HO_1105001.out))) (Kd.R_lt (by (with_reducible repeat (first | apply Kd.R_alloc | apply Kd.R_drewN | apply Kd.R_drew)); exact HO_1112000.out))) (Kd.R_lt (by (with_reducible repeat (first | apply Kd.R_alloc | apply Kd.R_drewN | apply Kd.R_drew)); exact HO_1112001.out))) (Kd.R_lt (by (with_reducible repeat (first | apply Kd.R_alloc | apply Kd.R_drewN | apply Kd.R_drew)); exact HO_1120000.out))) (Kd.R_lt (by (with_reducible repeat (first | apply Kd.R_alloc | apply Kd.R_drewN | apply Kd.R_drew)); exact HO_1120001.out))) (Kd.R_lt (by (with_reducible repeat (first | apply Kd.R_alloc | apply Kd.R_drewN | apply Kd.R_drew)); exact HO1138.out))) (Kd.R_lt (by (with_reducible repeat (first | apply Kd.R_alloc | apply Kd.R_drewN | apply Kd.R_drew)); exact HO1141.out))) (below_size (by repeat (first | (with_reducible first | exact HB.out | apply below_alloc | apply pw_below_drewN | apply below_drew1 | refine below_set ?_ GE1089.out | refine below_set ?_ GE1104.out | refine below_set ?_ GE1111.out | refine below_set ?_ GE1119.out) | exact HB.out)))); have n9_ := Aside0.mk (Kd.R_lower (Kd.R_new' (Kd.R_new' (Kd.R_new' (Kd.R_new' (Kd.R_new' (Kd.R_new' (Kd.R_new' (Kd.R_new' ho1 (Kd.R_lt (by (with_reducible repeat (first | apply Kd.R_alloc | apply Kd.R_drewN | apply Kd.R_drew)); exact HO_1105000.out))) (Kd.R_lt (by (with_reducible repeat (first | apply Kd.R_alloc | apply Kd.R_drewN | apply Kd.R_drew)); exact HO_1105001.out))) (Kd.R_lt (by (with_reducible repeat (first | apply Kd.R_alloc | apply Kd.R_drewN | apply Kd.R_drew)); exact HO_1112000.out))) (Kd.R_lt (by (with_reducible repeat (first | apply Kd.R_alloc | apply Kd.R_drewN | apply Kd.R_drew)); exact HO_1112001.out))) (Kd.R_lt (by (with_reducible repeat (first | apply Kd.R_alloc | apply Kd.R_drewN | apply Kd.R_drew)); exact HO_1120000.out))) (Kd.R_lt (by (with_reducible repeat (first | apply Kd.R_alloc | apply Kd.R_drewN | apply Kd.R_drew)); exact HO_1120001.out))) (Kd.R_lt (by (with_reducible repeat (first | apply Kd.R_alloc | apply Kd.R_drewN | apply Kd.R_drew)); exact HO1138.out))) (Kd.R_lt (by (with_reducible repeat (first | apply Kd.R_alloc | apply Kd.R_drewN | apply Kd.R_drew)); exact HO1141.out))) (below_size (by repeat (first | (with_reducible first | exact HB.out | apply below_alloc | apply pw_below_drewN | apply below_drew1 | refine below_set ?_ GE1089.out | refine below_set ?_ GE1104.out | refine below_set ?_ GE1111.out | refine below_set ?_ GE1119.out) | exact HB.out)))); have n10_ := Aside0.mk (blk_below (g := gb1089) (o := .cells #[.slice A0_0 l0_0.length c0_0, .slice A0_1 l0_1.length c0_1] 24 (0, 0)) (by (with_reducible repeat (first | refine blk_drewN ?_ _ | refine blk_drew ?_ | refine blk_alloc ?_ _)); exact BK1089.out) hb); have n11_ := Aside0.mk (blk_below (g := gb1104) (o := .cells #[.slice Ao21 t1097.length co21, .slice Ao24 t1100.length co24] 27 (0, 0)) (by (with_reducible repeat (first | refine blk_drewN ?_ _ | refine blk_drew ?_ | refine blk_alloc ?_ _)); exact BK1104.out) hb); have n12_ := Aside0.mk (blk_below (g := gb1111) (o := .cells #[.slice Ao28 t1129.length co28, .slice Ao32 t1130.length co32] 27 (0, 0)) (by (with_reducible repeat (first | refine blk_drewN ?_ _ | refine blk_drew ?_ | refine blk_alloc ?_ _)); exact BK1111.out) hb); have n13_ := Aside0.mk (blk_below (g := gb1119) (o := .cells #[.slice Ao35 t1112.length co35, .slice Ao40 t1115.length co40] 27 (0, 0)) (by (with_reducible repeat (first | refine blk_drewN ?_ _ | refine blk_drew ?_ | refine blk_alloc ?_ _)); exact BK1119.out) hb); have n14_ := Aside0.mk (below_step (by repeat (first | (with_reducible first | exact HB.out | apply below_alloc | apply pw_below_drewN | apply below_drew1 | refine below_set ?_ GE1089.out | refine below_set ?_ GE1104.out | refine below_set ?_ GE1111.out | refine below_set ?_ GE1119.out) | exact HB.out)) hb); clear HO_1105000; clear HO_1105001; clear HO_1112000; clear HO_1112001; clear HO_1120000; clear HO_1120001; clear HO1138; clear HO1141; clear BK1089; clear BK1104; clear BK1111; clear BK1119; clear HB; have HO_1105000 := n0_; have HO_1105001 := n1_; have HO_1112000 := n2_; have HO_1112001 := n3_; have HO_1120000 := n4_; have HO_1120001 := n5_; have HO1138 := n6_; have HO1141 := n7_; have HO1144 := n8_; have HO1147 := n9_; have BK1089 := n10_; have BK1104 := n11_; have BK1111 := n12_; have BK1119 := n13_; have HB := n14_; clear n0_ n1_ n2_ n3_ n4_ n5_ n6_ n7_ n8_ n9_ n10_ n11_ n12_ n13_ n14_; (try clear hb); (try clear hb2); (try clear hk); (try clear hi); (try clear ho0); (try clear ho1)) | ((with_reducible refine gate_dst (N := 12) rfl ?_); refine box_event ?hg (N := 12) ?hd (cs := #[.slice none 0 0, .slice none 0 0]) (t := 27) ?hr ?_; (case hd => rfl); (case hg => rfl); (case hr => first | (go_simp; done) | (go_simp; rfl)); intro gb1149 hg w123 hbox hb; have n0_ := Aside0.mk (Kd.R_below (by (with_reducible repeat (first | apply Kd.R_alloc | apply Kd.R_drewN | apply Kd.R_drew)); exact HO_1105000.out) hb); have n1_ := Aside0.mk (Kd.R_below (by (with_reducible repeat (first | apply Kd.R_alloc | apply Kd.R_drewN | apply Kd.R_drew)); exact HO_1105001.out) hb); have n2_ := Aside0.mk (Kd.R_below (by (with_reducible repeat (first | apply Kd.R_alloc | apply Kd.R_drewN | apply Kd.R_drew)); exact HO_1112000.out) hb); have n3_ := Aside0.mk (Kd.R_below (by (with_reducible repeat (first | apply Kd.R_alloc | apply Kd.R_drewN | apply Kd.R_drew)); exact HO_1112001.out) hb); have n4_ := Aside0.mk (Kd.R_below (by (with_reducible repeat (first | apply Kd.R_alloc | apply Kd.R_drewN | apply Kd.R_drew)); exact HO_1120000.out) hb); have n5_ := Aside0.mk (Kd.R_below (by (with_reducible repeat (first | apply Kd.R_alloc | apply Kd.R_drewN | apply Kd.R_drew)); exact HO_1120001.out) hb); have n6_ := Aside0.mk (Kd.R_below (by (with_reducible repeat (first | apply Kd.R_alloc | apply Kd.R_drewN | apply Kd.R_drew)); exact HO1138.out) hb); have n7_ := Aside0.mk (Kd.R_below (by (with_reducible repeat (first | apply Kd.R_alloc | apply Kd.R_drewN | apply Kd.R_drew)); exact HO1141.out) hb); have n8_ := Aside0.mk (Kd.R_below (by (with_reducible repeat (first | apply Kd.R_alloc | apply Kd.R_drewN | apply Kd.R_drew)); exact HO1144.out) hb); have n9_ := Aside0.mk (Kd.R_below (by (with_reducible repeat (first | apply Kd.R_alloc | apply Kd.R_drewN | apply Kd.R_drew)); exact HO1147.out) hb); have n10_ := Aside0.mk (blk_below (g := gb1089) (o := .cells #[.slice A0_0 l0_0.length c0_0, .slice A0_1 l0_1.length c0_1] 24 (0, 0)) (by (with_reducible repeat (first | refine blk_drewN ?_ _ | refine blk_drew ?_ | refine blk_alloc ?_ _)); exact BK1089.out) hb); have n11_ := Aside0.mk (blk_below (g := gb1104) (o := .cells #[.slice Ao21 t1097.length co21, .slice Ao24 t1100.length co24] 27 (0, 0)) (by (with_reducible repeat (first | refine blk_drewN ?_ _ | refine blk_drew ?_ | refine blk_alloc ?_ _)); exact BK1104.out) hb); have n12_ := Aside0.mk (blk_below (g := gb1111) (o := .cells #[.slice Ao28 t1129.length co28, .slice Ao32 t1130.length co32] 27 (0, 0)) (by (with_reducible repeat (first | refine blk_drewN ?_ _ | refine blk_drew ?_ | refine blk_alloc ?_ _)); exact BK1111.out) hb); have n13_ := Aside0.mk (blk_below (g := gb1119) (o := .cells #[.slice Ao35 t1112.length co35, .slice Ao40 t1115.length co40] 27 (0, 0)) (by (with_reducible repeat (first | refine blk_drewN ?_ _ | refine blk_drew ?_ | refine blk_alloc ?_ _)); exact BK1119.out) hb); have n14_ := Aside0.mk (below_step (by repeat (first | (with_reducible first | exact HB.out | apply below_alloc | apply pw_below_drewN | apply below_drew1 | refine below_set ?_ GE1089.out | refine below_set ?_ GE1104.out | refine below_set ?_ GE1111.out | refine below_set ?_ GE1119.out) | exact HB.out)) hb); have n15_ := Aside0.mk (hbox); have n16_ := Aside0.mk ((by rw [hg]; exact (below_size (by repeat (first | (with_reducible first | exact HB.out | apply below_alloc | apply pw_below_drewN | apply below_drew1 | refine below_set ?_ GE1089.out | refine below_set ?_ GE1104.out | refine below_set ?_ GE1111.out | refine below_set ?_ GE1119.out) | exact HB.out))) : w.heap.size ≤ gb1149)); have n17_ := Aside0.mk ((by rw [hg]; exact (below_size (by repeat (first | (with_reducible first | exact HB.out | apply below_alloc | apply pw_below_drewN | apply below_drew1 | refine below_set ?_ GE1089.out | refine below_set ?_ GE1104.out | refine below_set ?_ GE1111.out | refine below_set ?_ GE1119.out) | exact HB.out))) : w.heap.size ≤ gb1149)); have n18_ := Aside0.mk ((by rw [hg]; exact Nat.ne_of_lt (blk_lt (g := gb1089) (o := .cells #[.slice A0_0 l0_0.length c0_0, .slice A0_1 l0_1.length c0_1] 24 (0, 0)) (by (with_reducible repeat (first | refine blk_drewN ?_ _ | refine blk_drew ?_ | refine blk_alloc ?_ _)); exact BK1089.out)) : gb1089 ≠ gb1149)); have n19_ := Aside0.mk ((by rw [hg]; exact Nat.ne_of_gt (blk_lt (g := gb1089) (o := .cells #[.slice A0_0 l0_0.length c0_0, .slice A0_1 l0_1.length c0_1] 24 (0, 0)) (by (with_reducible repeat (first | refine blk_drewN ?_ _ | refine blk_drew ?_ | refine blk_alloc ?_ _)); exact BK1089.out)) : gb1149 ≠ gb1089)); have n20_ := Aside0.mk ((by rw [hg]; exact Nat.ne_of_lt (blk_lt (g := gb1104) (o := .cells #[.slice Ao21 t1097.length co21, .slice Ao24 t1100.length co24] 27 (0, 0)) (by (with_reducible repeat (first | refine blk_drewN ?_ _ | refine blk_drew ?_ | refine blk_alloc ?_ _)); exact BK1104.out)) : gb1104 ≠ gb1149)); have n21_ := Aside0.mk ((by rw [hg]; exact Nat.ne_of_gt (blk_lt (g := gb1104) (o := .cells #[.slice Ao21 t1097.length co21, .slice Ao24 t1100.length co24] 27 (0, 0)) (by (with_reducible repeat (first | refine blk_drewN ?_ _ | refine blk_drew ?_ | refine blk_alloc ?_ _)); exact BK1104.out)) : gb1149 ≠ gb1104)); have n22_ := Aside0.mk ((by rw [hg]; exact Nat.ne_of_lt (blk_lt (g := gb1111) (o := .cells #[.slice Ao28 t1129.length co28, .slice Ao32 t1130.length co32] 27 (0, 0)) (by (with_reducible repeat (first | refine blk_drewN ?_ _ | refine blk_drew ?_ | refine blk_alloc ?_ _)); exact BK1111.out)) : gb1111 ≠ gb1149)); have n23_ := Aside0.mk ((by rw [hg]; exact Nat.ne_of_gt (blk_lt (g := gb1111) (o := .cells #[.slice Ao28 t1129.length co28, .slice Ao32 t1130.length co32] 27 (0, 0)) (by (with_reducible repeat (first | refine blk_drewN ?_ _ | refine blk_drew ?_ | refine blk_alloc ?_ _)); exact BK1111.out)) : gb1149 ≠ gb1111)); have n24_ := Aside0.mk ((by rw [hg]; exact Nat.ne_of_lt (blk_lt (g := gb1119) (o := .cells #[.slice Ao35 t1112.length co35, .slice Ao40 t1115.length co40] 27 (0, 0)) (by (with_reducible repeat (first | refine blk_drewN ?_ _ | refine blk_drew ?_ | refine blk_alloc ?_ _)); exact BK1119.out)) : gb1119 ≠ gb1149)); have n25_ := Aside0.mk ((by rw [hg]; exact Nat.ne_of_gt (blk_lt (g := gb1119) (o := .cells #[.slice Ao35 t1112.length co35, .slice Ao40 t1115.length co40] 27 (0, 0)) (by (with_reducible repeat (first | refine blk_drewN ?_ _ | refine blk_drew ?_ | refine blk_alloc ?_ _)); exact BK1119.out)) : gb1149 ≠ gb1119)); clear HO_1105000; clear HO_1105001; clear HO_1112000; clear HO_1112001; clear HO_1120000; clear HO_1120001; clear HO1138; clear HO1141; clear HO1144; clear HO1147; clear BK1089; clear BK1104; clear BK1111; clear BK1119; clear HB; have HO_1105000 := n0_; have HO_1105001 := n1_; have HO_1112000 := n2_; have HO_1112001 := n3_; have HO_1120000 := n4_; have HO_1120001 := n5_; have HO1138 := n6_; have HO1141 := n7_; have HO1144 := n8_; have HO1147 := n9_; have BK1089 := n10_; have BK1104 := n11_; have BK1111 := n12_; have BK1119 := n13_; have HB := n14_; have BK1149 := n15_; have GW1149 := n16_; have GE1149 := n17_; have NB1089_1149 := n18_; have NB1149_1089 := n19_; have NB1104_1149 := n20_; have NB1149_1104 := n21_; have NB1111_1149 := n22_; have NB1149_1111 := n23_; have NB1119_1149 := n24_; have NB1149_1119 := n25_; clear n0_ n1_ n2_ n3_ n4_ n5_ n6_ n7_ n8_ n9_ n10_ n11_ n12_ n13_ n14_ n15_ n16_ n17_ n18_ n19_ n20_ n21_ n22_ n23_ n24_ n25_; clear hb hbox hg; obtain ⟨Ao124, co124, eo124⟩ := Kd.R_slice HO1144.out; subst eo124; have hnb125 := NB1149_1089.out; have hnc125 := NB1089_1149.out; have hnb126 := NB1149_1104.out; have hnc126 := NB1104_1149.out; have hnb127 := NB1149_1111.out; have hnc127 := NB1111_1149.out; have hnb128 := NB1149_1119.out; have hnc128 := NB1119_1149.out; have hcz129_0 : w123.cell? ⟨gb1149, 0, none⟩ = some (.slice none 0 0) := (blk_cell BK1149.out 0).trans rfl; have hcz129_1 : w123.cell? ⟨gb1149, 1, none⟩ = some (.slice none 0 0) := (blk_cell BK1149.out 1).trans rfl; have hfz129_0 := blk_frozen BK1149.out 0; have hfz129_1 := blk_frozen BK1149.out 1; obtain ⟨Ao130, co130, eo130⟩ := Kd.R_slice HO1147.out; subst eo130))
                      (try simp only [Act.put, List.setIfInBounds_toArray, List.set_cons_zero, List.set_cons_succ])
                      go_cut [87] (fun v87 wc => ∃ (kq : Nat) (x87_107 : Bool), v87 = .bool x87_107 ∧ Aside0 (laws_FnExactShearSurface.j2 kq t1132 x87_107 t1133 t1134 = some true) ∧ Aside0 (kq ≤ kj63) ∧ Aside0 (Kd.R (Kd.int .i64) 3 wc w.heap.size (fun k_ => some k_ ≠ ((.slice Ao24 t1100.length co24) : Value).ownBlock ∧ some k_ ≠ ((.slice Ao28 t1129.length co28) : Value).ownBlock ∧ some k_ ≠ ((.slice Ao32 t1130.length co32) : Value).ownBlock ∧ some k_ ≠ ((.slice Ao35 t1112.length co35) : Value).ownBlock ∧ some k_ ≠ ((.slice Ao40 t1115.length co40) : Value).ownBlock ∧ some k_ ≠ ((.slice Ao124 t1142.length co124) : Value).ownBlock ∧ some k_ ≠ ((.slice Ao130 t1145.length co130) : Value).ownBlock) (.slice Ao21 t1097.length co21) t1097) ∧ Aside0 (Kd.R (Kd.int .i64) 3 wc w.heap.size (fun k_ => some k_ ≠ ((.slice Ao21 t1097.length co21) : Value).ownBlock ∧ some k_ ≠ ((.slice Ao28 t1129.length co28) : Value).ownBlock ∧ some k_ ≠ ((.slice Ao32 t1130.length co32) : Value).ownBlock ∧ some k_ ≠ ((.slice Ao35 t1112.length co35) : Value).ownBlock ∧ some k_ ≠ ((.slice Ao40 t1115.length co40) : Value).ownBlock ∧ some k_ ≠ ((.slice Ao124 t1142.length co124) : Value).ownBlock ∧ some k_ ≠ ((.slice Ao130 t1145.length co130) : Value).ownBlock) (.slice Ao24 t1100.length co24) t1100) ∧ Aside0 (Kd.R (Kd.int .i64) 3 wc w.heap.size (fun k_ => some k_ ≠ ((.slice Ao21 t1097.length co21) : Value).ownBlock ∧ some k_ ≠ ((.slice Ao24 t1100.length co24) : Value).ownBlock ∧ some k_ ≠ ((.slice Ao32 t1130.length co32) : Value).ownBlock ∧ some k_ ≠ ((.slice Ao35 t1112.length co35) : Value).ownBlock ∧ some k_ ≠ ((.slice Ao40 t1115.length co40) : Value).ownBlock ∧ some k_ ≠ ((.slice Ao124 t1142.length co124) : Value).ownBlock ∧ some k_ ≠ ((.slice Ao130 t1145.length co130) : Value).ownBlock) (.slice Ao28 t1129.length co28) t1129) ∧ Aside0 (Kd.R (Kd.int .i64) 3 wc w.heap.size (fun k_ => some k_ ≠ ((.slice Ao21 t1097.length co21) : Value).ownBlock ∧ some k_ ≠ ((.slice Ao24 t1100.length co24) : Value).ownBlock ∧ some k_ ≠ ((.slice Ao28 t1129.length co28) : Value).ownBlock ∧ some k_ ≠ ((.slice Ao35 t1112.length co35) : Value).ownBlock ∧ some k_ ≠ ((.slice Ao40 t1115.length co40) : Value).ownBlock ∧ some k_ ≠ ((.slice Ao124 t1142.length co124) : Value).ownBlock ∧ some k_ ≠ ((.slice Ao130 t1145.length co130) : Value).ownBlock) (.slice Ao32 t1130.length co32) t1130) ∧ Aside0 (Kd.R (Kd.int .i64) 3 wc w.heap.size (fun k_ => some k_ ≠ ((.slice Ao21 t1097.length co21) : Value).ownBlock ∧ some k_ ≠ ((.slice Ao24 t1100.length co24) : Value).ownBlock ∧ some k_ ≠ ((.slice Ao28 t1129.length co28) : Value).ownBlock ∧ some k_ ≠ ((.slice Ao32 t1130.length co32) : Value).ownBlock ∧ some k_ ≠ ((.slice Ao40 t1115.length co40) : Value).ownBlock ∧ some k_ ≠ ((.slice Ao124 t1142.length co124) : Value).ownBlock ∧ some k_ ≠ ((.slice Ao130 t1145.length co130) : Value).ownBlock) (.slice Ao35 t1112.length co35) t1133) ∧ Aside0 (Kd.R (Kd.int .i64) 3 wc w.heap.size (fun k_ => some k_ ≠ ((.slice Ao21 t1097.length co21) : Value).ownBlock ∧ some k_ ≠ ((.slice Ao24 t1100.length co24) : Value).ownBlock ∧ some k_ ≠ ((.slice Ao28 t1129.length co28) : Value).ownBlock ∧ some k_ ≠ ((.slice Ao32 t1130.length co32) : Value).ownBlock ∧ some k_ ≠ ((.slice Ao35 t1112.length co35) : Value).ownBlock ∧ some k_ ≠ ((.slice Ao124 t1142.length co124) : Value).ownBlock ∧ some k_ ≠ ((.slice Ao130 t1145.length co130) : Value).ownBlock) (.slice Ao40 t1115.length co40) t1134) ∧ Aside0 (Kd.R (Kd.int .i64) 3 wc w.heap.size (fun k_ => some k_ ≠ ((.slice Ao21 t1097.length co21) : Value).ownBlock ∧ some k_ ≠ ((.slice Ao24 t1100.length co24) : Value).ownBlock ∧ some k_ ≠ ((.slice Ao28 t1129.length co28) : Value).ownBlock ∧ some k_ ≠ ((.slice Ao32 t1130.length co32) : Value).ownBlock ∧ some k_ ≠ ((.slice Ao35 t1112.length co35) : Value).ownBlock ∧ some k_ ≠ ((.slice Ao40 t1115.length co40) : Value).ownBlock ∧ some k_ ≠ ((.slice Ao130 t1145.length co130) : Value).ownBlock) (.slice Ao124 t1142.length co124) t1142) ∧ Aside0 (Kd.R (Kd.int .i64) 3 wc w.heap.size (fun k_ => some k_ ≠ ((.slice Ao21 t1097.length co21) : Value).ownBlock ∧ some k_ ≠ ((.slice Ao24 t1100.length co24) : Value).ownBlock ∧ some k_ ≠ ((.slice Ao28 t1129.length co28) : Value).ownBlock ∧ some k_ ≠ ((.slice Ao32 t1130.length co32) : Value).ownBlock ∧ some k_ ≠ ((.slice Ao35 t1112.length co35) : Value).ownBlock ∧ some k_ ≠ ((.slice Ao40 t1115.length co40) : Value).ownBlock ∧ some k_ ≠ ((.slice Ao124 t1142.length co124) : Value).ownBlock) (.slice Ao130 t1145.length co130) t1145) ∧ Aside0 (wc.heap[gb1089]? = some (.cells #[(.slice A0_0 l0_0.length c0_0), (.slice A0_1 l0_1.length c0_1)] 24 (0, 0))) ∧ Aside0 (wc.heap[gb1104]? = some (.cells #[(.slice Ao21 t1097.length co21), (.slice Ao24 t1100.length co24)] 27 (0, 0))) ∧ Aside0 (wc.heap[gb1111]? = some (.cells #[(.slice Ao28 t1129.length co28), (.slice Ao32 t1130.length co32)] 27 (0, 0))) ∧ Aside0 (wc.heap[gb1119]? = some (.cells #[(.slice Ao35 t1112.length co35), (.slice Ao40 t1115.length co40)] 27 (0, 0))) ∧ Aside0 (wc.heap[gb1149]? = some (.cells #[(.slice Ao124 t1142.length co124), (.slice Ao130 t1145.length co130)] 27 (0, 0))) ∧ Aside0 (Below w.heap.size w wc))
                      case first =>
                        have H := HC108.out
                        clear HC108
                        replace H := Option.bind_eq_some_iff.mp H
                        obtain ⟨t1150, A1310, H⟩ := H
                        replace H : (if t1150 = true then (laws_FnExactShearSurface.j2 kj63 t1132 (t1148 != t1103) t1133 t1134) else (laws_FnExactShearSurface.j2 kj63 t1132 true t1133 t1134)) = some true := H
                        have A131 := Aside0.mk A1310
                        clear A1310
                        by_cases c132 : t1150 = true
                        · subst c132
                          have H1 : (laws_FnExactShearSurface.j2 kj63 t1132 (t1148 != t1103) t1133 t1134) = some true := by rw [if_pos rfl] at H; exact H
                          clear H
                          have H := H1
                          clear H1
                          have H' := Aside0.mk H
                          clear H
                          have hnb133 := NB1149_1089.out
                          have hnc133 := NB1089_1149.out
                          have hnb134 := NB1149_1104.out
                          have hnc134 := NB1104_1149.out
                          have hnb135 := NB1149_1111.out
                          have hnc135 := NB1111_1149.out
                          have hnb136 := NB1149_1119.out
                          have hnc136 := NB1119_1149.out
                          have hcz137_0 : w123.cell? ⟨gb1149, 0, none⟩ = some (.slice none 0 0) := (blk_cell BK1149.out 0).trans rfl
                          have hcz137_1 : w123.cell? ⟨gb1149, 1, none⟩ = some (.slice none 0 0) := (blk_cell BK1149.out 1).trans rfl
                          have hfz137_0 := blk_frozen BK1149.out 0
                          have hfz137_1 := blk_frozen BK1149.out 1
                          have hnb138 := NB1104_1089.out
                          have hnc138 := NB1089_1104.out
                          have hnb139 := NB1104_1111.out
                          have hnc139 := NB1111_1104.out
                          have hnb140 := NB1104_1119.out
                          have hnc140 := NB1119_1104.out
                          have hcz141_0 : w123.cell? ⟨gb1104, 0, none⟩ = some (.slice Ao21 t1097.length co21) := (blk_cell BK1104.out 0).trans rfl
                          have hcz141_1 : w123.cell? ⟨gb1104, 1, none⟩ = some (.slice Ao24 t1100.length co24) := (blk_cell BK1104.out 1).trans rfl
                          have hfz141_0 := blk_frozen BK1104.out 0
                          have hfz141_1 := blk_frozen BK1104.out 1
                          go_wp2_with (first | ((with_reducible refine gate_callee (f := 19) rfl ?_); refine goesL_ (some 81) rfl rfl Try.func19 (by kernel_rfl) rfl #[.agg #[.slice Ao124 t1142.length co124, .slice Ao130 t1145.length co130], .agg #[.slice Ao21 t1097.length co21, .slice Ao24 t1100.length co24]] rfl (by (try simp only [List.map_toArray, List.map_cons, List.map_nil]); first | done | rfl | (simp only [List.length_drop, List.length_take]; rfl)) ?_; (with_reducible refine (laws_eqSurface.calls kj63 _ _ t1142 _ _ t1145 _ _ t1097 _ _ t1100 true _ ?side1 ?side2 ?side3 ?side4 ?side5 ?side6 ?side7 ?side8 A131.out).mono ?_); (case side1 => refine (Kd.R_reads' (e := 3) (base := w.heap.size) (ok := fun k_ => ((((((((some k_ ≠ (.slice Ao130 t1145.length co130 : Value).ownBlock ∧ some k_ ≠ (.slice Ao21 t1097.length co21 : Value).ownBlock) ∧ some k_ ≠ (.slice Ao24 t1100.length co24 : Value).ownBlock) ∧ some k_ ≠ (.slice Ao28 t1129.length co28 : Value).ownBlock) ∧ some k_ ≠ (.slice Ao32 t1130.length co32 : Value).ownBlock) ∧ some k_ ≠ (.slice Ao35 t1112.length co35 : Value).ownBlock) ∧ some k_ ≠ (.slice Ao40 t1115.length co40 : Value).ownBlock) ∧ some k_ ≠ (.slice Ao120 t1136.length co120 : Value).ownBlock) ∧ some k_ ≠ (.slice Ao121 t1139.length co121 : Value).ownBlock)) (n := t1142.length) (c := co124) ?_).2.2; exact (by (with_reducible repeat (first | apply Kd.R_alloc | apply Kd.R_drewN | apply Kd.R_drew)); exact (Kd.R_mono (Kd.R_far (p := ⟨gb1149, 1, none⟩) (Kd.R_far (p := ⟨gb1149, 0, none⟩) (Kd.R_types HO1144.out BK1149.out (by decide)) (fun _ hk => hk.2) (.slice Ao124 t1142.length co124)) (fun _ hk => hk.2) (.slice Ao130 t1145.length co130)) (fun _ h_ => h_.1)))); (case side2 => exact (Kd.R_reads' HO1144.out).2.1); (case side3 => refine (Kd.R_reads' (e := 3) (base := w.heap.size) (ok := fun k_ => ((((((((some k_ ≠ (.slice Ao124 t1142.length co124 : Value).ownBlock ∧ some k_ ≠ (.slice Ao21 t1097.length co21 : Value).ownBlock) ∧ some k_ ≠ (.slice Ao24 t1100.length co24 : Value).ownBlock) ∧ some k_ ≠ (.slice Ao28 t1129.length co28 : Value).ownBlock) ∧ some k_ ≠ (.slice Ao32 t1130.length co32 : Value).ownBlock) ∧ some k_ ≠ (.slice Ao35 t1112.length co35 : Value).ownBlock) ∧ some k_ ≠ (.slice Ao40 t1115.length co40 : Value).ownBlock) ∧ some k_ ≠ (.slice Ao120 t1136.length co120 : Value).ownBlock) ∧ some k_ ≠ (.slice Ao121 t1139.length co121 : Value).ownBlock)) (n := t1145.length) (c := co130) ?_).2.2; exact (by (with_reducible repeat (first | apply Kd.R_alloc | apply Kd.R_drewN | apply Kd.R_drew)); exact (Kd.R_mono (Kd.R_far (p := ⟨gb1149, 1, none⟩) (Kd.R_far (p := ⟨gb1149, 0, none⟩) (Kd.R_types HO1147.out BK1149.out (by decide)) (fun _ hk => hk.2) (.slice Ao124 t1142.length co124)) (fun _ hk => hk.2) (.slice Ao130 t1145.length co130)) (fun _ h_ => h_.1)))); (case side4 => exact (Kd.R_reads' HO1147.out).2.1); (case side5 => refine (Kd.R_reads' (e := 3) (base := w.heap.size) (ok := fun k_ => (((((some k_ ≠ (.slice Ao24 t1100.length co24 : Value).ownBlock ∧ (some k_ ≠ (.slice Ao28 t1129.length co28 : Value).ownBlock ∧ (some k_ ≠ (.slice Ao32 t1130.length co32 : Value).ownBlock ∧ (some k_ ≠ (.slice Ao35 t1112.length co35 : Value).ownBlock ∧ some k_ ≠ (.slice Ao40 t1115.length co40 : Value).ownBlock)))) ∧ some k_ ≠ (.slice Ao120 t1136.length co120 : Value).ownBlock) ∧ some k_ ≠ (.slice Ao121 t1139.length co121 : Value).ownBlock) ∧ some k_ ≠ (.slice Ao124 t1142.length co124 : Value).ownBlock) ∧ some k_ ≠ (.slice Ao130 t1145.length co130 : Value).ownBlock)) (n := t1097.length) (c := co21) ?_).2.2; exact (by (with_reducible repeat (first | apply Kd.R_alloc | apply Kd.R_drewN | apply Kd.R_drew)); exact (Kd.R_mono (Kd.R_far (p := ⟨gb1149, 1, none⟩) (Kd.R_far (p := ⟨gb1149, 0, none⟩) (Kd.R_types HO_1105000.out BK1149.out (by decide)) (fun _ hk => hk.2) (.slice Ao124 t1142.length co124)) (fun _ hk => hk.2) (.slice Ao130 t1145.length co130)) (fun _ h_ => h_.1)))); (case side6 => exact (Kd.R_reads' HO_1105000.out).2.1); (case side7 => refine (Kd.R_reads' (e := 3) (base := w.heap.size) (ok := fun k_ => (((((some k_ ≠ (.slice Ao21 t1097.length co21 : Value).ownBlock ∧ (some k_ ≠ (.slice Ao28 t1129.length co28 : Value).ownBlock ∧ (some k_ ≠ (.slice Ao32 t1130.length co32 : Value).ownBlock ∧ (some k_ ≠ (.slice Ao35 t1112.length co35 : Value).ownBlock ∧ some k_ ≠ (.slice Ao40 t1115.length co40 : Value).ownBlock)))) ∧ some k_ ≠ (.slice Ao120 t1136.length co120 : Value).ownBlock) ∧ some k_ ≠ (.slice Ao121 t1139.length co121 : Value).ownBlock) ∧ some k_ ≠ (.slice Ao124 t1142.length co124 : Value).ownBlock) ∧ some k_ ≠ (.slice Ao130 t1145.length co130 : Value).ownBlock)) (n := t1100.length) (c := co24) ?_).2.2; exact (by (with_reducible repeat (first | apply Kd.R_alloc | apply Kd.R_drewN | apply Kd.R_drew)); exact (Kd.R_mono (Kd.R_far (p := ⟨gb1149, 1, none⟩) (Kd.R_far (p := ⟨gb1149, 0, none⟩) (Kd.R_types HO_1105001.out BK1149.out (by decide)) (fun _ hk => hk.2) (.slice Ao124 t1142.length co124)) (fun _ hk => hk.2) (.slice Ao130 t1145.length co130)) (fun _ h_ => h_.1)))); (case side8 => exact (Kd.R_reads' HO_1105001.out).2.1); rintro e w142 ⟨rfl, hb⟩; refine ⟨_, rfl, ?_⟩; have n0_ := Aside0.mk (Kd.R_below (by (with_reducible repeat (first | apply Kd.R_alloc | apply Kd.R_drewN | apply Kd.R_drew)); exact (Kd.R_mono (Kd.R_far (p := ⟨gb1149, 1, none⟩) (Kd.R_far (p := ⟨gb1149, 0, none⟩) (Kd.R_types HO_1105000.out BK1149.out (by decide)) (fun _ hk => hk.2) (.slice Ao124 t1142.length co124)) (fun _ hk => hk.2) (.slice Ao130 t1145.length co130)) (fun _ h_ => h_.1))) hb); have n1_ := Aside0.mk (Kd.R_below (by (with_reducible repeat (first | apply Kd.R_alloc | apply Kd.R_drewN | apply Kd.R_drew)); exact (Kd.R_mono (Kd.R_far (p := ⟨gb1149, 1, none⟩) (Kd.R_far (p := ⟨gb1149, 0, none⟩) (Kd.R_types HO_1105001.out BK1149.out (by decide)) (fun _ hk => hk.2) (.slice Ao124 t1142.length co124)) (fun _ hk => hk.2) (.slice Ao130 t1145.length co130)) (fun _ h_ => h_.1))) hb); have n2_ := Aside0.mk (Kd.R_below (by (with_reducible repeat (first | apply Kd.R_alloc | apply Kd.R_drewN | apply Kd.R_drew)); exact (Kd.R_mono (Kd.R_far (p := ⟨gb1149, 1, none⟩) (Kd.R_far (p := ⟨gb1149, 0, none⟩) (Kd.R_types HO_1112000.out BK1149.out (by decide)) (fun _ hk => hk.2) (.slice Ao124 t1142.length co124)) (fun _ hk => hk.2) (.slice Ao130 t1145.length co130)) (fun _ h_ => h_.1))) hb); have n3_ := Aside0.mk (Kd.R_below (by (with_reducible repeat (first | apply Kd.R_alloc | apply Kd.R_drewN | apply Kd.R_drew)); exact (Kd.R_mono (Kd.R_far (p := ⟨gb1149, 1, none⟩) (Kd.R_far (p := ⟨gb1149, 0, none⟩) (Kd.R_types HO_1112001.out BK1149.out (by decide)) (fun _ hk => hk.2) (.slice Ao124 t1142.length co124)) (fun _ hk => hk.2) (.slice Ao130 t1145.length co130)) (fun _ h_ => h_.1))) hb); have n4_ := Aside0.mk (Kd.R_below (by (with_reducible repeat (first | apply Kd.R_alloc | apply Kd.R_drewN | apply Kd.R_drew)); exact (Kd.R_mono (Kd.R_far (p := ⟨gb1149, 1, none⟩) (Kd.R_far (p := ⟨gb1149, 0, none⟩) (Kd.R_types HO_1120000.out BK1149.out (by decide)) (fun _ hk => hk.2) (.slice Ao124 t1142.length co124)) (fun _ hk => hk.2) (.slice Ao130 t1145.length co130)) (fun _ h_ => h_.1))) hb); have n5_ := Aside0.mk (Kd.R_below (by (with_reducible repeat (first | apply Kd.R_alloc | apply Kd.R_drewN | apply Kd.R_drew)); exact (Kd.R_mono (Kd.R_far (p := ⟨gb1149, 1, none⟩) (Kd.R_far (p := ⟨gb1149, 0, none⟩) (Kd.R_types HO_1120001.out BK1149.out (by decide)) (fun _ hk => hk.2) (.slice Ao124 t1142.length co124)) (fun _ hk => hk.2) (.slice Ao130 t1145.length co130)) (fun _ h_ => h_.1))) hb); have n6_ := Aside0.mk (Kd.R_below (by (with_reducible repeat (first | apply Kd.R_alloc | apply Kd.R_drewN | apply Kd.R_drew)); exact (Kd.R_mono (Kd.R_far (p := ⟨gb1149, 1, none⟩) (Kd.R_far (p := ⟨gb1149, 0, none⟩) (Kd.R_types HO1138.out BK1149.out (by decide)) (fun _ hk => hk.2) (.slice Ao124 t1142.length co124)) (fun _ hk => hk.2) (.slice Ao130 t1145.length co130)) (fun _ h_ => h_.1))) hb); have n7_ := Aside0.mk (Kd.R_below (by (with_reducible repeat (first | apply Kd.R_alloc | apply Kd.R_drewN | apply Kd.R_drew)); exact (Kd.R_mono (Kd.R_far (p := ⟨gb1149, 1, none⟩) (Kd.R_far (p := ⟨gb1149, 0, none⟩) (Kd.R_types HO1141.out BK1149.out (by decide)) (fun _ hk => hk.2) (.slice Ao124 t1142.length co124)) (fun _ hk => hk.2) (.slice Ao130 t1145.length co130)) (fun _ h_ => h_.1))) hb); have n8_ := Aside0.mk (Kd.R_below (by (with_reducible repeat (first | apply Kd.R_alloc | apply Kd.R_drewN | apply Kd.R_drew)); exact (Kd.R_mono (Kd.R_far (p := ⟨gb1149, 1, none⟩) (Kd.R_far (p := ⟨gb1149, 0, none⟩) (Kd.R_types HO1144.out BK1149.out (by decide)) (fun _ hk => hk.2) (.slice Ao124 t1142.length co124)) (fun _ hk => hk.2) (.slice Ao130 t1145.length co130)) (fun _ h_ => h_.1))) hb); have n9_ := Aside0.mk (Kd.R_below (by (with_reducible repeat (first | apply Kd.R_alloc | apply Kd.R_drewN | apply Kd.R_drew)); exact (Kd.R_mono (Kd.R_far (p := ⟨gb1149, 1, none⟩) (Kd.R_far (p := ⟨gb1149, 0, none⟩) (Kd.R_types HO1147.out BK1149.out (by decide)) (fun _ hk => hk.2) (.slice Ao124 t1142.length co124)) (fun _ hk => hk.2) (.slice Ao130 t1145.length co130)) (fun _ h_ => h_.1))) hb); have n10_ := Aside0.mk (blk_below (g := gb1089) (o := .cells #[.slice A0_0 l0_0.length c0_0, .slice A0_1 l0_1.length c0_1] 24 (0, 0)) (by (with_reducible repeat (first | refine blk_drewN ?_ _ | refine blk_drew ?_ | refine blk_alloc ?_ _)); refine blk_far ?_ NB1089_1149.out _; (with_reducible repeat (first | refine blk_drewN ?_ _ | refine blk_drew ?_ | refine blk_alloc ?_ _)); refine blk_far ?_ NB1089_1149.out _; (with_reducible repeat (first | refine blk_drewN ?_ _ | refine blk_drew ?_ | refine blk_alloc ?_ _)); exact BK1089.out) hb); have n11_ := Aside0.mk (blk_below (g := gb1104) (o := .cells #[.slice Ao21 t1097.length co21, .slice Ao24 t1100.length co24] 27 (0, 0)) (by (with_reducible repeat (first | refine blk_drewN ?_ _ | refine blk_drew ?_ | refine blk_alloc ?_ _)); refine blk_far ?_ NB1104_1149.out _; (with_reducible repeat (first | refine blk_drewN ?_ _ | refine blk_drew ?_ | refine blk_alloc ?_ _)); refine blk_far ?_ NB1104_1149.out _; (with_reducible repeat (first | refine blk_drewN ?_ _ | refine blk_drew ?_ | refine blk_alloc ?_ _)); exact BK1104.out) hb); have n12_ := Aside0.mk (blk_below (g := gb1111) (o := .cells #[.slice Ao28 t1129.length co28, .slice Ao32 t1130.length co32] 27 (0, 0)) (by (with_reducible repeat (first | refine blk_drewN ?_ _ | refine blk_drew ?_ | refine blk_alloc ?_ _)); refine blk_far ?_ NB1111_1149.out _; (with_reducible repeat (first | refine blk_drewN ?_ _ | refine blk_drew ?_ | refine blk_alloc ?_ _)); refine blk_far ?_ NB1111_1149.out _; (with_reducible repeat (first | refine blk_drewN ?_ _ | refine blk_drew ?_ | refine blk_alloc ?_ _)); exact BK1111.out) hb); have n13_ := Aside0.mk (blk_below (g := gb1119) (o := .cells #[.slice Ao35 t1112.length co35, .slice Ao40 t1115.length co40] 27 (0, 0)) (by (with_reducible repeat (first | refine blk_drewN ?_ _ | refine blk_drew ?_ | refine blk_alloc ?_ _)); refine blk_far ?_ NB1119_1149.out _; (with_reducible repeat (first | refine blk_drewN ?_ _ | refine blk_drew ?_ | refine blk_alloc ?_ _)); refine blk_far ?_ NB1119_1149.out _; (with_reducible repeat (first | refine blk_drewN ?_ _ | refine blk_drew ?_ | refine blk_alloc ?_ _)); exact BK1119.out) hb); have n14_ := Aside0.mk (blk_below (g := gb1149) (o := .cells #[.slice Ao124 t1142.length co124, .slice Ao130 t1145.length co130] 27 (0, 0)) (by (with_reducible repeat (first | refine blk_drewN ?_ _ | refine blk_drew ?_ | refine blk_alloc ?_ _)); refine blk_put (cs := #[.slice Ao124 t1142.length co124, .slice none 0 0]) ?_ 1 _ rfl; (with_reducible repeat (first | refine blk_drewN ?_ _ | refine blk_drew ?_ | refine blk_alloc ?_ _)); refine blk_put (cs := #[.slice none 0 0, .slice none 0 0]) ?_ 0 _ rfl; (with_reducible repeat (first | refine blk_drewN ?_ _ | refine blk_drew ?_ | refine blk_alloc ?_ _)); exact BK1149.out) hb); have n15_ := Aside0.mk (below_step (by repeat (first | (with_reducible first | exact HB.out | apply below_alloc | apply pw_below_drewN | apply below_drew1 | refine below_set ?_ GE1089.out | refine below_set ?_ GE1104.out | refine below_set ?_ GE1111.out | refine below_set ?_ GE1119.out | refine below_set ?_ GE1149.out) | exact HB.out)) hb); clear HO_1105000; clear HO_1105001; clear HO_1112000; clear HO_1112001; clear HO_1120000; clear HO_1120001; clear HO1138; clear HO1141; clear HO1144; clear HO1147; clear BK1089; clear BK1104; clear BK1111; clear BK1119; clear BK1149; clear HB; have HO_1105000 := n0_; have HO_1105001 := n1_; have HO_1112000 := n2_; have HO_1112001 := n3_; have HO_1120000 := n4_; have HO_1120001 := n5_; have HO1138 := n6_; have HO1141 := n7_; have HO1144 := n8_; have HO1147 := n9_; have BK1089 := n10_; have BK1104 := n11_; have BK1111 := n12_; have BK1119 := n13_; have BK1149 := n14_; have HB := n15_; clear n0_ n1_ n2_ n3_ n4_ n5_ n6_ n7_ n8_ n9_ n10_ n11_ n12_ n13_ n14_ n15_; (try clear hb); (try clear hb2); (try clear hk); (try clear hi)))
                          go_meet
                          case rel => exact ⟨_, ((t1148 != t1103)), (by first | rfl | (simp; done) | (simp [*]; done)), H', ⟨by have := HJ10.out; have := HJ63.out; first | omega | exact Nat.le_refl _⟩, ⟨by (try simp only [hl1112000_63]); (try simp only [hl1112001_63]); (with_reducible repeat (first | apply Kd.R_alloc | apply Kd.R_drewN | apply Kd.R_drew)); exact Kd.R_mono HO_1105000.out (fun _ hk => ⟨hk.1.1.1.1.1, ⟨hk.1.1.1.1.2.1, ⟨hk.1.1.1.1.2.2.1, ⟨hk.1.1.1.1.2.2.2.1, ⟨hk.1.1.1.1.2.2.2.2, ⟨hk.1.2, hk.2⟩⟩⟩⟩⟩⟩)⟩, ⟨by (try simp only [hl1112000_63]); (try simp only [hl1112001_63]); (with_reducible repeat (first | apply Kd.R_alloc | apply Kd.R_drewN | apply Kd.R_drew)); exact Kd.R_mono HO_1105001.out (fun _ hk => ⟨hk.1.1.1.1.1, ⟨hk.1.1.1.1.2.1, ⟨hk.1.1.1.1.2.2.1, ⟨hk.1.1.1.1.2.2.2.1, ⟨hk.1.1.1.1.2.2.2.2, ⟨hk.1.2, hk.2⟩⟩⟩⟩⟩⟩)⟩, ⟨by (try simp only [hl1112000_63]); (try simp only [hl1112001_63]); (with_reducible repeat (first | apply Kd.R_alloc | apply Kd.R_drewN | apply Kd.R_drew)); exact Kd.R_mono HO_1112000.out (fun _ hk => ⟨hk.1.1.1.1.1, ⟨hk.1.1.1.1.2.1, ⟨hk.1.1.1.1.2.2.1, ⟨hk.1.1.1.1.2.2.2.1, ⟨hk.1.1.1.1.2.2.2.2, ⟨hk.1.2, hk.2⟩⟩⟩⟩⟩⟩)⟩, ⟨by (try simp only [hl1112000_63]); (try simp only [hl1112001_63]); (with_reducible repeat (first | apply Kd.R_alloc | apply Kd.R_drewN | apply Kd.R_drew)); exact Kd.R_mono HO_1112001.out (fun _ hk => ⟨hk.1.1.1.1.1, ⟨hk.1.1.1.1.2.1, ⟨hk.1.1.1.1.2.2.1, ⟨hk.1.1.1.1.2.2.2.1, ⟨hk.1.1.1.1.2.2.2.2, ⟨hk.1.2, hk.2⟩⟩⟩⟩⟩⟩)⟩, ⟨by (try simp only [hl1112000_63]); (try simp only [hl1112001_63]); (with_reducible repeat (first | apply Kd.R_alloc | apply Kd.R_drewN | apply Kd.R_drew)); exact Kd.R_mono HO_1120000.out (fun _ hk => ⟨hk.1.1.1.1.1, ⟨hk.1.1.1.1.2.1, ⟨hk.1.1.1.1.2.2.1, ⟨hk.1.1.1.1.2.2.2.1, ⟨hk.1.1.1.1.2.2.2.2, ⟨hk.1.2, hk.2⟩⟩⟩⟩⟩⟩)⟩, ⟨by (try simp only [hl1112000_63]); (try simp only [hl1112001_63]); (with_reducible repeat (first | apply Kd.R_alloc | apply Kd.R_drewN | apply Kd.R_drew)); exact Kd.R_mono HO_1120001.out (fun _ hk => ⟨hk.1.1.1.1.1, ⟨hk.1.1.1.1.2.1, ⟨hk.1.1.1.1.2.2.1, ⟨hk.1.1.1.1.2.2.2.1, ⟨hk.1.1.1.1.2.2.2.2, ⟨hk.1.2, hk.2⟩⟩⟩⟩⟩⟩)⟩, ⟨by (try simp only [hl1112000_63]); (try simp only [hl1112001_63]); (with_reducible repeat (first | apply Kd.R_alloc | apply Kd.R_drewN | apply Kd.R_drew)); exact Kd.R_mono HO1144.out (fun _ hk => ⟨hk.1.1.1.1.1.1.1.2, ⟨hk.1.1.1.1.1.1.2, ⟨hk.1.1.1.1.1.2, ⟨hk.1.1.1.1.2, ⟨hk.1.1.1.2, ⟨hk.1.1.2, hk.1.1.1.1.1.1.1.1⟩⟩⟩⟩⟩⟩)⟩, ⟨by (try simp only [hl1112000_63]); (try simp only [hl1112001_63]); (with_reducible repeat (first | apply Kd.R_alloc | apply Kd.R_drewN | apply Kd.R_drew)); exact Kd.R_mono HO1147.out (fun _ hk => ⟨hk.1.1.1.1.1.1.1.2, ⟨hk.1.1.1.1.1.1.2, ⟨hk.1.1.1.1.1.2, ⟨hk.1.1.1.1.2, ⟨hk.1.1.1.2, ⟨hk.1.1.2, hk.1.1.1.1.1.1.1.1⟩⟩⟩⟩⟩⟩)⟩, ⟨by (try simp only [hl1112000_63]); (try simp only [hl1112001_63]); (with_reducible repeat (first | refine blk_drewN ?_ _ | refine blk_drew ?_ | refine blk_alloc ?_ _)); exact BK1089.out⟩, ⟨by (try simp only [hl1112000_63]); (try simp only [hl1112001_63]); (with_reducible repeat (first | refine blk_drewN ?_ _ | refine blk_drew ?_ | refine blk_alloc ?_ _)); exact BK1104.out⟩, ⟨by (try simp only [hl1112000_63]); (try simp only [hl1112001_63]); (with_reducible repeat (first | refine blk_drewN ?_ _ | refine blk_drew ?_ | refine blk_alloc ?_ _)); exact BK1111.out⟩, ⟨by (try simp only [hl1112000_63]); (try simp only [hl1112001_63]); (with_reducible repeat (first | refine blk_drewN ?_ _ | refine blk_drew ?_ | refine blk_alloc ?_ _)); exact BK1119.out⟩, ⟨by (try simp only [hl1112000_63]); (try simp only [hl1112001_63]); (with_reducible repeat (first | refine blk_drewN ?_ _ | refine blk_drew ?_ | refine blk_alloc ?_ _)); exact BK1149.out⟩, ⟨by repeat (first | (with_reducible first | exact HB.out | apply below_alloc | apply pw_below_drewN | apply below_drew1 | refine below_set ?_ GE1089.out | refine below_set ?_ GE1104.out | refine below_set ?_ GE1111.out | refine below_set ?_ GE1119.out | refine below_set ?_ GE1149.out) | exact HB.out)⟩⟩
                        · replace c132 := Bool.eq_false_iff.mpr c132
                          subst c132
                          have H1 : (laws_FnExactShearSurface.j2 kj63 t1132 true t1133 t1134) = some true := by rw [if_neg (show ¬ (false = true) by decide)] at H; exact H
                          clear H
                          have H := H1
                          clear H1
                          exact absurd H (by cases kj63 <;> simp [laws_FnExactShearSurface.j2])
                      case rest =>
                        clear HC108
                        try clear c1
                        try clear c2
                        try clear p2
                        try clear c3
                        try clear c3b0
                        try clear c4
                        try clear c5
                        try clear c6
                        try clear c7
                        try clear c8
                        try clear c9
                        try clear c10
                        try clear c11
                        try clear c12
                        try clear c13
                        try clear c14
                        try clear c15
                        try clear c17
                        try clear c19
                        try clear c22
                        try clear c29
                        try clear c30
                        try clear c36
                        try clear c37
                        try clear c38
                        try clear c42
                        try clear c43
                        try clear c44
                        try clear c45
                        try clear c46
                        try clear c47
                        try clear c48
                        try clear c51
                        try clear c52
                        try clear c53
                        try clear c55
                        try clear c56
                        try clear c59
                        try clear c62
                        try clear c70
                        try clear c71
                        try clear c72
                        try clear c75
                        try clear c75b0
                        try clear c77
                        try clear c78
                        try clear c79
                        try clear c80
                        try clear c82
                        try clear c83
                        try clear c86
                        try clear c87
                        try clear c88
                        try clear c90
                        try clear c91
                        try clear c94
                        try clear c97
                        try clear c97b0
                        try clear c98
                        try clear c99
                        try clear c100
                        try clear c105
                        try clear c105b0
                        try clear c105b1
                        try clear c109
                        try clear c110
                        try clear c111
                        try clear c116
                        try clear c117
                        try clear c125
                        try clear c126
                        try clear c127
                        try clear c128
                        try clear c132
                        try clear c133
                        try clear c134
                        try clear c135
                        try clear c136
                        try clear c138
                        try clear c139
                        try clear c140
                        try clear c143
                        try clear c144
                        try clear c145
                        try clear c146
                        try clear c148
                        try clear c149
                        try clear c150
                        try clear hcz101_0
                        try clear hcz101_1
                        try clear hcz103_0
                        try clear hcz103_1
                        try clear hcz112_0
                        try clear hcz112_1
                        try clear hcz114_0
                        try clear hcz114_1
                        try clear hcz118_0
                        try clear hcz118_1
                        try clear hcz129_0
                        try clear hcz129_1
                        try clear hcz137_0
                        try clear hcz137_1
                        try clear hcz13_0
                        try clear hcz13_1
                        try clear hcz141_0
                        try clear hcz141_1
                        try clear hcz147_0
                        try clear hcz147_1
                        try clear hcz151_0
                        try clear hcz151_1
                        try clear hcz15_0
                        try clear hcz15_1
                        try clear hcz23_0
                        try clear hcz23_1
                        try clear hcz25_0
                        try clear hcz25_1
                        try clear hcz31_0
                        try clear hcz31_1
                        try clear hcz39_0
                        try clear hcz39_1
                        try clear hcz46_0
                        try clear hcz46_1
                        try clear hcz49_0
                        try clear hcz49_1
                        try clear hcz54_0
                        try clear hcz54_1
                        try clear hcz57_0
                        try clear hcz57_1
                        try clear hcz5_0
                        try clear hcz5_1
                        try clear hcz73_0
                        try clear hcz73_1
                        try clear hcz81_0
                        try clear hcz81_1
                        try clear hcz84_0
                        try clear hcz84_1
                        try clear hcz89_0
                        try clear hcz89_1
                        try clear hcz92_0
                        try clear hcz92_1
                        try clear hfz101_0
                        try clear hfz101_1
                        try clear hfz103_0
                        try clear hfz103_1
                        try clear hfz112_0
                        try clear hfz112_1
                        try clear hfz114_0
                        try clear hfz114_1
                        try clear hfz118_0
                        try clear hfz118_1
                        try clear hfz129_0
                        try clear hfz129_1
                        try clear hfz137_0
                        try clear hfz137_1
                        try clear hfz13_0
                        try clear hfz13_1
                        try clear hfz141_0
                        try clear hfz141_1
                        try clear hfz147_0
                        try clear hfz147_1
                        try clear hfz151_0
                        try clear hfz151_1
                        try clear hfz15_0
                        try clear hfz15_1
                        try clear hfz23_0
                        try clear hfz23_1
                        try clear hfz25_0
                        try clear hfz25_1
                        try clear hfz31_0
                        try clear hfz31_1
                        try clear hfz39_0
                        try clear hfz39_1
                        try clear hfz46_0
                        try clear hfz46_1
                        try clear hfz49_0
                        try clear hfz49_1
                        try clear hfz54_0
                        try clear hfz54_1
                        try clear hfz57_0
                        try clear hfz57_1
                        try clear hfz5_0
                        try clear hfz5_1
                        try clear hfz73_0
                        try clear hfz73_1
                        try clear hfz81_0
                        try clear hfz81_1
                        try clear hfz84_0
                        try clear hfz84_1
                        try clear hfz89_0
                        try clear hfz89_1
                        try clear hfz92_0
                        try clear hfz92_1
                        try clear p2
                        obtain ⟨kq, x87_107, rfl, HA, HJ107, HO_1105000, HO_1105001, HO_1112000, HO_1112001, HO_1120000, HO_1120001, HO_1150000, HO_1150001, BK1089, BK1104, BK1111, BK1119, BK1149, HB⟩ := hcut
                        have hl1120000_107 := (Kd.R_reads' HO_1120000.out).1
                        rw [hl1120000_107] at HO_1120000
                        (try simp only [hl1120000_107])
                        (try simp only [hl1120000_107] at BK1089)
                        (try simp only [hl1120000_107] at BK1104)
                        (try simp only [hl1120000_107] at BK1111)
                        (try simp only [hl1120000_107] at BK1119)
                        (try simp only [hl1120000_107] at BK1149)
                        (try simp only [hl1120000_107] at HO_1105000)
                        (try simp only [hl1120000_107] at HO_1105001)
                        (try simp only [hl1120000_107] at HO_1112000)
                        (try simp only [hl1120000_107] at HO_1112001)
                        (try simp only [hl1120000_107] at HO_1120001)
                        (try simp only [hl1120000_107] at HO_1150000)
                        (try simp only [hl1120000_107] at HO_1150001)
                        have hl1120001_107 := (Kd.R_reads' HO_1120001.out).1
                        rw [hl1120001_107] at HO_1120001
                        (try simp only [hl1120001_107])
                        (try simp only [hl1120001_107] at BK1089)
                        (try simp only [hl1120001_107] at BK1104)
                        (try simp only [hl1120001_107] at BK1111)
                        (try simp only [hl1120001_107] at BK1119)
                        (try simp only [hl1120001_107] at BK1149)
                        (try simp only [hl1120001_107] at HO_1105000)
                        (try simp only [hl1120001_107] at HO_1105001)
                        (try simp only [hl1120001_107] at HO_1112000)
                        (try simp only [hl1120001_107] at HO_1112001)
                        (try simp only [hl1120001_107] at HO_1120000)
                        (try simp only [hl1120001_107] at HO_1150000)
                        (try simp only [hl1120001_107] at HO_1150001)
                        cases kq with
                        | zero => exact absurd HA.out (by simp [laws_FnExactShearSurface.j2])
                        | succ kj107 =>
                          have H := HA.out
                          clear HA
                          simp only [laws_FnExactShearSurface.j2] at H
                          by_cases c153 : x87_107 = true
                          · subst c153
                            have H1 : (some false) = some true := by rw [if_pos rfl] at H; exact H
                            clear H
                            have H := H1
                            clear H1
                            exact absurd H (by simp)
                          · replace c153 := Bool.eq_false_iff.mpr c153
                            subst c153
                            have H1 : ((laws_heldSurface.f kj107 t1133 t1134 1).bind fun t1151 => (if t1151 < 0 then (some false) else (if t1151 = t1132 then (some true) else (some false)))) = some true := by rw [if_neg (show ¬ (false = true) by decide)] at H; exact H
                            clear H
                            have H := H1
                            clear H1
                            replace H := Option.bind_eq_some_iff.mp H
                            obtain ⟨t1151, A1540, H⟩ := H
                            replace H : (if t1151 < 0 then (some false) else (if t1151 = t1132 then (some true) else (some false))) = some true := H
                            have A154 := Aside0.mk A1540
                            clear A1540
                            by_cases c155 : t1151 < 0
                            · rw [if_pos c155] at H
                              have c155b0 : decide (t1151 < 0) = true := decide_eq_true c155
                              clear c155
                              exact absurd H (by simp)
                            · rw [if_neg c155] at H
                              have c155b0 : decide (t1151 < 0) = false := decide_eq_false c155
                              clear c155
                              by_cases c162 : t1151 = t1132
                              · rw [if_pos c162] at H
                                have c162b0 : (t1151 == t1132) = true := beq_iff_eq.mpr c162
                                have c162b1 : (t1151 != t1132) = false := bne_eq_false_iff_eq.mpr c162
                                clear c162
                                have hnb163 := NB1119_1089.out
                                have hnc163 := NB1089_1119.out
                                have hnb164 := NB1119_1104.out
                                have hnc164 := NB1104_1119.out
                                have hnb165 := NB1119_1111.out
                                have hnc165 := NB1111_1119.out
                                have hnb166 := NB1119_1149.out
                                have hnc166 := NB1149_1119.out
                                have hcz167_0 : wc.cell? ⟨gb1119, 0, none⟩ = some (.slice Ao35 t1133.length co35) := (blk_cell BK1119.out 0).trans rfl
                                have hcz167_1 : wc.cell? ⟨gb1119, 1, none⟩ = some (.slice Ao40 t1134.length co40) := (blk_cell BK1119.out 1).trans rfl
                                have hfz167_0 := blk_frozen BK1119.out 0
                                have hfz167_1 := blk_frozen BK1119.out 1
                                go_wp2_with (first | ((with_reducible refine gate_callee (f := 46) rfl ?_); refine goesL_ (some 90) rfl rfl Try.func46 (by kernel_rfl) rfl #[.agg #[.slice Ao35 t1133.length co35, .slice Ao40 t1134.length co40], .int .i64 1] rfl (by (try simp only [List.map_toArray, List.map_cons, List.map_nil]); first | done | rfl | (simp only [List.length_drop, List.length_take]; rfl)) ?_; (with_reducible refine (laws_heldSurface.calls kj107 _ _ t1133 _ _ t1134 1 t1151 _ ?side1 ?side2 ?side3 ?side4 A154.out).mono ?_); (case side1 => repeat (first | exact (Kd.R_reads' HO_1120000.out).2.2 | (with_reducible refine Kd.C_alloc ?_ _) | (with_reducible refine Kd.C_drewN ?_ _) | (with_reducible refine Kd.C_drew ?_))); (case side2 => exact (Kd.R_reads' HO_1120000.out).2.1); (case side3 => repeat (first | exact (Kd.R_reads' HO_1120001.out).2.2 | (with_reducible refine Kd.C_alloc ?_ _) | (with_reducible refine Kd.C_drewN ?_ _) | (with_reducible refine Kd.C_drew ?_))); (case side4 => exact (Kd.R_reads' HO_1120001.out).2.1); rintro e w168 ⟨rfl, hb⟩; refine ⟨_, rfl, ?_⟩; have n0_ := Aside0.mk (Kd.R_below (by (with_reducible repeat (first | apply Kd.R_alloc | apply Kd.R_drewN | apply Kd.R_drew)); exact HO_1105000.out) hb); have n1_ := Aside0.mk (Kd.R_below (by (with_reducible repeat (first | apply Kd.R_alloc | apply Kd.R_drewN | apply Kd.R_drew)); exact HO_1105001.out) hb); have n2_ := Aside0.mk (Kd.R_below (by (with_reducible repeat (first | apply Kd.R_alloc | apply Kd.R_drewN | apply Kd.R_drew)); exact HO_1112000.out) hb); have n3_ := Aside0.mk (Kd.R_below (by (with_reducible repeat (first | apply Kd.R_alloc | apply Kd.R_drewN | apply Kd.R_drew)); exact HO_1112001.out) hb); have n4_ := Aside0.mk (Kd.R_below (by (with_reducible repeat (first | apply Kd.R_alloc | apply Kd.R_drewN | apply Kd.R_drew)); exact HO_1120000.out) hb); have n5_ := Aside0.mk (Kd.R_below (by (with_reducible repeat (first | apply Kd.R_alloc | apply Kd.R_drewN | apply Kd.R_drew)); exact HO_1120001.out) hb); have n6_ := Aside0.mk (Kd.R_below (by (with_reducible repeat (first | apply Kd.R_alloc | apply Kd.R_drewN | apply Kd.R_drew)); exact HO_1150000.out) hb); have n7_ := Aside0.mk (Kd.R_below (by (with_reducible repeat (first | apply Kd.R_alloc | apply Kd.R_drewN | apply Kd.R_drew)); exact HO_1150001.out) hb); have n8_ := Aside0.mk (blk_below (g := gb1089) (o := .cells #[.slice A0_0 l0_0.length c0_0, .slice A0_1 l0_1.length c0_1] 24 (0, 0)) (by (with_reducible repeat (first | refine blk_drewN ?_ _ | refine blk_drew ?_ | refine blk_alloc ?_ _)); exact BK1089.out) hb); have n9_ := Aside0.mk (blk_below (g := gb1104) (o := .cells #[.slice Ao21 t1097.length co21, .slice Ao24 t1100.length co24] 27 (0, 0)) (by (with_reducible repeat (first | refine blk_drewN ?_ _ | refine blk_drew ?_ | refine blk_alloc ?_ _)); exact BK1104.out) hb); have n10_ := Aside0.mk (blk_below (g := gb1111) (o := .cells #[.slice Ao28 t1129.length co28, .slice Ao32 t1130.length co32] 27 (0, 0)) (by (with_reducible repeat (first | refine blk_drewN ?_ _ | refine blk_drew ?_ | refine blk_alloc ?_ _)); exact BK1111.out) hb); have n11_ := Aside0.mk (blk_below (g := gb1119) (o := .cells #[.slice Ao35 t1133.length co35, .slice Ao40 t1134.length co40] 27 (0, 0)) (by (with_reducible repeat (first | refine blk_drewN ?_ _ | refine blk_drew ?_ | refine blk_alloc ?_ _)); exact BK1119.out) hb); have n12_ := Aside0.mk (blk_below (g := gb1149) (o := .cells #[.slice Ao124 t1142.length co124, .slice Ao130 t1145.length co130] 27 (0, 0)) (by (with_reducible repeat (first | refine blk_drewN ?_ _ | refine blk_drew ?_ | refine blk_alloc ?_ _)); exact BK1149.out) hb); have n13_ := Aside0.mk (below_step (by repeat (first | (with_reducible first | exact HB.out | apply below_alloc | apply pw_below_drewN | apply below_drew1 | refine below_set ?_ GE1089.out | refine below_set ?_ GE1104.out | refine below_set ?_ GE1111.out | refine below_set ?_ GE1119.out | refine below_set ?_ GE1149.out) | exact HB.out)) hb); clear HO_1105000; clear HO_1105001; clear HO_1112000; clear HO_1112001; clear HO_1120000; clear HO_1120001; clear HO_1150000; clear HO_1150001; clear BK1089; clear BK1104; clear BK1111; clear BK1119; clear BK1149; clear HB; have HO_1105000 := n0_; have HO_1105001 := n1_; have HO_1112000 := n2_; have HO_1112001 := n3_; have HO_1120000 := n4_; have HO_1120001 := n5_; have HO_1150000 := n6_; have HO_1150001 := n7_; have BK1089 := n8_; have BK1104 := n9_; have BK1111 := n10_; have BK1119 := n11_; have BK1149 := n12_; have HB := n13_; clear n0_ n1_ n2_ n3_ n4_ n5_ n6_ n7_ n8_ n9_ n10_ n11_ n12_ n13_; (try clear hb); (try clear hb2); (try clear hk); (try clear hi)))
                                go_ret
                                exact ⟨by first | rfl | (simp [errW_none, errW_some] <;> rfl) | (simp [*, errW_none, errW_some] <;> rfl), by repeat (first | (with_reducible first | exact HB.out | apply below_alloc | apply pw_below_drewN | apply below_drew1 | refine below_set ?_ GE1089.out | refine below_set ?_ GE1104.out | refine below_set ?_ GE1111.out | refine below_set ?_ GE1119.out | refine below_set ?_ GE1149.out) | exact HB.out)⟩
                              · rw [if_neg c162] at H
                                have c162b0 : (t1151 == t1132) = false := beq_eq_false_iff_ne.mpr c162
                                have c162b1 : (t1151 != t1132) = true := bne_iff_ne.mpr c162
                                exact absurd H (by simp)
                    · rw [if_neg c105] at H
                      have c105b0 : (t1135 == t1132) = false := beq_eq_false_iff_ne.mpr c105
                      have c105b1 : (t1135 != t1132) = true := bne_iff_ne.mpr c105
                      exact absurd H (by simp)
          · replace c62 := Bool.eq_false_iff.mpr c62
            subst c62
            have H1 : (some false) = some true := by rw [if_neg (show ¬ (false = true) by decide)] at H; exact H
            clear H
            have H := H1
            clear H1
            exact absurd H (by simp)

/-- The pure statement of laws_FnExactShearSurface. -/
def laws_FnExactShearSurface.Pure : Prop := ∀ (l0_0 : List Int) (l0_1 : List Int), l0_0.length ≤ maxLen → (∀ x ∈ l0_0, (Lit.int .i64 x).wf = true) → l0_1.length ≤ maxLen → (∀ x ∈ l0_1, (Lit.int .i64 x).wf = true) → ∃ k, laws_FnExactShearSurface.f k l0_0 l0_1 = some true
theorem laws_FnExactShearSurface.walk (P : laws_FnExactShearSurface.Pure) (a0_0 : Option Addr) (len0_0 cap0_0 : Nat) (z0_0 : List Int) (a0_1 : Option Addr) (len0_1 cap0_1 : Nat) (z0_1 : List Int) (w : World) (w0_0 : ((a0_0 = none ∧ len0_0 = 0 ∧ cap0_0 = 0 ∧ z0_0 = []) ∨ ∃ x, a0_0 = some x ∧ len0_0 ≤ cap0_0 ∧ cap0_0 ≤ maxLen ∧ z0_0.length = cap0_0 ∧ (∀ i, i < z0_0.length → w.cell? (x.add i) = some (.int .i64 (z0_0.getD i 0))) ∧ ∀ n ∈ z0_0, (Lit.int .i64 n).wf = true)) (w0_1 : ((a0_1 = none ∧ len0_1 = 0 ∧ cap0_1 = 0 ∧ z0_1 = []) ∨ ∃ x, a0_1 = some x ∧ len0_1 ≤ cap0_1 ∧ cap0_1 ≤ maxLen ∧ z0_1.length = cap0_1 ∧ (∀ i, i < z0_1.length → w.cell? (x.add i) = some (.int .i64 (z0_1.getD i 0))) ∧ ∀ n ∈ z0_1, (Lit.int .i64 n).wf = true)) :
    Calls Try.prog 14 #[.agg #[.slice a0_0 len0_0 cap0_0, .slice a0_1 len0_1 cap0_1]] w fun e w' => e = .returned (.bool true) ∧ Below w.heap.size w w' := by
  obtain ⟨l0_0, rfl, hr0_0, hm0_0, hw0_0, hc0_0⟩ := ReadsInt.ofRowC w0_0
  obtain ⟨l0_1, rfl, hr0_1, hm0_1, hw0_1, hc0_1⟩ := ReadsInt.ofRowC w0_1
  obtain ⟨k, h⟩ := P l0_0 l0_1 hm0_0 hw0_0 hm0_1 hw0_1
  refine (laws_FnExactShearSurface.calls_true k _ _ l0_0 _ _ l0_1 w (Kd.C_of_reads (d := (0 : Int)) (h1 := fun _ => rfl) hr0_0) hc0_0 (Kd.C_of_reads (d := (0 : Int)) (h1 := fun _ => rfl) hr0_1) hc0_1 h).mono ?_
  rintro e w' ⟨rfl, hd⟩
  exact ⟨rfl, hd⟩

end Go.Proofs.Ytlohmpgbjgidpac.P
