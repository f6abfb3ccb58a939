-- MADE by this project's printer (wip/mk) out of the translation; Lean checks it.
import Derived.Test.YtlohmpgbjgidpadPx0
import Derived.Test.YtlohmpgbjgidpadPx2
import Derived.Test.YtlohmpgbjgidpadPx16
import Derived.Test.YtlohmpgbjgidpadPx27
import Derived.Test.YtlohmpgbjgidpadPx28
import Derived.Test.YtlohmpgbjgidpadPx31
import Derived.Test.YtlohmpgbjgidpadPx32
import Derived.Test.YtlohmpgbjgidpadPx34
import Derived.Test.YtlohmpgbjgidpadPx93
import Derived.Test.YtlohmpgbjgidpadPx113
namespace Go.Proofs.Ytlohmpgbjgidpad.P
open Go.RowKit Go.Proofs.YtlohmpgbjgidpadW.PrintWords Go.Proofs.YtlohmpgbjgidpadW.PrintLast Go.Proofs.YtlohmpgbjgidpadW.PrintMore
attribute [local go_sem] max2_int min2_int max_two min_two max_three min_three max_four min_four   -- for this text's walks alone
set_option linter.unusedVariables false
set_option linter.unusedSimpArgs false

/-! ### laws_FnExactAnglesOf: function 10 -/
def laws_FnExactAnglesOf.j0 : Nat → List Int → List Int → Bool → List Int → List Int → Option (Bool)
 | 0, _, _, _, _, _ => none
 | k + 1, x4, x6, x42, x1133000, x1133001 => if x42 = true then (some false) else ((laws_markIntS.f k x6 1).bind fun bt1165 => ((laws_heldIntS.f k bt1165.2 1).bind fun t1167 => (if t1167 < 0 then (some false) else (if t1167 = bt1165.1 then ((laws_toSurface.f k x1133000 x1133001).bind fun bt1168 => ((impl_AnglesOf.f k bt1168.1 bt1168.2).bind fun t1174 => ((laws_eqIntS.f k t1174 x4).bind fun t1177 => (if t1177 = true then ((laws_heldIntS.f k bt1165.2 1).bind fun t1178 => (if t1178 < 0 then (some false) else (if t1178 = bt1165.1 then (some true) else (some false)))) else (some false))))) else (some false)))))
def laws_FnExactAnglesOf.f (k : Nat) (l0_0 : List Int) (l0_1 : List Int) : Option (Bool) := (laws_szSurface.f l0_0 l0_1 1048576).bind fun t1133 => (if t1133 < 0 then (some true) else ((laws_toSurface.f k l0_0 l0_1).bind fun bt1134 => ((spec_AnglesOf.f k bt1134.1 bt1134.2).bind fun t1140 => ((laws_toSurface.f k l0_0 l0_1).bind fun bt1143 => ((impl_AnglesOf.f k bt1143.1 bt1143.2).bind fun t1150 => ((laws_eqIntS.f k t1150 t1140).bind fun t1153 => (if t1153 = true then ((laws_toSurface.f k l0_0 l0_1).bind fun bt1154 => ((laws_eqSurface.f k bt1143.1 bt1143.2 bt1154.1 bt1154.2).bind fun t1160 => (if t1160 = true then ((laws_markSurface.f k bt1143.1 bt1143.2 1).bind fun bt1161 => (if bt1161.1 < 0 then (laws_FnExactAnglesOf.j0 k t1140 t1150 true l0_0 l0_1) else ((laws_eqIntS.f k t1150 t1140).bind fun t1164 => (laws_FnExactAnglesOf.j0 k t1140 t1150 (!t1164) l0_0 l0_1)))) else (some false)))) else (some false))))))))
theorem laws_FnExactAnglesOf.mono_l : ∀ k, (∀ y0 y1 y2 y3 y4, LeO (laws_FnExactAnglesOf.j0 k y0 y1 y2 y3 y4) (laws_FnExactAnglesOf.j0 (k + 1) y0 y1 y2 y3 y4))
 | 0 => fun _ _ _ _ _ r h => by simp [laws_FnExactAnglesOf.j0] at h
 | k + 1 => by
  have ih0 := laws_FnExactAnglesOf.mono_l k
  ·intro y0 y1 y2 y3 y4
   unfold laws_FnExactAnglesOf.j0
   repeat' first
   | (with_reducible exact ih0 _ _ _ _ _)
   | (with_reducible exact impl_AnglesOf.mono _ _ _)
   | (with_reducible exact laws_eqIntS.mono _ _ _)
   | (with_reducible exact laws_eqSurface.mono _ _ _ _ _)
   | (with_reducible exact laws_heldIntS.mono _ _ _)
   | (with_reducible exact laws_markIntS.mono _ _ _)
   | (with_reducible exact laws_markSurface.mono _ _ _ _)
   | (with_reducible exact laws_toSurface.mono _ _ _)
   | (with_reducible exact spec_AnglesOf.mono _ _ _)
   | (with_reducible exact LeO.refl _)
   | (with_reducible exact LeO.none _)
   | (with_reducible refine LeO.ite ?_ ?_)
   | (with_reducible refine LeO.bind ?_ (fun _ => ?_))
   | exact ih0 _ _ _ _ _
   | exact impl_AnglesOf.mono _ _ _
   | exact laws_eqIntS.mono _ _ _
   | exact laws_eqSurface.mono _ _ _ _ _
   | exact laws_heldIntS.mono _ _ _
   | exact laws_markIntS.mono _ _ _
   | exact laws_markSurface.mono _ _ _ _
   | exact laws_toSurface.mono _ _ _
   | exact spec_AnglesOf.mono _ _ _
   | exact LeO.none _
   | refine LeO.ite ?_ ?_
   | refine LeO.bind ?_ (fun _ => ?_)
theorem laws_FnExactAnglesOf.mono : ∀ a0 a1 k, LeO (laws_FnExactAnglesOf.f k a0 a1) (laws_FnExactAnglesOf.f (k + 1) a0 a1) := by
 intro a0 a1 k
 have ih0 := laws_FnExactAnglesOf.mono_l k
 unfold laws_FnExactAnglesOf.f
 repeat' first
   | (with_reducible exact ih0 _ _ _ _ _)
   | (with_reducible exact impl_AnglesOf.mono _ _ _)
   | (with_reducible exact laws_eqIntS.mono _ _ _)
   | (with_reducible exact laws_eqSurface.mono _ _ _ _ _)
   | (with_reducible exact laws_heldIntS.mono _ _ _)
   | (with_reducible exact laws_markIntS.mono _ _ _)
   | (with_reducible exact laws_markSurface.mono _ _ _ _)
   | (with_reducible exact laws_toSurface.mono _ _ _)
   | (with_reducible exact spec_AnglesOf.mono _ _ _)
   | (with_reducible exact LeO.refl _)
   | (with_reducible exact LeO.none _)
   | (with_reducible refine LeO.ite ?_ ?_)
   | (with_reducible refine LeO.bind ?_ (fun _ => ?_))
   | exact ih0 _ _ _ _ _
   | exact impl_AnglesOf.mono _ _ _
   | exact laws_eqIntS.mono _ _ _
   | exact laws_eqSurface.mono _ _ _ _ _
   | exact laws_heldIntS.mono _ _ _
   | exact laws_markIntS.mono _ _ _
   | exact laws_markSurface.mono _ _ _ _
   | exact laws_toSurface.mono _ _ _
   | exact spec_AnglesOf.mono _ _ _
   | exact LeO.none _
   | refine LeO.ite ?_ ?_
   | refine LeO.bind ?_ (fun _ => ?_)
set_option maxHeartbeats 8000000 in
set_option maxRecDepth 100000 in
theorem laws_FnExactAnglesOf.calls_true (k : Nat) (A0_0 : Option Addr) (c0_0 : Nat) (l0_0 : List Int) (A0_1 : Option Addr) (c0_1 : Nat) (l0_1 : List Int) (w : World) (hr0_0 : Kd.C (Kd.int .i64) w A0_0 l0_0.length l0_0) (hc0_0 : l0_0.length ≤ c0_0) (hr0_1 : Kd.C (Kd.int .i64) w A0_1 l0_1.length l0_1) (hc0_1 : l0_1.length ≤ c0_1) (h : laws_FnExactAnglesOf.f k l0_0 l0_1 = some true) :
  Calls Try.prog 10 #[.agg #[.slice A0_0 l0_0.length c0_0, .slice A0_1 l0_1.length c0_1]] w fun e w' => e = .returned (.bool true) ∧ Below w.heap.size w w' := by
 have hu24 := Try.underlying24
 have hu27 := Try.underlying27
 have HR0_0 := Aside0.mk hr0_0
 have HC0_0 := Aside0.mk hc0_0
 clear hr0_0 hc0_0
 have HR0_1 := Aside0.mk hr0_1
 have HC0_1 := Aside0.mk hc0_1
 clear hr0_1 hc0_1
 have HB := Aside0.mk (Below.refl w.heap.size w)
 have H : ((laws_szSurface.f l0_0 l0_1 1048576).bind fun t1133 => (if t1133 < 0 then (some true) else ((laws_toSurface.f k l0_0 l0_1).bind fun bt1134 => ((spec_AnglesOf.f k bt1134.1 bt1134.2).bind fun t1140 => ((laws_toSurface.f k l0_0 l0_1).bind fun bt1143 => ((impl_AnglesOf.f k bt1143.1 bt1143.2).bind fun t1150 => ((laws_eqIntS.f k t1150 t1140).bind fun t1153 => (if t1153 = true then ((laws_toSurface.f k l0_0 l0_1).bind fun bt1154 => ((laws_eqSurface.f k bt1143.1 bt1143.2 bt1154.1 bt1154.2).bind fun t1160 => (if t1160 = true then ((laws_markSurface.f k bt1143.1 bt1143.2 1).bind fun bt1161 => (if bt1161.1 < 0 then (laws_FnExactAnglesOf.j0 k t1140 t1150 true l0_0 l0_1) else ((laws_eqIntS.f k t1150 t1140).bind fun t1164 => (laws_FnExactAnglesOf.j0 k t1140 t1150 (!t1164) l0_0 l0_1)))) else (some false)))) else (some false))))))))) = some true := h
 clear h
 replace H := Option.bind_eq_some_iff.mp H
 obtain ⟨t1133, A20, H⟩ := H
 replace H : (if t1133 < 0 then (some true) else ((laws_toSurface.f k l0_0 l0_1).bind fun bt1134 => ((spec_AnglesOf.f k bt1134.1 bt1134.2).bind fun t1140 => ((laws_toSurface.f k l0_0 l0_1).bind fun bt1143 => ((impl_AnglesOf.f k bt1143.1 bt1143.2).bind fun t1150 => ((laws_eqIntS.f k t1150 t1140).bind fun t1153 => (if t1153 = true then ((laws_toSurface.f k l0_0 l0_1).bind fun bt1154 => ((laws_eqSurface.f k bt1143.1 bt1143.2 bt1154.1 bt1154.2).bind fun t1160 => (if t1160 = true then ((laws_markSurface.f k bt1143.1 bt1143.2 1).bind fun bt1161 => (if bt1161.1 < 0 then (laws_FnExactAnglesOf.j0 k t1140 t1150 true l0_0 l0_1) else ((laws_eqIntS.f k t1150 t1140).bind fun t1164 => (laws_FnExactAnglesOf.j0 k t1140 t1150 (!t1164) l0_0 l0_1)))) else (some false)))) else (some false)))))))) = some true := H
 have A2 := Aside0.mk A20
 clear A20
 by_cases c3 : t1133 < 0
 ·rw [if_pos c3] at H
  have c3b0 : decide (t1133 < 0) = true := decide_eq_true c3
  clear c3
  go_enter Try.func10, Try.ntmps10
  go_wp2_with (first | ((with_reducible refine gate_dst (N := 1) rfl ?_); refine box_event ?hg (N := 1) ?hd (cs := #[.slice A0_0 l0_0.length c0_0, .slice A0_1 l0_1.length c0_1]) (t := 24) ?hr ?_; (case hd => rfl); (case hg => rfl); (case hr => first | (go_simp; done) | (go_simp; rfl)); intro gb1132 hg w4 hbox hb; have n0_ := Aside0.mk (below_step (by repeat (first | (with_reducible first | exact HB.out | apply below_alloc | apply pw_below_drewN | apply below_drew1) | exact HB.out)) hb); have n1_ := Aside0.mk (hbox); have n2_ := Aside0.mk ((by rw [hg]; exact (below_size (by repeat (first | (with_reducible first | exact HB.out | apply below_alloc | apply pw_below_drewN | apply below_drew1) | exact HB.out))) : w.heap.size ≤ gb1132)); have n3_ := Aside0.mk ((by rw [hg]; exact (below_size (by repeat (first | (with_reducible first | exact HB.out | apply below_alloc | apply pw_below_drewN | apply below_drew1) | exact HB.out))) : w.heap.size ≤ gb1132)); clear HB; have HB := n0_; have BK1132 := n1_; have GW1132 := n2_; have GE1132 := n3_; clear n0_ n1_ n2_ n3_; clear hb hbox hg; have hcz5_0 : w4.cell? ⟨gb1132, 0, none⟩ = some (.slice A0_0 l0_0.length c0_0) := (blk_cell BK1132.out 0).trans rfl; have hcz5_1 : w4.cell? ⟨gb1132, 1, none⟩ = some (.slice A0_1 l0_1.length c0_1) := (blk_cell BK1132.out 1).trans rfl; have hfz5_0 := blk_frozen BK1132.out 0; have hfz5_1 := blk_frozen BK1132.out 1) | ((with_reducible refine gate_callee (f := 12) rfl ?_); refine goesL_ (some 13) rfl rfl Try.func12 (by kernel_rfl) rfl #[.agg #[.slice A0_0 l0_0.length c0_0, .slice A0_1 l0_1.length c0_1], .int .i64 1048576] rfl (by (try simp only [List.map_toArray, List.map_cons, List.map_nil]); first | done | rfl | (simp only [List.length_drop, List.length_take]; rfl)) ?_; (with_reducible refine (laws_szSurface.calls _ _ l0_0 _ _ l0_1 1048576 t1133 _ ?side1 ?side2 ?side3 ?side4 A2.out).mono ?_); (case side1 => repeat (first | exact (Kd.C_below HR0_0.out HB.out) | (with_reducible refine Kd.C_alloc ?_ _) | (with_reducible refine Kd.C_drewN ?_ _) | (with_reducible refine Kd.C_drew ?_))); (case side2 => exact HC0_0.out); (case side3 => repeat (first | exact (Kd.C_below HR0_1.out HB.out) | (with_reducible refine Kd.C_alloc ?_ _) | (with_reducible refine Kd.C_drewN ?_ _) | (with_reducible refine Kd.C_drew ?_))); (case side4 => exact HC0_1.out); rintro e w6 ⟨rfl, hb⟩; refine ⟨_, rfl, ?_⟩; have n0_ := Aside0.mk (blk_below (g := gb1132) (o := .cells #[.slice A0_0 l0_0.length c0_0, .slice A0_1 l0_1.length c0_1] 24 (0, 0)) (by (with_reducible repeat (first | refine blk_drewN ?_ _ | refine blk_drew ?_ | refine blk_alloc ?_ _)); exact BK1132.out) hb); have n1_ := Aside0.mk (below_step (by repeat (first | (with_reducible first | exact HB.out | apply below_alloc | apply pw_below_drewN | apply below_drew1 | refine below_set ?_ GE1132.out) | exact HB.out)) hb); clear BK1132; clear HB; have BK1132 := n0_; have HB := n1_; clear n0_ n1_; (try clear hb); (try clear hb2); (try clear hk); (try clear hi)))
  go_ret
  exact ⟨by first | rfl | (simp [errW_none, errW_some] <;> rfl) | (simp [*, errW_none, errW_some] <;> rfl), by repeat (first | (with_reducible first | exact HB.out | apply below_alloc | apply pw_below_drewN | apply below_drew1 | refine below_set ?_ GE1132.out) | exact HB.out)⟩
 ·rw [if_neg c3] at H
  have c3b0 : decide (t1133 < 0) = false := decide_eq_false c3
  clear c3
  replace H := Option.bind_eq_some_iff.mp H
  obtain ⟨⟨t1134, t1137⟩, A70, H⟩ := H
  replace H : ((spec_AnglesOf.f k t1134 t1137).bind fun t1140 => ((laws_toSurface.f k l0_0 l0_1).bind fun bt1143 => ((impl_AnglesOf.f k bt1143.1 bt1143.2).bind fun t1150 => ((laws_eqIntS.f k t1150 t1140).bind fun t1153 => (if t1153 = true then ((laws_toSurface.f k l0_0 l0_1).bind fun bt1154 => ((laws_eqSurface.f k bt1143.1 bt1143.2 bt1154.1 bt1154.2).bind fun t1160 => (if t1160 = true then ((laws_markSurface.f k bt1143.1 bt1143.2 1).bind fun bt1161 => (if bt1161.1 < 0 then (laws_FnExactAnglesOf.j0 k t1140 t1150 true l0_0 l0_1) else ((laws_eqIntS.f k t1150 t1140).bind fun t1164 => (laws_FnExactAnglesOf.j0 k t1140 t1150 (!t1164) l0_0 l0_1)))) else (some false)))) else (some false)))))) = some true := H
  have A7 := Aside0.mk A70
  clear A70
  replace H := Option.bind_eq_some_iff.mp H
  obtain ⟨t1140, A80, H⟩ := H
  replace H : ((laws_toSurface.f k l0_0 l0_1).bind fun bt1143 => ((impl_AnglesOf.f k bt1143.1 bt1143.2).bind fun t1150 => ((laws_eqIntS.f k t1150 t1140).bind fun t1153 => (if t1153 = true then ((laws_toSurface.f k l0_0 l0_1).bind fun bt1154 => ((laws_eqSurface.f k bt1143.1 bt1143.2 bt1154.1 bt1154.2).bind fun t1160 => (if t1160 = true then ((laws_markSurface.f k bt1143.1 bt1143.2 1).bind fun bt1161 => (if bt1161.1 < 0 then (laws_FnExactAnglesOf.j0 k t1140 t1150 true l0_0 l0_1) else ((laws_eqIntS.f k t1150 t1140).bind fun t1164 => (laws_FnExactAnglesOf.j0 k t1140 t1150 (!t1164) l0_0 l0_1)))) else (some false)))) else (some false))))) = some true := H
  have A8 := Aside0.mk A80
  clear A80
  replace H := Option.bind_eq_some_iff.mp H
  obtain ⟨⟨t1143, t1146⟩, A90, H⟩ := H
  replace H : ((impl_AnglesOf.f k t1143 t1146).bind fun t1150 => ((laws_eqIntS.f k t1150 t1140).bind fun t1153 => (if t1153 = true then ((laws_toSurface.f k l0_0 l0_1).bind fun bt1154 => ((laws_eqSurface.f k t1143 t1146 bt1154.1 bt1154.2).bind fun t1160 => (if t1160 = true then ((laws_markSurface.f k t1143 t1146 1).bind fun bt1161 => (if bt1161.1 < 0 then (laws_FnExactAnglesOf.j0 k t1140 t1150 true l0_0 l0_1) else ((laws_eqIntS.f k t1150 t1140).bind fun t1164 => (laws_FnExactAnglesOf.j0 k t1140 t1150 (!t1164) l0_0 l0_1)))) else (some false)))) else (some false)))) = some true := H
  have A9 := Aside0.mk A90
  clear A90
  replace H := Option.bind_eq_some_iff.mp H
  obtain ⟨t1150, A100, H⟩ := H
  replace H : ((laws_eqIntS.f k t1150 t1140).bind fun t1153 => (if t1153 = true then ((laws_toSurface.f k l0_0 l0_1).bind fun bt1154 => ((laws_eqSurface.f k t1143 t1146 bt1154.1 bt1154.2).bind fun t1160 => (if t1160 = true then ((laws_markSurface.f k t1143 t1146 1).bind fun bt1161 => (if bt1161.1 < 0 then (laws_FnExactAnglesOf.j0 k t1140 t1150 true l0_0 l0_1) else ((laws_eqIntS.f k t1150 t1140).bind fun t1164 => (laws_FnExactAnglesOf.j0 k t1140 t1150 (!t1164) l0_0 l0_1)))) else (some false)))) else (some false))) = some true := H
  have A10 := Aside0.mk A100
  clear A100
  replace H := Option.bind_eq_some_iff.mp H
  obtain ⟨t1153, A110, H⟩ := H
  replace H : (if t1153 = true then ((laws_toSurface.f k l0_0 l0_1).bind fun bt1154 => ((laws_eqSurface.f k t1143 t1146 bt1154.1 bt1154.2).bind fun t1160 => (if t1160 = true then ((laws_markSurface.f k t1143 t1146 1).bind fun bt1161 => (if bt1161.1 < 0 then (laws_FnExactAnglesOf.j0 k t1140 t1150 true l0_0 l0_1) else ((laws_eqIntS.f k t1150 t1140).bind fun t1164 => (laws_FnExactAnglesOf.j0 k t1140 t1150 (!t1164) l0_0 l0_1)))) else (some false)))) else (some false)) = some true := H
  have A11 := Aside0.mk A110
  clear A110
  by_cases c12 : t1153 = true
  ·subst c12
   have H1 : ((laws_toSurface.f k l0_0 l0_1).bind fun bt1154 => ((laws_eqSurface.f k t1143 t1146 bt1154.1 bt1154.2).bind fun t1160 => (if t1160 = true then ((laws_markSurface.f k t1143 t1146 1).bind fun bt1161 => (if bt1161.1 < 0 then (laws_FnExactAnglesOf.j0 k t1140 t1150 true l0_0 l0_1) else ((laws_eqIntS.f k t1150 t1140).bind fun t1164 => (laws_FnExactAnglesOf.j0 k t1140 t1150 (!t1164) l0_0 l0_1)))) else (some false)))) = some true := by rw [if_pos rfl] at H; exact H
   clear H
   have H := H1
   clear H1
   replace H := Option.bind_eq_some_iff.mp H
   obtain ⟨⟨t1154, t1157⟩, A130, H⟩ := H
   replace H : ((laws_eqSurface.f k t1143 t1146 t1154 t1157).bind fun t1160 => (if t1160 = true then ((laws_markSurface.f k t1143 t1146 1).bind fun bt1161 => (if bt1161.1 < 0 then (laws_FnExactAnglesOf.j0 k t1140 t1150 true l0_0 l0_1) else ((laws_eqIntS.f k t1150 t1140).bind fun t1164 => (laws_FnExactAnglesOf.j0 k t1140 t1150 (!t1164) l0_0 l0_1)))) else (some false))) = some true := H
   have A13 := Aside0.mk A130
   clear A130
   replace H := Option.bind_eq_some_iff.mp H
   obtain ⟨t1160, A140, H⟩ := H
   replace H : (if t1160 = true then ((laws_markSurface.f k t1143 t1146 1).bind fun bt1161 => (if bt1161.1 < 0 then (laws_FnExactAnglesOf.j0 k t1140 t1150 true l0_0 l0_1) else ((laws_eqIntS.f k t1150 t1140).bind fun t1164 => (laws_FnExactAnglesOf.j0 k t1140 t1150 (!t1164) l0_0 l0_1)))) else (some false)) = some true := H
   have A14 := Aside0.mk A140
   clear A140
   by_cases c15 : t1160 = true
   ·subst c15
    have H1 : ((laws_markSurface.f k t1143 t1146 1).bind fun bt1161 => (if bt1161.1 < 0 then (laws_FnExactAnglesOf.j0 k t1140 t1150 true l0_0 l0_1) else ((laws_eqIntS.f k t1150 t1140).bind fun t1164 => (laws_FnExactAnglesOf.j0 k t1140 t1150 (!t1164) l0_0 l0_1)))) = some true := by rw [if_pos rfl] at H; exact H
    clear H
    have H := H1
    clear H1
    replace H := Option.bind_eq_some_iff.mp H
    obtain ⟨⟨t1161, t1162, t1163⟩, A160, H⟩ := H
    replace H : (if t1161 < 0 then (laws_FnExactAnglesOf.j0 k t1140 t1150 true l0_0 l0_1) else ((laws_eqIntS.f k t1150 t1140).bind fun t1164 => (laws_FnExactAnglesOf.j0 k t1140 t1150 (!t1164) l0_0 l0_1))) = some true := H
    have A16 := Aside0.mk A160
    clear A160
    have HC17 := Aside0.mk H
    clear H
    go_enter Try.func10, Try.ntmps10
    try go_wp2_with (first | ((with_reducible refine gate_dst (N := 1) rfl ?_); refine box_event ?hg (N := 1) ?hd (cs := #[.slice A0_0 l0_0.length c0_0, .slice A0_1 l0_1.length c0_1]) (t := 24) ?hr ?_; (case hd => rfl); (case hg => rfl); (case hr => first | (go_simp; done) | (go_simp; rfl)); intro gb1132 hg w18 hbox hb; have n0_ := Aside0.mk (below_step (by repeat (first | (with_reducible first | exact HB.out | apply below_alloc | apply pw_below_drewN | apply below_drew1) | exact HB.out)) hb); have n1_ := Aside0.mk (hbox); have n2_ := Aside0.mk ((by rw [hg]; exact (below_size (by repeat (first | (with_reducible first | exact HB.out | apply below_alloc | apply pw_below_drewN | apply below_drew1) | exact HB.out))) : w.heap.size ≤ gb1132)); have n3_ := Aside0.mk ((by rw [hg]; exact (below_size (by repeat (first | (with_reducible first | exact HB.out | apply below_alloc | apply pw_below_drewN | apply below_drew1) | exact HB.out))) : w.heap.size ≤ gb1132)); clear HB; have HB := n0_; have BK1132 := n1_; have GW1132 := n2_; have GE1132 := n3_; clear n0_ n1_ n2_ n3_; clear hb hbox hg; have hcz19_0 : w18.cell? ⟨gb1132, 0, none⟩ = some (.slice A0_0 l0_0.length c0_0) := (blk_cell BK1132.out 0).trans rfl; have hcz19_1 : w18.cell? ⟨gb1132, 1, none⟩ = some (.slice A0_1 l0_1.length c0_1) := (blk_cell BK1132.out 1).trans rfl; have hfz19_0 := blk_frozen BK1132.out 0; have hfz19_1 := blk_frozen BK1132.out 1) | ((with_reducible refine gate_callee (f := 12) rfl ?_); refine goesL_ (some 13) rfl rfl Try.func12 (by kernel_rfl) rfl #[.agg #[.slice A0_0 l0_0.length c0_0, .slice A0_1 l0_1.length c0_1], .int .i64 1048576] rfl (by (try simp only [List.map_toArray, List.map_cons, List.map_nil]); first | done | rfl | (simp only [List.length_drop, List.length_take]; rfl)) ?_; (with_reducible refine (laws_szSurface.calls _ _ l0_0 _ _ l0_1 1048576 t1133 _ ?side1 ?side2 ?side3 ?side4 A2.out).mono ?_); (case side1 => repeat (first | exact (Kd.C_below HR0_0.out HB.out) | (with_reducible refine Kd.C_alloc ?_ _) | (with_reducible refine Kd.C_drewN ?_ _) | (with_reducible refine Kd.C_drew ?_))); (case side2 => exact HC0_0.out); (case side3 => repeat (first | exact (Kd.C_below HR0_1.out HB.out) | (with_reducible refine Kd.C_alloc ?_ _) | (with_reducible refine Kd.C_drewN ?_ _) | (with_reducible refine Kd.C_drew ?_))); (case side4 => exact HC0_1.out); rintro e w20 ⟨rfl, hb⟩; refine ⟨_, rfl, ?_⟩; have n0_ := Aside0.mk (blk_below (g := gb1132) (o := .cells #[.slice A0_0 l0_0.length c0_0, .slice A0_1 l0_1.length c0_1] 24 (0, 0)) (by (with_reducible repeat (first | refine blk_drewN ?_ _ | refine blk_drew ?_ | refine blk_alloc ?_ _)); exact BK1132.out) hb); have n1_ := Aside0.mk (below_step (by repeat (first | (with_reducible first | exact HB.out | apply below_alloc | apply pw_below_drewN | apply below_drew1 | refine below_set ?_ GE1132.out) | exact HB.out)) hb); clear BK1132; clear HB; have BK1132 := n0_; have HB := n1_; clear n0_ n1_; (try clear hb); (try clear hb2); (try clear hk); (try clear hi); have hcz21_0 : w20.cell? ⟨gb1132, 0, none⟩ = some (.slice A0_0 l0_0.length c0_0) := (blk_cell BK1132.out 0).trans rfl; have hcz21_1 : w20.cell? ⟨gb1132, 1, none⟩ = some (.slice A0_1 l0_1.length c0_1) := (blk_cell BK1132.out 1).trans rfl; have hfz21_0 := blk_frozen BK1132.out 0; have hfz21_1 := blk_frozen BK1132.out 1) | ((with_reducible refine gate_callee (f := 14) rfl ?_); refine goesL_ (some 17) rfl rfl Try.func14 (by kernel_rfl) rfl #[.agg #[.slice A0_0 l0_0.length c0_0, .slice A0_1 l0_1.length c0_1]] rfl (by (try simp only [List.map_toArray, List.map_cons, List.map_nil]); first | done | rfl | (simp only [List.length_drop, List.length_take]; rfl)) ?_; (with_reducible refine (laws_toSurface.calls k _ _ l0_0 _ _ l0_1 t1134 t1137 _ ?side1 ?side2 ?side3 ?side4 A7.out).mono ?_); (case side1 => repeat (first | exact (Kd.C_below HR0_0.out HB.out) | (with_reducible refine Kd.C_alloc ?_ _) | (with_reducible refine Kd.C_drewN ?_ _) | (with_reducible refine Kd.C_drew ?_))); (case side2 => exact HC0_0.out); (case side3 => repeat (first | exact (Kd.C_below HR0_1.out HB.out) | (with_reducible refine Kd.C_alloc ?_ _) | (with_reducible refine Kd.C_drewN ?_ _) | (with_reducible refine Kd.C_drew ?_))); (case side4 => exact HC0_1.out); rintro e w22 ⟨v1135, v1138, rfl, ho0, ho1, hb⟩; refine ⟨_, rfl, ?_⟩; have n0_ := Aside0.mk (Kd.R_lower ho0 (below_size (by repeat (first | (with_reducible first | exact HB.out | apply below_alloc | apply pw_below_drewN | apply below_drew1 | refine below_set ?_ GE1132.out) | exact HB.out)))); have n1_ := Aside0.mk (Kd.R_lower ho1 (below_size (by repeat (first | (with_reducible first | exact HB.out | apply below_alloc | apply pw_below_drewN | apply below_drew1 | refine below_set ?_ GE1132.out) | exact HB.out)))); have n2_ := Aside0.mk (blk_below (g := gb1132) (o := .cells #[.slice A0_0 l0_0.length c0_0, .slice A0_1 l0_1.length c0_1] 24 (0, 0)) (by (with_reducible repeat (first | refine blk_drewN ?_ _ | refine blk_drew ?_ | refine blk_alloc ?_ _)); exact BK1132.out) hb); have n3_ := Aside0.mk (below_step (by repeat (first | (with_reducible first | exact HB.out | apply below_alloc | apply pw_below_drewN | apply below_drew1 | refine below_set ?_ GE1132.out) | exact HB.out)) hb); clear BK1132; clear HB; have HO1136 := n0_; have HO1139 := n1_; have BK1132 := n2_; have HB := n3_; clear n0_ n1_ n2_ n3_; (try clear hb); (try clear hb2); (try clear hk); (try clear hi); (try clear ho0); (try clear ho1); obtain ⟨Ao23, co23, eo23⟩ := Kd.R_slice HO1136.out; subst eo23; obtain ⟨Ao24, co24, eo24⟩ := Kd.R_slice HO1139.out; subst eo24) | ((with_reducible refine gate_callee (f := 34) rfl ?_); refine goesL_ (some 18) rfl rfl Try.func34 (by kernel_rfl) rfl #[.agg #[.slice Ao23 t1134.length co23, .slice Ao24 t1137.length co24]] rfl (by (try simp only [List.map_toArray, List.map_cons, List.map_nil]); first | done | rfl | (simp only [List.length_drop, List.length_take]; rfl)) ?_; (with_reducible refine (spec_AnglesOf.calls k _ _ t1134 _ _ t1137 t1140 _ ?side1 ?side2 ?side3 ?side4 A8.out).mono ?_); (case side1 => repeat (first | exact (Kd.R_reads' HO1136.out).2.2 | (with_reducible refine Kd.C_alloc ?_ _) | (with_reducible refine Kd.C_drewN ?_ _) | (with_reducible refine Kd.C_drew ?_))); (case side2 => exact (Kd.R_reads' HO1136.out).2.1); (case side3 => repeat (first | exact (Kd.R_reads' HO1139.out).2.2 | (with_reducible refine Kd.C_alloc ?_ _) | (with_reducible refine Kd.C_drewN ?_ _) | (with_reducible refine Kd.C_drew ?_))); (case side4 => exact (Kd.R_reads' HO1139.out).2.1); rintro e w25 ⟨v1141, rfl, ho0, hb⟩; refine ⟨_, rfl, ?_⟩; have n0_ := Aside0.mk (Kd.R_elder' (by (with_reducible repeat (first | apply Kd.R_alloc | apply Kd.R_drewN | apply Kd.R_drew)); exact HO1136.out) (Kd.R_base ho0) hb); have n1_ := Aside0.mk (Kd.R_elder' (by (with_reducible repeat (first | apply Kd.R_alloc | apply Kd.R_drewN | apply Kd.R_drew)); exact HO1139.out) (Kd.R_base ho0) hb); have n2_ := Aside0.mk (Kd.R_lower (Kd.R_new' (Kd.R_new' ho0 (Kd.R_lt (by (with_reducible repeat (first | apply Kd.R_alloc | apply Kd.R_drewN | apply Kd.R_drew)); exact HO1136.out))) (Kd.R_lt (by (with_reducible repeat (first | apply Kd.R_alloc | apply Kd.R_drewN | apply Kd.R_drew)); exact HO1139.out))) (below_size (by repeat (first | (with_reducible first | exact HB.out | apply below_alloc | apply pw_below_drewN | apply below_drew1 | refine below_set ?_ GE1132.out) | exact HB.out)))); have n3_ := Aside0.mk (blk_below (g := gb1132) (o := .cells #[.slice A0_0 l0_0.length c0_0, .slice A0_1 l0_1.length c0_1] 24 (0, 0)) (by (with_reducible repeat (first | refine blk_drewN ?_ _ | refine blk_drew ?_ | refine blk_alloc ?_ _)); exact BK1132.out) hb); have n4_ := Aside0.mk (below_step (by repeat (first | (with_reducible first | exact HB.out | apply below_alloc | apply pw_below_drewN | apply below_drew1 | refine below_set ?_ GE1132.out) | exact HB.out)) hb); clear HO1136; clear HO1139; clear BK1132; clear HB; have HO1136 := n0_; have HO1139 := n1_; have HO1142 := n2_; have BK1132 := n3_; have HB := n4_; clear n0_ n1_ n2_ n3_ n4_; (try clear hb); (try clear hb2); (try clear hk); (try clear hi); (try clear ho0); have hcz26_0 : w25.cell? ⟨gb1132, 0, none⟩ = some (.slice A0_0 l0_0.length c0_0) := (blk_cell BK1132.out 0).trans rfl; have hcz26_1 : w25.cell? ⟨gb1132, 1, none⟩ = some (.slice A0_1 l0_1.length c0_1) := (blk_cell BK1132.out 1).trans rfl; have hfz26_0 := blk_frozen BK1132.out 0; have hfz26_1 := blk_frozen BK1132.out 1) | ((with_reducible refine gate_callee (f := 14) rfl ?_); refine goesL_ (some 20) rfl rfl Try.func14 (by kernel_rfl) rfl #[.agg #[.slice A0_0 l0_0.length c0_0, .slice A0_1 l0_1.length c0_1]] rfl (by (try simp only [List.map_toArray, List.map_cons, List.map_nil]); first | done | rfl | (simp only [List.length_drop, List.length_take]; rfl)) ?_; (with_reducible refine (laws_toSurface.calls k _ _ l0_0 _ _ l0_1 t1143 t1146 _ ?side1 ?side2 ?side3 ?side4 A9.out).mono ?_); (case side1 => repeat (first | exact (Kd.C_below HR0_0.out HB.out) | (with_reducible refine Kd.C_alloc ?_ _) | (with_reducible refine Kd.C_drewN ?_ _) | (with_reducible refine Kd.C_drew ?_))); (case side2 => exact HC0_0.out); (case side3 => repeat (first | exact (Kd.C_below HR0_1.out HB.out) | (with_reducible refine Kd.C_alloc ?_ _) | (with_reducible refine Kd.C_drewN ?_ _) | (with_reducible refine Kd.C_drew ?_))); (case side4 => exact HC0_1.out); rintro e w27 ⟨v1144, v1147, rfl, ho0, ho1, hb⟩; refine ⟨_, rfl, ?_⟩; have n0_ := Aside0.mk (Kd.R_mono (Kd.R_told (Kd.R_told (Kd.R_old (by (with_reducible repeat (first | apply Kd.R_alloc | apply Kd.R_drewN | apply Kd.R_drew)); exact HO1136.out) hb) (Kd.R_base ho0)) (Kd.R_base ho1)) (fun _ h_ => h_.1)); have n1_ := Aside0.mk (Kd.R_mono (Kd.R_told (Kd.R_told (Kd.R_old (by (with_reducible repeat (first | apply Kd.R_alloc | apply Kd.R_drewN | apply Kd.R_drew)); exact HO1139.out) hb) (Kd.R_base ho0)) (Kd.R_base ho1)) (fun _ h_ => h_.1)); have n2_ := Aside0.mk (Kd.R_mono (Kd.R_told (Kd.R_told (Kd.R_old (by (with_reducible repeat (first | apply Kd.R_alloc | apply Kd.R_drewN | apply Kd.R_drew)); exact HO1142.out) hb) (Kd.R_base ho0)) (Kd.R_base ho1)) (fun _ h_ => h_.1)); have n3_ := Aside0.mk (Kd.R_lower (Kd.R_new' (Kd.R_new' (Kd.R_new' ho0 (Kd.R_lt (by (with_reducible repeat (first | apply Kd.R_alloc | apply Kd.R_drewN | apply Kd.R_drew)); exact HO1136.out))) (Kd.R_lt (by (with_reducible repeat (first | apply Kd.R_alloc | apply Kd.R_drewN | apply Kd.R_drew)); exact HO1139.out))) (Kd.R_lt (by (with_reducible repeat (first | apply Kd.R_alloc | apply Kd.R_drewN | apply Kd.R_drew)); exact HO1142.out))) (below_size (by repeat (first | (with_reducible first | exact HB.out | apply below_alloc | apply pw_below_drewN | apply below_drew1 | refine below_set ?_ GE1132.out) | exact HB.out)))); have n4_ := Aside0.mk (Kd.R_lower (Kd.R_new' (Kd.R_new' (Kd.R_new' ho1 (Kd.R_lt (by (with_reducible repeat (first | apply Kd.R_alloc | apply Kd.R_drewN | apply Kd.R_drew)); exact HO1136.out))) (Kd.R_lt (by (with_reducible repeat (first | apply Kd.R_alloc | apply Kd.R_drewN | apply Kd.R_drew)); exact HO1139.out))) (Kd.R_lt (by (with_reducible repeat (first | apply Kd.R_alloc | apply Kd.R_drewN | apply Kd.R_drew)); exact HO1142.out))) (below_size (by repeat (first | (with_reducible first | exact HB.out | apply below_alloc | apply pw_below_drewN | apply below_drew1 | refine below_set ?_ GE1132.out) | exact HB.out)))); have n5_ := Aside0.mk (blk_below (g := gb1132) (o := .cells #[.slice A0_0 l0_0.length c0_0, .slice A0_1 l0_1.length c0_1] 24 (0, 0)) (by (with_reducible repeat (first | refine blk_drewN ?_ _ | refine blk_drew ?_ | refine blk_alloc ?_ _)); exact BK1132.out) hb); have n6_ := Aside0.mk (below_step (by repeat (first | (with_reducible first | exact HB.out | apply below_alloc | apply pw_below_drewN | apply below_drew1 | refine below_set ?_ GE1132.out) | exact HB.out)) hb); clear HO1136; clear HO1139; clear HO1142; clear BK1132; clear HB; have HO1136 := n0_; have HO1139 := n1_; have HO1142 := n2_; have HO1145 := n3_; have HO1148 := n4_; have BK1132 := n5_; have HB := n6_; clear n0_ n1_ n2_ n3_ n4_ n5_ n6_; (try clear hb); (try clear hb2); (try clear hk); (try clear hi); (try clear ho0); (try clear ho1)) | ((with_reducible refine gate_dst (N := 5) rfl ?_); refine box_event ?hg (N := 5) ?hd (cs := #[.slice none 0 0, .slice none 0 0]) (t := 27) ?hr ?_; (case hd => rfl); (case hg => rfl); (case hr => first | (go_simp; done) | (go_simp; rfl)); intro gb1149 hg w28 hbox hb; have n0_ := Aside0.mk (Kd.R_below (by (with_reducible repeat (first | apply Kd.R_alloc | apply Kd.R_drewN | apply Kd.R_drew)); exact HO1136.out) hb); have n1_ := Aside0.mk (Kd.R_below (by (with_reducible repeat (first | apply Kd.R_alloc | apply Kd.R_drewN | apply Kd.R_drew)); exact HO1139.out) hb); have n2_ := Aside0.mk (Kd.R_below (by (with_reducible repeat (first | apply Kd.R_alloc | apply Kd.R_drewN | apply Kd.R_drew)); exact HO1142.out) hb); have n3_ := Aside0.mk (Kd.R_below (by (with_reducible repeat (first | apply Kd.R_alloc | apply Kd.R_drewN | apply Kd.R_drew)); exact HO1145.out) hb); have n4_ := Aside0.mk (Kd.R_below (by (with_reducible repeat (first | apply Kd.R_alloc | apply Kd.R_drewN | apply Kd.R_drew)); exact HO1148.out) hb); have n5_ := Aside0.mk (blk_below (g := gb1132) (o := .cells #[.slice A0_0 l0_0.length c0_0, .slice A0_1 l0_1.length c0_1] 24 (0, 0)) (by (with_reducible repeat (first | refine blk_drewN ?_ _ | refine blk_drew ?_ | refine blk_alloc ?_ _)); exact BK1132.out) hb); have n6_ := Aside0.mk (below_step (by repeat (first | (with_reducible first | exact HB.out | apply below_alloc | apply pw_below_drewN | apply below_drew1 | refine below_set ?_ GE1132.out) | exact HB.out)) hb); have n7_ := Aside0.mk (hbox); have n8_ := Aside0.mk ((by rw [hg]; exact (below_size (by repeat (first | (with_reducible first | exact HB.out | apply below_alloc | apply pw_below_drewN | apply below_drew1 | refine below_set ?_ GE1132.out) | exact HB.out))) : w.heap.size ≤ gb1149)); have n9_ := Aside0.mk ((by rw [hg]; exact (below_size (by repeat (first | (with_reducible first | exact HB.out | apply below_alloc | apply pw_below_drewN | apply below_drew1 | refine below_set ?_ GE1132.out) | exact HB.out))) : w.heap.size ≤ gb1149)); have n10_ := Aside0.mk ((by rw [hg]; exact Nat.ne_of_lt (blk_lt (g := gb1132) (o := .cells #[.slice A0_0 l0_0.length c0_0, .slice A0_1 l0_1.length c0_1] 24 (0, 0)) (by (with_reducible repeat (first | refine blk_drewN ?_ _ | refine blk_drew ?_ | refine blk_alloc ?_ _)); exact BK1132.out)) : gb1132 ≠ gb1149)); have n11_ := Aside0.mk ((by rw [hg]; exact Nat.ne_of_gt (blk_lt (g := gb1132) (o := .cells #[.slice A0_0 l0_0.length c0_0, .slice A0_1 l0_1.length c0_1] 24 (0, 0)) (by (with_reducible repeat (first | refine blk_drewN ?_ _ | refine blk_drew ?_ | refine blk_alloc ?_ _)); exact BK1132.out)) : gb1149 ≠ gb1132)); clear HO1136; clear HO1139; clear HO1142; clear HO1145; clear HO1148; clear BK1132; clear HB; have HO1136 := n0_; have HO1139 := n1_; have HO1142 := n2_; have HO1145 := n3_; have HO1148 := n4_; have BK1132 := n5_; have HB := n6_; have BK1149 := n7_; have GW1149 := n8_; have GE1149 := n9_; have NB1132_1149 := n10_; have NB1149_1132 := n11_; clear n0_ n1_ n2_ n3_ n4_ n5_ n6_ n7_ n8_ n9_ n10_ n11_; clear hb hbox hg; obtain ⟨Ao29, co29, eo29⟩ := Kd.R_slice HO1145.out; subst eo29; have hnb30 := NB1149_1132.out; have hnc30 := NB1132_1149.out; have hcz31_0 : w28.cell? ⟨gb1149, 0, none⟩ = some (.slice none 0 0) := (blk_cell BK1149.out 0).trans rfl; have hcz31_1 : w28.cell? ⟨gb1149, 1, none⟩ = some (.slice none 0 0) := (blk_cell BK1149.out 1).trans rfl; have hfz31_0 := blk_frozen BK1149.out 0; have hfz31_1 := blk_frozen BK1149.out 1; obtain ⟨Ao32, co32, eo32⟩ := Kd.R_slice HO1148.out; subst eo32) | ((with_reducible refine gate_callee (f := 35) rfl ?_); refine goesL_ (some 22) rfl rfl Try.func35 (by kernel_rfl) rfl #[.agg #[.slice Ao29 t1143.length co29, .slice Ao32 t1146.length co32]] rfl (by (try simp only [List.map_toArray, List.map_cons, List.map_nil]); first | done | rfl | (simp only [List.length_drop, List.length_take]; rfl)) ?_; (with_reducible refine (impl_AnglesOf.calls k _ _ t1143 _ _ t1146 t1150 _ ?side1 ?side2 ?side3 ?side4 A10.out).mono ?_); (case side1 => refine (Kd.R_reads' (e := 3) (base := w.heap.size) (ok := fun k_ => (((some k_ ≠ (.slice Ao32 t1146.length co32 : Value).ownBlock ∧ some k_ ≠ (.slice Ao23 t1134.length co23 : Value).ownBlock) ∧ some k_ ≠ (.slice Ao24 t1137.length co24 : Value).ownBlock) ∧ some k_ ≠ (v1141 : Value).ownBlock)) (n := t1143.length) (c := co29) ?_).2.2; exact (by (with_reducible repeat (first | apply Kd.R_alloc | apply Kd.R_drewN | apply Kd.R_drew)); exact (Kd.R_mono (Kd.R_far (p := ⟨gb1149, 1, none⟩) (Kd.R_far (p := ⟨gb1149, 0, none⟩) (Kd.R_types HO1145.out BK1149.out (by decide)) (fun _ hk => hk.2) (.slice Ao29 t1143.length co29)) (fun _ hk => hk.2) (.slice Ao32 t1146.length co32)) (fun _ h_ => h_.1)))); (case side2 => exact (Kd.R_reads' HO1145.out).2.1); (case side3 => refine (Kd.R_reads' (e := 3) (base := w.heap.size) (ok := fun k_ => (((some k_ ≠ (.slice Ao29 t1143.length co29 : Value).ownBlock ∧ some k_ ≠ (.slice Ao23 t1134.length co23 : Value).ownBlock) ∧ some k_ ≠ (.slice Ao24 t1137.length co24 : Value).ownBlock) ∧ some k_ ≠ (v1141 : Value).ownBlock)) (n := t1146.length) (c := co32) ?_).2.2; exact (by (with_reducible repeat (first | apply Kd.R_alloc | apply Kd.R_drewN | apply Kd.R_drew)); exact (Kd.R_mono (Kd.R_far (p := ⟨gb1149, 1, none⟩) (Kd.R_far (p := ⟨gb1149, 0, none⟩) (Kd.R_types HO1148.out BK1149.out (by decide)) (fun _ hk => hk.2) (.slice Ao29 t1143.length co29)) (fun _ hk => hk.2) (.slice Ao32 t1146.length co32)) (fun _ h_ => h_.1)))); (case side4 => exact (Kd.R_reads' HO1148.out).2.1); rintro e w33 ⟨v1151, rfl, ho0, hb⟩; refine ⟨_, rfl, ?_⟩; have n0_ := Aside0.mk (Kd.R_elder' (by (with_reducible repeat (first | apply Kd.R_alloc | apply Kd.R_drewN | apply Kd.R_drew)); exact (Kd.R_mono (Kd.R_far (p := ⟨gb1149, 1, none⟩) (Kd.R_far (p := ⟨gb1149, 0, none⟩) (Kd.R_types HO1136.out BK1149.out (by decide)) (fun _ hk => hk.2) (.slice Ao29 t1143.length co29)) (fun _ hk => hk.2) (.slice Ao32 t1146.length co32)) (fun _ h_ => h_.1))) (Kd.R_base ho0) hb); have n1_ := Aside0.mk (Kd.R_elder' (by (with_reducible repeat (first | apply Kd.R_alloc | apply Kd.R_drewN | apply Kd.R_drew)); exact (Kd.R_mono (Kd.R_far (p := ⟨gb1149, 1, none⟩) (Kd.R_far (p := ⟨gb1149, 0, none⟩) (Kd.R_types HO1139.out BK1149.out (by decide)) (fun _ hk => hk.2) (.slice Ao29 t1143.length co29)) (fun _ hk => hk.2) (.slice Ao32 t1146.length co32)) (fun _ h_ => h_.1))) (Kd.R_base ho0) hb); have n2_ := Aside0.mk (Kd.R_elder' (by (with_reducible repeat (first | apply Kd.R_alloc | apply Kd.R_drewN | apply Kd.R_drew)); exact (Kd.R_mono (Kd.R_far (p := ⟨gb1149, 1, none⟩) (Kd.R_far (p := ⟨gb1149, 0, none⟩) (Kd.R_types HO1142.out BK1149.out (by decide)) (fun _ hk => hk.2) (.slice Ao29 t1143.length co29)) (fun _ hk => hk.2) (.slice Ao32 t1146.length co32)) (fun _ h_ => h_.1))) (Kd.R_base ho0) hb); have n3_ := Aside0.mk (Kd.R_elder' (by (with_reducible repeat (first | apply Kd.R_alloc | apply Kd.R_drewN | apply Kd.R_drew)); exact (Kd.R_mono (Kd.R_far (p := ⟨gb1149, 1, none⟩) (Kd.R_far (p := ⟨gb1149, 0, none⟩) (Kd.R_types HO1145.out BK1149.out (by decide)) (fun _ hk => hk.2) (.slice Ao29 t1143.length co29)) (fun _ hk => hk.2) (.slice Ao32 t1146.length co32)) (fun _ h_ => h_.1))) (Kd.R_base ho0) hb); have n4_ := Aside0.mk (Kd.R_elder' (by (with_reducible repeat (first | apply Kd.R_alloc | apply Kd.R_drewN | apply Kd.R_drew)); exact (Kd.R_mono (Kd.R_far (p := ⟨gb1149, 1, none⟩) (Kd.R_far (p := ⟨gb1149, 0, none⟩) (Kd.R_types HO1148.out BK1149.out (by decide)) (fun _ hk => hk.2) (.slice Ao29 t1143.length co29)) (fun _ hk => hk.2) (.slice Ao32 t1146.length co32)) (fun _ h_ => h_.1))) (Kd.R_base ho0) hb); have n5_ := Aside0.mk (Kd.R_lower (Kd.R_new' (Kd.R_new' (Kd.R_new' (Kd.R_new' (Kd.R_new' ho0 (Kd.R_lt (by (with_reducible repeat (first | apply Kd.R_alloc | apply Kd.R_drewN | apply Kd.R_drew)); exact (Kd.R_mono (Kd.R_far (p := ⟨gb1149, 1, none⟩) (Kd.R_far (p := ⟨gb1149, 0, none⟩) (Kd.R_types HO1136.out BK1149.out (by decide)) (fun _ hk => hk.2) (.slice Ao29 t1143.length co29)) (fun _ hk => hk.2) (.slice Ao32 t1146.length co32)) (fun _ h_ => h_.1))))) (Kd.R_lt (by (with_reducible repeat (first | apply Kd.R_alloc | apply Kd.R_drewN | apply Kd.R_drew)); exact (Kd.R_mono (Kd.R_far (p := ⟨gb1149, 1, none⟩) (Kd.R_far (p := ⟨gb1149, 0, none⟩) (Kd.R_types HO1139.out BK1149.out (by decide)) (fun _ hk => hk.2) (.slice Ao29 t1143.length co29)) (fun _ hk => hk.2) (.slice Ao32 t1146.length co32)) (fun _ h_ => h_.1))))) (Kd.R_lt (by (with_reducible repeat (first | apply Kd.R_alloc | apply Kd.R_drewN | apply Kd.R_drew)); exact (Kd.R_mono (Kd.R_far (p := ⟨gb1149, 1, none⟩) (Kd.R_far (p := ⟨gb1149, 0, none⟩) (Kd.R_types HO1142.out BK1149.out (by decide)) (fun _ hk => hk.2) (.slice Ao29 t1143.length co29)) (fun _ hk => hk.2) (.slice Ao32 t1146.length co32)) (fun _ h_ => h_.1))))) (Kd.R_lt (by (with_reducible repeat (first | apply Kd.R_alloc | apply Kd.R_drewN | apply Kd.R_drew)); exact (Kd.R_mono (Kd.R_far (p := ⟨gb1149, 1, none⟩) (Kd.R_far (p := ⟨gb1149, 0, none⟩) (Kd.R_types HO1145.out BK1149.out (by decide)) (fun _ hk => hk.2) (.slice Ao29 t1143.length co29)) (fun _ hk => hk.2) (.slice Ao32 t1146.length co32)) (fun _ h_ => h_.1))))) (Kd.R_lt (by (with_reducible repeat (first | apply Kd.R_alloc | apply Kd.R_drewN | apply Kd.R_drew)); exact (Kd.R_mono (Kd.R_far (p := ⟨gb1149, 1, none⟩) (Kd.R_far (p := ⟨gb1149, 0, none⟩) (Kd.R_types HO1148.out BK1149.out (by decide)) (fun _ hk => hk.2) (.slice Ao29 t1143.length co29)) (fun _ hk => hk.2) (.slice Ao32 t1146.length co32)) (fun _ h_ => h_.1))))) (below_size (by repeat (first | (with_reducible first | exact HB.out | apply below_alloc | apply pw_below_drewN | apply below_drew1 | refine below_set ?_ GE1132.out | refine below_set ?_ GE1149.out) | exact HB.out)))); have n6_ := Aside0.mk (blk_below (g := gb1132) (o := .cells #[.slice A0_0 l0_0.length c0_0, .slice A0_1 l0_1.length c0_1] 24 (0, 0)) (by (with_reducible repeat (first | refine blk_drewN ?_ _ | refine blk_drew ?_ | refine blk_alloc ?_ _)); refine blk_far ?_ NB1132_1149.out _; (with_reducible repeat (first | refine blk_drewN ?_ _ | refine blk_drew ?_ | refine blk_alloc ?_ _)); refine blk_far ?_ NB1132_1149.out _; (with_reducible repeat (first | refine blk_drewN ?_ _ | refine blk_drew ?_ | refine blk_alloc ?_ _)); exact BK1132.out) hb); have n7_ := Aside0.mk (blk_below (g := gb1149) (o := .cells #[.slice Ao29 t1143.length co29, .slice Ao32 t1146.length co32] 27 (0, 0)) (by (with_reducible repeat (first | refine blk_drewN ?_ _ | refine blk_drew ?_ | refine blk_alloc ?_ _)); refine blk_put (cs := #[.slice Ao29 t1143.length co29, .slice none 0 0]) ?_ 1 _ rfl; (with_reducible repeat (first | refine blk_drewN ?_ _ | refine blk_drew ?_ | refine blk_alloc ?_ _)); refine blk_put (cs := #[.slice none 0 0, .slice none 0 0]) ?_ 0 _ rfl; (with_reducible repeat (first | refine blk_drewN ?_ _ | refine blk_drew ?_ | refine blk_alloc ?_ _)); exact BK1149.out) hb); have n8_ := Aside0.mk (below_step (by repeat (first | (with_reducible first | exact HB.out | apply below_alloc | apply pw_below_drewN | apply below_drew1 | refine below_set ?_ GE1132.out | refine below_set ?_ GE1149.out) | exact HB.out)) hb); clear HO1136; clear HO1139; clear HO1142; clear HO1145; clear HO1148; clear BK1132; clear BK1149; clear HB; have HO1136 := n0_; have HO1139 := n1_; have HO1142 := n2_; have HO1145 := n3_; have HO1148 := n4_; have HO1152 := n5_; have BK1132 := n6_; have BK1149 := n7_; have HB := n8_; clear n0_ n1_ n2_ n3_ n4_ n5_ n6_ n7_ n8_; (try clear hb); (try clear hb2); (try clear hk); (try clear hi); (try clear ho0); obtain ⟨Ao34, co34, eo34⟩ := Kd.R_slice HO1152.out; subst eo34; obtain ⟨Ao35, co35, eo35⟩ := Kd.R_slice HO1142.out; subst eo35) | ((with_reducible refine gate_callee (f := 36) rfl ?_); refine goesL_ (some 25) rfl rfl Try.func36 (by kernel_rfl) rfl #[.slice Ao34 t1150.length co34, .slice Ao35 t1140.length co35] rfl (by (try simp only [List.map_toArray, List.map_cons, List.map_nil]); first | done | rfl | (simp only [List.length_drop, List.length_take]; rfl)) ?_; (with_reducible refine (laws_eqIntS.calls k _ _ t1150 _ _ t1140 true _ ?side1 ?side2 ?side3 ?side4 A11.out).mono ?_); (case side1 => repeat (first | exact (Kd.R_reads' HO1152.out).2.2 | (with_reducible refine Kd.C_alloc ?_ _) | (with_reducible refine Kd.C_drewN ?_ _) | (with_reducible refine Kd.C_drew ?_))); (case side2 => exact (Kd.R_reads' HO1152.out).2.1); (case side3 => repeat (first | exact (Kd.R_reads' HO1142.out).2.2 | (with_reducible refine Kd.C_alloc ?_ _) | (with_reducible refine Kd.C_drewN ?_ _) | (with_reducible refine Kd.C_drew ?_))); (case side4 => exact (Kd.R_reads' HO1142.out).2.1); rintro e w' ⟨rfl, ⟨nd, rfl⟩⟩; refine ⟨_, rfl, ?_⟩))
    (try (rw [drewN_self w33]; generalize hq_ : World.drewN w33 _ = w33; have n0_ := Aside0.mk (Kd.R_at hq_ HO1136.out); have n1_ := Aside0.mk (Kd.R_at hq_ HO1139.out); have n2_ := Aside0.mk (Kd.R_at hq_ HO1142.out); have n3_ := Aside0.mk (Kd.R_at hq_ HO1145.out); have n4_ := Aside0.mk (Kd.R_at hq_ HO1148.out); have n5_ := Aside0.mk (Kd.R_at hq_ HO1152.out); have n6_ : Aside0 (w33.heap[gb1132]? = some (.cells #[.slice A0_0 l0_0.length c0_0, .slice A0_1 l0_1.length c0_1] 24 (0, 0))) := ⟨by rw [← hq_]; exact (by (with_reducible repeat (first | refine blk_drewN ?_ _ | refine blk_drew ?_ | refine blk_alloc ?_ _)); exact BK1132.out)⟩; have n7_ : Aside0 (w33.heap[gb1149]? = some (.cells #[.slice Ao29 t1143.length co29, .slice Ao32 t1146.length co32] 27 (0, 0))) := ⟨by rw [← hq_]; exact (by (with_reducible repeat (first | refine blk_drewN ?_ _ | refine blk_drew ?_ | refine blk_alloc ?_ _)); exact BK1149.out)⟩; have n8_ : Aside0 (Below w.heap.size w w33) := ⟨by rw [← hq_]; exact (by repeat (first | (with_reducible first | exact HB.out | apply below_alloc | apply pw_below_drewN | apply below_drew1 | refine below_set ?_ GE1132.out | refine below_set ?_ GE1149.out) | exact HB.out))⟩; clear HO1136 HO1139 HO1142 HO1145 HO1148 HO1152 BK1132 BK1149 HB hq_; have HO1136 := n0_; have HO1139 := n1_; have HO1142 := n2_; have HO1145 := n3_; have HO1148 := n4_; have HO1152 := n5_; have BK1132 := n6_; have BK1149 := n7_; have HB := n8_; clear n0_ n1_ n2_ n3_ n4_ n5_ n6_ n7_ n8_))
    have n0_ := Aside0.mk (Kd.R_drew HO1136.out)
    have n1_ := Aside0.mk (Kd.R_drew HO1139.out)
    have n2_ := Aside0.mk (Kd.R_drew HO1142.out)
    have n3_ := Aside0.mk (Kd.R_drew HO1145.out)
    have n4_ := Aside0.mk (Kd.R_drew HO1148.out)
    have n5_ := Aside0.mk (Kd.R_drew HO1152.out)
    have n6_ := Aside0.mk (blk_drew BK1132.out)
    have n7_ := Aside0.mk (blk_drew BK1149.out)
    have n8_ := Aside0.mk (below_drew1 HB.out)
    clear HO1136 HO1139 HO1142 HO1145 HO1148 HO1152 BK1132 BK1149 HB
    have HO1136 := n0_
    have HO1139 := n1_
    have HO1142 := n2_
    have HO1145 := n3_
    have HO1148 := n4_
    have HO1152 := n5_
    have BK1132 := n6_
    have BK1149 := n7_
    have HB := n8_
    clear n0_ n1_ n2_ n3_ n4_ n5_ n6_ n7_ n8_
    refine start_ (n := 5) (S := fun w' => w'.cell? ⟨gb1149, 0, none⟩ = some (.slice Ao29 t1143.length co29) ∧ w'.cell? ⟨gb1149, 1, none⟩ = some (.slice Ao32 t1146.length co32) ∧ w'.cell? ⟨gb1132, 0, none⟩ = some (.slice A0_0 l0_0.length c0_0) ∧ w'.cell? ⟨gb1132, 1, none⟩ = some (.slice A0_1 l0_1.length c0_1)) (ds := []) #[false, false, false, false, false] (by kernel_rfl) rfl rfl ⟨(blk_cell BK1149.out 0).trans rfl, (blk_cell BK1149.out 1).trans rfl, (blk_cell BK1132.out 0).trans rfl, (blk_cell BK1132.out 1).trans rfl⟩ (fun hHeld => ?_)
    generalize w33.drew = w36 at HO1136 HO1139 HO1142 HO1145 HO1148 HO1152 BK1132 BK1149 HB hHeld ⊢
    refine take_ (i := 0) (N := some 27) (v := ?_) (a' := ?_) #[true, false, false, false, false] rfl rfl (by kernel_rfl) (fun _ _ _ h => h) (Or.inl ⟨by rfl, ?_⟩) hHeld ?_ ?_
    rotate_left
    ·rintro w' ⟨s0, s1, s2, s3⟩
     go_simp
     with_reducible rfl
    rotate_left
    ·simp only [Act.put, List.setIfInBounds_toArray, List.set_cons_zero, List.set_cons_succ, i64_w, i32_w]
     rfl
    refine take_ (i := 1) (N := some 28) (v := ?_) (a' := ?_) #[true, true, false, false, false] rfl rfl (by kernel_rfl) (fun _ _ _ h => h) (Or.inl ⟨by rfl, ?_⟩) hHeld ?_ ?_
    rotate_left
    ·rintro w' ⟨s0, s1, s2, s3⟩
     go_simp
     with_reducible rfl
    rotate_left
    ·simp only [Act.put, List.setIfInBounds_toArray, List.set_cons_zero, List.set_cons_succ, i64_w, i32_w]
     rfl
    refine one_ (i := 2) (N := some 29) #[true, true, true, false, false] rfl rfl (by kernel_rfl) (by decide) (fun K hK => ?_)
    refine goes_ Try.func14 (by kernel_rfl) rfl #[.agg #[.slice A0_0 l0_0.length c0_0, .slice A0_1 l0_1.length c0_1]] (by rfl) rfl rfl (by (try simp only [List.map_toArray, List.map_cons, List.map_nil]); first | done | rfl | (simp only [List.length_drop, List.length_take]; rfl)) ?_
    with_reducible refine (laws_toSurface.calls k _ _ l0_0 _ _ l0_1 t1154 t1157 _ ?side1 ?side2 ?side3 ?side4 A13.out).mono ?_
    (case side1 => repeat (first | exact (Kd.C_below HR0_0.out HB.out) | (with_reducible refine Kd.C_alloc ?_ _) | (with_reducible refine Kd.C_drewN ?_ _) | (with_reducible refine Kd.C_drew ?_)))
    (case side2 => exact HC0_0.out)
    (case side3 => repeat (first | exact (Kd.C_below HR0_1.out HB.out) | (with_reducible refine Kd.C_alloc ?_ _) | (with_reducible refine Kd.C_drewN ?_ _) | (with_reducible refine Kd.C_drew ?_)))
    (case side4 => exact HC0_1.out)
    rintro e w37 ⟨v1155, v1158, rfl, ho0, ho1, hb⟩
    refine ⟨_, rfl, ?_⟩
    have n0_ := Aside0.mk (Kd.R_mono (Kd.R_told (Kd.R_told (Kd.R_old (by (with_reducible repeat (first | apply Kd.R_alloc | apply Kd.R_drewN | apply Kd.R_drew)); exact HO1136.out) hb) (Kd.R_base ho0)) (Kd.R_base ho1)) (fun _ h_ => h_.1))
    have n1_ := Aside0.mk (Kd.R_mono (Kd.R_told (Kd.R_told (Kd.R_old (by (with_reducible repeat (first | apply Kd.R_alloc | apply Kd.R_drewN | apply Kd.R_drew)); exact HO1139.out) hb) (Kd.R_base ho0)) (Kd.R_base ho1)) (fun _ h_ => h_.1))
    have n2_ := Aside0.mk (Kd.R_mono (Kd.R_told (Kd.R_told (Kd.R_old (by (with_reducible repeat (first | apply Kd.R_alloc | apply Kd.R_drewN | apply Kd.R_drew)); exact HO1142.out) hb) (Kd.R_base ho0)) (Kd.R_base ho1)) (fun _ h_ => h_.1))
    have n3_ := Aside0.mk (Kd.R_mono (Kd.R_told (Kd.R_told (Kd.R_old (by (with_reducible repeat (first | apply Kd.R_alloc | apply Kd.R_drewN | apply Kd.R_drew)); exact HO1145.out) hb) (Kd.R_base ho0)) (Kd.R_base ho1)) (fun _ h_ => h_.1))
    have n4_ := Aside0.mk (Kd.R_mono (Kd.R_told (Kd.R_told (Kd.R_old (by (with_reducible repeat (first | apply Kd.R_alloc | apply Kd.R_drewN | apply Kd.R_drew)); exact HO1148.out) hb) (Kd.R_base ho0)) (Kd.R_base ho1)) (fun _ h_ => h_.1))
    have n5_ := Aside0.mk (Kd.R_mono (Kd.R_told (Kd.R_told (Kd.R_old (by (with_reducible repeat (first | apply Kd.R_alloc | apply Kd.R_drewN | apply Kd.R_drew)); exact HO1152.out) hb) (Kd.R_base ho0)) (Kd.R_base ho1)) (fun _ h_ => h_.1))
    have n6_ := Aside0.mk (Kd.R_lower (Kd.R_new' (Kd.R_new' (Kd.R_new' (Kd.R_new' (Kd.R_new' (Kd.R_new' ho0 (Kd.R_lt (by (with_reducible repeat (first | apply Kd.R_alloc | apply Kd.R_drewN | apply Kd.R_drew)); exact HO1136.out))) (Kd.R_lt (by (with_reducible repeat (first | apply Kd.R_alloc | apply Kd.R_drewN | apply Kd.R_drew)); exact HO1139.out))) (Kd.R_lt (by (with_reducible repeat (first | apply Kd.R_alloc | apply Kd.R_drewN | apply Kd.R_drew)); exact HO1142.out))) (Kd.R_lt (by (with_reducible repeat (first | apply Kd.R_alloc | apply Kd.R_drewN | apply Kd.R_drew)); exact HO1145.out))) (Kd.R_lt (by (with_reducible repeat (first | apply Kd.R_alloc | apply Kd.R_drewN | apply Kd.R_drew)); exact HO1148.out))) (Kd.R_lt (by (with_reducible repeat (first | apply Kd.R_alloc | apply Kd.R_drewN | apply Kd.R_drew)); exact HO1152.out))) (below_size (by repeat (first | (with_reducible first | exact HB.out | apply below_alloc | apply pw_below_drewN | apply below_drew1 | refine below_set ?_ GE1132.out | refine below_set ?_ GE1149.out) | exact HB.out))))
    have n7_ := Aside0.mk (Kd.R_lower (Kd.R_new' (Kd.R_new' (Kd.R_new' (Kd.R_new' (Kd.R_new' (Kd.R_new' ho1 (Kd.R_lt (by (with_reducible repeat (first | apply Kd.R_alloc | apply Kd.R_drewN | apply Kd.R_drew)); exact HO1136.out))) (Kd.R_lt (by (with_reducible repeat (first | apply Kd.R_alloc | apply Kd.R_drewN | apply Kd.R_drew)); exact HO1139.out))) (Kd.R_lt (by (with_reducible repeat (first | apply Kd.R_alloc | apply Kd.R_drewN | apply Kd.R_drew)); exact HO1142.out))) (Kd.R_lt (by (with_reducible repeat (first | apply Kd.R_alloc | apply Kd.R_drewN | apply Kd.R_drew)); exact HO1145.out))) (Kd.R_lt (by (with_reducible repeat (first | apply Kd.R_alloc | apply Kd.R_drewN | apply Kd.R_drew)); exact HO1148.out))) (Kd.R_lt (by (with_reducible repeat (first | apply Kd.R_alloc | apply Kd.R_drewN | apply Kd.R_drew)); exact HO1152.out))) (below_size (by repeat (first | (with_reducible first | exact HB.out | apply below_alloc | apply pw_below_drewN | apply below_drew1 | refine below_set ?_ GE1132.out | refine below_set ?_ GE1149.out) | exact HB.out))))
    have n8_ := Aside0.mk (blk_below (g := gb1132) (o := .cells #[.slice A0_0 l0_0.length c0_0, .slice A0_1 l0_1.length c0_1] 24 (0, 0)) (by (with_reducible repeat (first | refine blk_drewN ?_ _ | refine blk_drew ?_ | refine blk_alloc ?_ _)); exact BK1132.out) hb)
    have n9_ := Aside0.mk (blk_below (g := gb1149) (o := .cells #[.slice Ao29 t1143.length co29, .slice Ao32 t1146.length co32] 27 (0, 0)) (by (with_reducible repeat (first | refine blk_drewN ?_ _ | refine blk_drew ?_ | refine blk_alloc ?_ _)); exact BK1149.out) hb)
    have n10_ := Aside0.mk (below_step (by repeat (first | (with_reducible first | exact HB.out | apply below_alloc | apply pw_below_drewN | apply below_drew1 | refine below_set ?_ GE1132.out | refine below_set ?_ GE1149.out) | exact HB.out)) hb)
    clear HO1136 HO1139 HO1142 HO1145 HO1148 HO1152 BK1132 BK1149 HB
    have HO1136 := n0_
    have HO1139 := n1_
    have HO1142 := n2_
    have HO1145 := n3_
    have HO1148 := n4_
    have HO1152 := n5_
    have HO1156 := n6_
    have HO1159 := n7_
    have BK1132 := n8_
    have BK1149 := n9_
    have HB := n10_
    clear n0_ n1_ n2_ n3_ n4_ n5_ n6_ n7_ n8_ n9_ n10_
    (try clear hb)
    (try clear hb2)
    (try clear hk)
    (try clear hi)
    (try clear ho0)
    (try clear ho1)
    obtain ⟨Ao38, co38, eo38⟩ := Kd.R_slice HO1156.out
    (first | subst eo38 | (injection eo38 with f1_ f2_ f3_; have f4_ := f1_.symm; have f5_ := f3_.symm; clear f1_ f2_ f3_; subst f4_; subst f5_))
    obtain ⟨Ao39, co39, eo39⟩ := Kd.R_slice HO1159.out
    (first | subst eo39 | (injection eo39 with f1_ f2_ f3_; have f4_ := f1_.symm; have f5_ := f3_.symm; clear f1_ f2_ f3_; subst f4_; subst f5_))
    refine hK.out _ _ ⟨(blk_cell BK1149.out 0).trans rfl, (blk_cell BK1149.out 1).trans rfl, (blk_cell BK1132.out 0).trans rfl, (blk_cell BK1132.out 1).trans rfl⟩ (fun hHeld => ?_)
    clear hK K
    refine norm_ (a' := ?_) ?_ ?_
    rotate_left
    ·show Act.put _ (some 29) _ = _
     simp only [Act.put, List.setIfInBounds_toArray, List.set_cons_zero, List.set_cons_succ, i64_w, i32_w]
     rfl
    refine one_ (i := 3) (N := some 30) #[true, true, true, true, false] rfl rfl (by kernel_rfl) (by decide) (fun K hK => ?_)
    refine goes_ Try.func16 (by kernel_rfl) rfl #[.agg #[.slice Ao29 t1143.length co29, .slice Ao32 t1146.length co32], .agg #[.slice Ao38 t1154.length co38, .slice Ao39 t1157.length co39]] (by rfl) rfl rfl (by (try simp only [List.map_toArray, List.map_cons, List.map_nil]); first | done | rfl | (simp only [List.length_drop, List.length_take]; rfl)) ?_
    with_reducible refine (laws_eqSurface.calls k _ _ t1143 _ _ t1146 _ _ t1154 _ _ t1157 true _ ?side1 ?side2 ?side3 ?side4 ?side5 ?side6 ?side7 ?side8 A14.out).mono ?_
    (case side1 => repeat (first | exact (Kd.R_reads' HO1145.out).2.2 | (with_reducible refine Kd.C_alloc ?_ _) | (with_reducible refine Kd.C_drewN ?_ _) | (with_reducible refine Kd.C_drew ?_)))
    (case side2 => exact (Kd.R_reads' HO1145.out).2.1)
    (case side3 => repeat (first | exact (Kd.R_reads' HO1148.out).2.2 | (with_reducible refine Kd.C_alloc ?_ _) | (with_reducible refine Kd.C_drewN ?_ _) | (with_reducible refine Kd.C_drew ?_)))
    (case side4 => exact (Kd.R_reads' HO1148.out).2.1)
    (case side5 => repeat (first | exact (Kd.R_reads' HO1156.out).2.2 | (with_reducible refine Kd.C_alloc ?_ _) | (with_reducible refine Kd.C_drewN ?_ _) | (with_reducible refine Kd.C_drew ?_)))
    (case side6 => exact (Kd.R_reads' HO1156.out).2.1)
    (case side7 => repeat (first | exact (Kd.R_reads' HO1159.out).2.2 | (with_reducible refine Kd.C_alloc ?_ _) | (with_reducible refine Kd.C_drewN ?_ _) | (with_reducible refine Kd.C_drew ?_)))
    (case side8 => exact (Kd.R_reads' HO1159.out).2.1)
    rintro e w40 ⟨rfl, hb⟩
    refine ⟨_, rfl, ?_⟩
    have n0_ := Aside0.mk (Kd.R_below (by (with_reducible repeat (first | apply Kd.R_alloc | apply Kd.R_drewN | apply Kd.R_drew)); exact HO1136.out) hb)
    have n1_ := Aside0.mk (Kd.R_below (by (with_reducible repeat (first | apply Kd.R_alloc | apply Kd.R_drewN | apply Kd.R_drew)); exact HO1139.out) hb)
    have n2_ := Aside0.mk (Kd.R_below (by (with_reducible repeat (first | apply Kd.R_alloc | apply Kd.R_drewN | apply Kd.R_drew)); exact HO1142.out) hb)
    have n3_ := Aside0.mk (Kd.R_below (by (with_reducible repeat (first | apply Kd.R_alloc | apply Kd.R_drewN | apply Kd.R_drew)); exact HO1145.out) hb)
    have n4_ := Aside0.mk (Kd.R_below (by (with_reducible repeat (first | apply Kd.R_alloc | apply Kd.R_drewN | apply Kd.R_drew)); exact HO1148.out) hb)
    have n5_ := Aside0.mk (Kd.R_below (by (with_reducible repeat (first | apply Kd.R_alloc | apply Kd.R_drewN | apply Kd.R_drew)); exact HO1152.out) hb)
    have n6_ := Aside0.mk (Kd.R_below (by (with_reducible repeat (first | apply Kd.R_alloc | apply Kd.R_drewN | apply Kd.R_drew)); exact HO1156.out) hb)
    have n7_ := Aside0.mk (Kd.R_below (by (with_reducible repeat (first | apply Kd.R_alloc | apply Kd.R_drewN | apply Kd.R_drew)); exact HO1159.out) hb)
    have n8_ := Aside0.mk (blk_below (g := gb1132) (o := .cells #[.slice A0_0 l0_0.length c0_0, .slice A0_1 l0_1.length c0_1] 24 (0, 0)) (by (with_reducible repeat (first | refine blk_drewN ?_ _ | refine blk_drew ?_ | refine blk_alloc ?_ _)); exact BK1132.out) hb)
    have n9_ := Aside0.mk (blk_below (g := gb1149) (o := .cells #[.slice Ao29 t1143.length co29, .slice Ao32 t1146.length co32] 27 (0, 0)) (by (with_reducible repeat (first | refine blk_drewN ?_ _ | refine blk_drew ?_ | refine blk_alloc ?_ _)); exact BK1149.out) hb)
    have n10_ := Aside0.mk (below_step (by repeat (first | (with_reducible first | exact HB.out | apply below_alloc | apply pw_below_drewN | apply below_drew1 | refine below_set ?_ GE1132.out | refine below_set ?_ GE1149.out) | exact HB.out)) hb)
    clear HO1136 HO1139 HO1142 HO1145 HO1148 HO1152 HO1156 HO1159 BK1132 BK1149 HB
    have HO1136 := n0_
    have HO1139 := n1_
    have HO1142 := n2_
    have HO1145 := n3_
    have HO1148 := n4_
    have HO1152 := n5_
    have HO1156 := n6_
    have HO1159 := n7_
    have BK1132 := n8_
    have BK1149 := n9_
    have HB := n10_
    clear n0_ n1_ n2_ n3_ n4_ n5_ n6_ n7_ n8_ n9_ n10_
    (try clear hb)
    (try clear hb2)
    (try clear hk)
    (try clear hi)
    refine hK.out _ _ ⟨(blk_cell BK1149.out 0).trans rfl, (blk_cell BK1149.out 1).trans rfl, (blk_cell BK1132.out 0).trans rfl, (blk_cell BK1132.out 1).trans rfl⟩ (fun hHeld => ?_)
    clear hK K
    refine norm_ (a' := ?_) ?_ ?_
    rotate_left
    ·show Act.put _ (some 30) _ = _
     simp only [Act.put, List.setIfInBounds_toArray, List.set_cons_zero, List.set_cons_succ, i64_w, i32_w]
     rfl
    refine pure_ (i := 4) (N := some 31) (v := ?_) (a' := ?_) #[true, true, true, true, true] rfl rfl (by kernel_rfl) (fun _ _ _ h => h) (Or.inl ⟨by rfl, ?_⟩) ?_ ?_
    rotate_left
    ·intro w'
     go_simp
     with_reducible rfl
    rotate_left
    ·simp only [Act.put, List.setIfInBounds_toArray, List.set_cons_zero, List.set_cons_succ, i64_w, i32_w]
     rfl
    refine done_ (by kernel_rfl) ?_
    have hcz41_0 : w40.cell? ⟨gb1149, 0, none⟩ = some (.slice Ao29 t1143.length co29) := (blk_cell BK1149.out 0).trans rfl
    have hcz41_1 : w40.cell? ⟨gb1149, 1, none⟩ = some (.slice Ao32 t1146.length co32) := (blk_cell BK1149.out 1).trans rfl
    have hfz41_0 := blk_frozen BK1149.out 0
    have hfz41_1 := blk_frozen BK1149.out 1
    go_upto_region 14 with (first | ((with_reducible refine gate_callee (f := 20) rfl ?_); refine goesL_ (some 34) rfl rfl Try.func20 (by kernel_rfl) rfl #[.agg #[.slice Ao29 t1143.length co29, .slice Ao32 t1146.length co32], .int .i64 1] rfl (by (try simp only [List.map_toArray, List.map_cons, List.map_nil]); first | done | rfl | (simp only [List.length_drop, List.length_take]; rfl)) ?_; (with_reducible refine (laws_markSurface.calls k (fun k_ => some k_ = (.slice Ao29 t1143.length co29 : Value).ownBlock) (.slice Ao29 t1143.length co29) t1143 (fun k_ => some k_ = (.slice Ao32 t1146.length co32 : Value).ownBlock) (.slice Ao32 t1146.length co32) t1146 1 t1161 t1162 t1163 w _ ?side1 ?side2 ?side3 ?side4 ?side5 A16.out).mono ?_); (case side1 => repeat (first | (with_reducible first | exact HB.out | apply below_alloc | apply pw_below_drewN | apply below_drew1 | refine below_set ?_ GE1132.out | refine below_set ?_ GE1149.out) | exact HB.out)); (case side2 => exact Kd.R_tight rfl HO1145.out); (case side3 => exact fun k_ e_ => (HO1145.out.1 k_ e_.symm).1.1.1.1.1.1); (case side4 => exact Kd.R_tight rfl HO1148.out); (case side5 => exact fun k_ e_ => (HO1148.out.1 k_ e_.symm).1.1.1.1.1.1); rintro e w42 ⟨rfl, hy0, hy1, hb, hkp⟩; refine ⟨_, rfl, ?_⟩; have n0_ := Aside0.mk (blk_kept (by (with_reducible repeat (first | refine blk_drewN ?_ _ | refine blk_drew ?_ | refine blk_alloc ?_ _)); exact BK1132.out) hkp (fun hs_ => Or.elim hs_ (fun e_ => (fun e_ => (Kd.R_ne HO1145.out BK1132.out (by decide)) e_) e_) (fun e_ => (fun e_ => (Kd.R_ne HO1148.out BK1132.out (by decide)) e_) e_))); have n1_ := Aside0.mk (Kd.R_mono (ok' := fun k_ => some k_ ≠ (.slice Ao24 t1137.length co24 : Value).ownBlock ∧ some k_ ≠ (.slice Ao35 t1140.length co35 : Value).ownBlock ∧ some k_ ≠ (.slice Ao29 t1143.length co29 : Value).ownBlock ∧ some k_ ≠ (.slice Ao32 t1146.length co32 : Value).ownBlock ∧ some k_ ≠ (.slice Ao34 t1150.length co34 : Value).ownBlock ∧ some k_ ≠ (.slice Ao38 t1154.length co38 : Value).ownBlock ∧ some k_ ≠ (.slice Ao39 t1157.length co39 : Value).ownBlock) (Kd.R_keptB (HO1136.out) hkp (fun k_ hk_ hs_ => Or.elim hs_ (fun e_ => (hk_.1.1.1.1.2) e_) (fun e_ => (hk_.1.1.1.2) e_))) (fun k_ hk_ => ⟨hk_.1.1.1.1.1.1.1, hk_.1.1.1.1.1.1.2, hk_.1.1.1.1.1.2, hk_.1.1.1.1.2, hk_.1.1.1.2, hk_.1.1.2, hk_.1.2⟩)); have n2_ := Aside0.mk (Kd.R_mono (ok' := fun k_ => some k_ ≠ (.slice Ao23 t1134.length co23 : Value).ownBlock ∧ some k_ ≠ (.slice Ao35 t1140.length co35 : Value).ownBlock ∧ some k_ ≠ (.slice Ao29 t1143.length co29 : Value).ownBlock ∧ some k_ ≠ (.slice Ao32 t1146.length co32 : Value).ownBlock ∧ some k_ ≠ (.slice Ao34 t1150.length co34 : Value).ownBlock ∧ some k_ ≠ (.slice Ao38 t1154.length co38 : Value).ownBlock ∧ some k_ ≠ (.slice Ao39 t1157.length co39 : Value).ownBlock) (Kd.R_keptB (HO1139.out) hkp (fun k_ hk_ hs_ => Or.elim hs_ (fun e_ => (hk_.1.1.1.1.2) e_) (fun e_ => (hk_.1.1.1.2) e_))) (fun k_ hk_ => ⟨hk_.1.1.1.1.1.1.1, hk_.1.1.1.1.1.1.2, hk_.1.1.1.1.1.2, hk_.1.1.1.1.2, hk_.1.1.1.2, hk_.1.1.2, hk_.1.2⟩)); have n3_ := Aside0.mk (Kd.R_mono (ok' := fun k_ => some k_ ≠ (.slice Ao23 t1134.length co23 : Value).ownBlock ∧ some k_ ≠ (.slice Ao24 t1137.length co24 : Value).ownBlock ∧ some k_ ≠ (.slice Ao29 t1143.length co29 : Value).ownBlock ∧ some k_ ≠ (.slice Ao32 t1146.length co32 : Value).ownBlock ∧ some k_ ≠ (.slice Ao34 t1150.length co34 : Value).ownBlock ∧ some k_ ≠ (.slice Ao38 t1154.length co38 : Value).ownBlock ∧ some k_ ≠ (.slice Ao39 t1157.length co39 : Value).ownBlock) (Kd.R_keptB (HO1142.out) hkp (fun k_ hk_ hs_ => Or.elim hs_ (fun e_ => (hk_.1.1.1.1.2) e_) (fun e_ => (hk_.1.1.1.2) e_))) (fun k_ hk_ => ⟨hk_.1.1.1.1.1.1.1.2, hk_.1.1.1.1.1.1.2, hk_.1.1.1.1.1.2, hk_.1.1.1.1.2, hk_.1.1.1.2, hk_.1.1.2, hk_.1.2⟩)); have n4_ := Aside0.mk (Kd.R_reok rfl hy0 (fun k_ e_ => HO1145.out.1 k_ e_)); have n5_ := Aside0.mk (Kd.R_reok rfl hy1 (fun k_ e_ => HO1148.out.1 k_ e_)); have n6_ := Aside0.mk (blk_kept (by (with_reducible repeat (first | refine blk_drewN ?_ _ | refine blk_drew ?_ | refine blk_alloc ?_ _)); exact BK1149.out) hkp (fun hs_ => Or.elim hs_ (fun e_ => (fun e_ => (Kd.R_ne HO1145.out BK1149.out (by decide)) e_) e_) (fun e_ => (fun e_ => (Kd.R_ne HO1148.out BK1149.out (by decide)) e_) e_))); have n7_ := Aside0.mk (Kd.R_mono (ok' := fun k_ => some k_ ≠ (.slice Ao23 t1134.length co23 : Value).ownBlock ∧ some k_ ≠ (.slice Ao24 t1137.length co24 : Value).ownBlock ∧ some k_ ≠ (.slice Ao35 t1140.length co35 : Value).ownBlock ∧ some k_ ≠ (.slice Ao29 t1143.length co29 : Value).ownBlock ∧ some k_ ≠ (.slice Ao32 t1146.length co32 : Value).ownBlock ∧ some k_ ≠ (.slice Ao38 t1154.length co38 : Value).ownBlock ∧ some k_ ≠ (.slice Ao39 t1157.length co39 : Value).ownBlock) (Kd.R_keptB (HO1152.out) hkp (fun k_ hk_ hs_ => Or.elim hs_ (fun e_ => (hk_.1.1.1.2) e_) (fun e_ => (hk_.1.1.2) e_))) (fun k_ hk_ => ⟨hk_.1.1.1.1.1.1.1.2, hk_.1.1.1.1.1.1.2, hk_.1.1.1.1.1.2, hk_.1.1.1.1.2, hk_.1.1.1.2, hk_.1.1.2, hk_.1.2⟩)); have n8_ := Aside0.mk (Kd.R_mono (ok' := fun k_ => some k_ ≠ (.slice Ao23 t1134.length co23 : Value).ownBlock ∧ some k_ ≠ (.slice Ao24 t1137.length co24 : Value).ownBlock ∧ some k_ ≠ (.slice Ao35 t1140.length co35 : Value).ownBlock ∧ some k_ ≠ (.slice Ao29 t1143.length co29 : Value).ownBlock ∧ some k_ ≠ (.slice Ao32 t1146.length co32 : Value).ownBlock ∧ some k_ ≠ (.slice Ao34 t1150.length co34 : Value).ownBlock ∧ some k_ ≠ (.slice Ao39 t1157.length co39 : Value).ownBlock) (Kd.R_keptB (HO1156.out) hkp (fun k_ hk_ hs_ => Or.elim hs_ (fun e_ => (hk_.1.1.2) e_) (fun e_ => (hk_.1.2) e_))) (fun k_ hk_ => ⟨hk_.1.1.1.1.1.1.2, hk_.1.1.1.1.1.2, hk_.1.1.1.1.2, hk_.1.1.1.2, hk_.1.1.2, hk_.1.2, hk_.1.1.1.1.1.1.1⟩)); have n9_ := Aside0.mk (Kd.R_mono (ok' := fun k_ => some k_ ≠ (.slice Ao23 t1134.length co23 : Value).ownBlock ∧ some k_ ≠ (.slice Ao24 t1137.length co24 : Value).ownBlock ∧ some k_ ≠ (.slice Ao35 t1140.length co35 : Value).ownBlock ∧ some k_ ≠ (.slice Ao29 t1143.length co29 : Value).ownBlock ∧ some k_ ≠ (.slice Ao32 t1146.length co32 : Value).ownBlock ∧ some k_ ≠ (.slice Ao34 t1150.length co34 : Value).ownBlock ∧ some k_ ≠ (.slice Ao38 t1154.length co38 : Value).ownBlock) (Kd.R_keptB (HO1159.out) hkp (fun k_ hk_ hs_ => Or.elim hs_ (fun e_ => (hk_.1.1.2) e_) (fun e_ => (hk_.1.2) e_))) (fun k_ hk_ => ⟨hk_.1.1.1.1.1.1.2, hk_.1.1.1.1.1.2, hk_.1.1.1.1.2, hk_.1.1.1.2, hk_.1.1.2, hk_.1.2, hk_.1.1.1.1.1.1.1⟩)); have n10_ := Aside0.mk (hb); clear BK1132; clear HO1136; clear HO1139; clear HO1142; clear HO1145; clear HO1148; clear BK1149; clear HO1152; clear HO1156; clear HO1159; clear HB; have BK1132 := n0_; have HO1136 := n1_; have HO1139 := n2_; have HO1142 := n3_; have HO1145 := n4_; have HO1148 := n5_; have BK1149 := n6_; have HO1152 := n7_; have HO1156 := n8_; have HO1159 := n9_; have HB := n10_; clear n0_ n1_ n2_ n3_ n4_ n5_ n6_ n7_ n8_ n9_ n10_; (try clear hb); (try clear hkp); (try clear hy0); (try clear hy1)))
    (try simp only [Act.put, List.setIfInBounds_toArray, List.set_cons_zero, List.set_cons_succ])
    go_cut [42] (fun v42 wc => ∃ (kq : Nat) (x42_16 : Bool), v42 = .bool x42_16 ∧ Aside0 (laws_FnExactAnglesOf.j0 kq t1140 t1150 x42_16 l0_0 l0_1 = some true) ∧ Aside0 (kq ≤ k) ∧ Aside0 (Kd.R (Kd.int .i64) 3 wc w.heap.size (fun k_ => some k_ ≠ ((.slice Ao34 t1150.length co34) : Value).ownBlock ∧ some k_ ≠ ((.slice Ao29 t1143.length co29) : Value).ownBlock ∧ some k_ ≠ ((.slice Ao32 t1146.length co32) : Value).ownBlock) (.slice Ao35 t1140.length co35) t1140) ∧ Aside0 (Kd.R (Kd.int .i64) 3 wc w.heap.size (fun k_ => some k_ ≠ ((.slice Ao35 t1140.length co35) : Value).ownBlock ∧ some k_ ≠ ((.slice Ao29 t1143.length co29) : Value).ownBlock ∧ some k_ ≠ ((.slice Ao32 t1146.length co32) : Value).ownBlock) (.slice Ao34 t1150.length co34) t1150) ∧ Aside0 (Kd.R (Kd.int .i64) 3 wc w.heap.size (fun k_ => some k_ ≠ ((.slice Ao35 t1140.length co35) : Value).ownBlock ∧ some k_ ≠ ((.slice Ao34 t1150.length co34) : Value).ownBlock ∧ some k_ ≠ ((.slice Ao32 t1146.length co32) : Value).ownBlock) (.slice Ao29 t1143.length co29) t1162) ∧ Aside0 (Kd.R (Kd.int .i64) 3 wc w.heap.size (fun k_ => some k_ ≠ ((.slice Ao35 t1140.length co35) : Value).ownBlock ∧ some k_ ≠ ((.slice Ao34 t1150.length co34) : Value).ownBlock ∧ some k_ ≠ ((.slice Ao29 t1143.length co29) : Value).ownBlock) (.slice Ao32 t1146.length co32) t1163) ∧ Aside0 (wc.heap[gb1132]? = some (.cells #[(.slice A0_0 l0_0.length c0_0), (.slice A0_1 l0_1.length c0_1)] 24 (0, 0))) ∧ Aside0 (wc.heap[gb1149]? = some (.cells #[(.slice Ao29 t1143.length co29), (.slice Ao32 t1146.length co32)] 27 (0, 0))) ∧ Aside0 (Below w.heap.size w wc))
    case first =>
     have H := HC17.out
     clear HC17
     by_cases c43 : t1161 < 0
     ·rw [if_pos c43] at H
      have c43b0 : decide (t1161 < 0) = true := decide_eq_true c43
      clear c43
      (first | rw [c43b0] | (simp only [i64_w, i32_w]; rw [c43b0]) | skip)
      cases k with
      | zero => rw [laws_FnExactAnglesOf.j0] at H; exact absurd H (by simp)
      | succ k_ => rw [laws_FnExactAnglesOf.j0, if_pos rfl] at H; exact absurd H (by simp)
     ·rw [if_neg c43] at H
      have c43b0 : decide (t1161 < 0) = false := decide_eq_false c43
      clear c43
      (first | rw [c43b0] | (simp only [i64_w, i32_w]; rw [c43b0]) | skip)
      replace H := Option.bind_eq_some_iff.mp H
      obtain ⟨t1164, A440, H⟩ := H
      replace H : (laws_FnExactAnglesOf.j0 k t1140 t1150 (!t1164) l0_0 l0_1) = some true := H
      have A44 := Aside0.mk A440
      clear A440
      have H' := Aside0.mk H
      clear H
      go_wp2_with (first | (go_at_call 36; (with_reducible refine (laws_eqIntS.calls k _ _ t1150 _ _ t1140 t1164 _ ?side1 ?side2 ?side3 ?side4 A44.out).mono ?_); (case side1 => repeat (first | exact (Kd.R_reads' HO1152.out).2.2 | (with_reducible refine Kd.C_alloc ?_ _) | (with_reducible refine Kd.C_drewN ?_ _) | (with_reducible refine Kd.C_drew ?_))); (case side2 => exact (Kd.R_reads' HO1152.out).2.1); (case side3 => repeat (first | exact (Kd.R_reads' HO1142.out).2.2 | (with_reducible refine Kd.C_alloc ?_ _) | (with_reducible refine Kd.C_drewN ?_ _) | (with_reducible refine Kd.C_drew ?_))); (case side4 => exact (Kd.R_reads' HO1142.out).2.1); rintro e w' ⟨rfl, ⟨nd, rfl⟩⟩))
      go_meet
      case rel => exact ⟨_, (!t1164), (by first | rfl | (simp; done) | (simp [*]; done)), H', ⟨by first | omega | exact Nat.le_refl _⟩, ⟨by (with_reducible repeat (first | apply Kd.R_alloc | apply Kd.R_drewN | apply Kd.R_drew)); exact Kd.R_mono HO1142.out (fun _ hk => ⟨hk.2.2.2.2.1, ⟨hk.2.2.1, hk.2.2.2.1⟩⟩)⟩, ⟨by (with_reducible repeat (first | apply Kd.R_alloc | apply Kd.R_drewN | apply Kd.R_drew)); exact Kd.R_mono HO1152.out (fun _ hk => ⟨hk.2.2.1, ⟨hk.2.2.2.1, hk.2.2.2.2.1⟩⟩)⟩, ⟨by (with_reducible repeat (first | apply Kd.R_alloc | apply Kd.R_drewN | apply Kd.R_drew)); exact Kd.R_mono HO1145.out (fun _ hk => ⟨hk.1.1.1.2, ⟨hk.1.1.2, hk.1.1.1.1.1.1⟩⟩)⟩, ⟨by (with_reducible repeat (first | apply Kd.R_alloc | apply Kd.R_drewN | apply Kd.R_drew)); exact Kd.R_mono HO1148.out (fun _ hk => ⟨hk.1.1.1.2, ⟨hk.1.1.2, hk.1.1.1.1.1.1⟩⟩)⟩, ⟨by (with_reducible repeat (first | refine blk_drewN ?_ _ | refine blk_drew ?_ | refine blk_alloc ?_ _)); exact BK1132.out⟩, ⟨by (with_reducible repeat (first | refine blk_drewN ?_ _ | refine blk_drew ?_ | refine blk_alloc ?_ _)); exact BK1149.out⟩, ⟨by repeat (first | (with_reducible first | exact HB.out | apply below_alloc | apply pw_below_drewN | apply below_drew1 | refine below_set ?_ GE1132.out | refine below_set ?_ GE1149.out) | exact HB.out)⟩⟩
    case rest =>
     clear HC17
     try clear c1
     try clear c2
     try clear p2
     try clear c3
     try clear c3b0
     try clear c4
     try clear c10
     try clear c12
     try clear c14
     try clear c15
     try clear c16
     try clear c20
     try clear c30
     try clear c34
     try clear c35
     try clear c36
     try clear c43
     try clear c43b0
     try clear hcz19_0
     try clear hcz19_1
     try clear hcz21_0
     try clear hcz21_1
     try clear hcz26_0
     try clear hcz26_1
     try clear hcz31_0
     try clear hcz31_1
     try clear hcz41_0
     try clear hcz41_1
     try clear hcz5_0
     try clear hcz5_1
     try clear hfz19_0
     try clear hfz19_1
     try clear hfz21_0
     try clear hfz21_1
     try clear hfz26_0
     try clear hfz26_1
     try clear hfz31_0
     try clear hfz31_1
     try clear hfz41_0
     try clear hfz41_1
     try clear hfz5_0
     try clear hfz5_1
     obtain ⟨kq, x42_16, rfl, HA, HJ16, HO_4, HO_6, HO_1150000, HO_1150001, BK1132, BK1149, HB⟩ := hcut
     have hl1150000_16 := (Kd.R_reads' HO_1150000.out).1
     rw [hl1150000_16] at HO_1150000
     (try simp only [hl1150000_16])
     (try simp only [hl1150000_16] at BK1132)
     (try simp only [hl1150000_16] at BK1149)
     (try simp only [hl1150000_16] at HO_4)
     (try simp only [hl1150000_16] at HO_6)
     (try simp only [hl1150000_16] at HO_1150001)
     have hl1150001_16 := (Kd.R_reads' HO_1150001.out).1
     rw [hl1150001_16] at HO_1150001
     (try simp only [hl1150001_16])
     (try simp only [hl1150001_16] at BK1132)
     (try simp only [hl1150001_16] at BK1149)
     (try simp only [hl1150001_16] at HO_4)
     (try simp only [hl1150001_16] at HO_6)
     (try simp only [hl1150001_16] at HO_1150000)
     cases kq with
     | zero => exact absurd HA.out (by simp [laws_FnExactAnglesOf.j0])
     | succ kj16 =>
      have H := HA.out
      clear HA
      simp only [laws_FnExactAnglesOf.j0] at H
      by_cases c45 : x42_16 = true
      ·subst c45
       have H1 : (some false) = some true := by rw [if_pos rfl] at H; exact H
       clear H
       have H := H1
       clear H1
       exact absurd H (by simp)
      ·replace c45 := Bool.eq_false_iff.mpr c45
       subst c45
       have H1 : ((laws_markIntS.f kj16 t1150 1).bind fun bt1165 => ((laws_heldIntS.f kj16 bt1165.2 1).bind fun t1167 => (if t1167 < 0 then (some false) else (if t1167 = bt1165.1 then ((laws_toSurface.f kj16 l0_0 l0_1).bind fun bt1168 => ((impl_AnglesOf.f kj16 bt1168.1 bt1168.2).bind fun t1174 => ((laws_eqIntS.f kj16 t1174 t1140).bind fun t1177 => (if t1177 = true then ((laws_heldIntS.f kj16 bt1165.2 1).bind fun t1178 => (if t1178 < 0 then (some false) else (if t1178 = bt1165.1 then (some true) else (some false)))) else (some false))))) else (some false))))) = some true := by rw [if_neg (show ¬ (false = true) by decide)] at H; exact H
       clear H
       have H := H1
       clear H1
       replace H := Option.bind_eq_some_iff.mp H
       obtain ⟨⟨t1165, t1166⟩, A460, H⟩ := H
       replace H : ((laws_heldIntS.f kj16 t1166 1).bind fun t1167 => (if t1167 < 0 then (some false) else (if t1167 = t1165 then ((laws_toSurface.f kj16 l0_0 l0_1).bind fun bt1168 => ((impl_AnglesOf.f kj16 bt1168.1 bt1168.2).bind fun t1174 => ((laws_eqIntS.f kj16 t1174 t1140).bind fun t1177 => (if t1177 = true then ((laws_heldIntS.f kj16 t1166 1).bind fun t1178 => (if t1178 < 0 then (some false) else (if t1178 = t1165 then (some true) else (some false)))) else (some false))))) else (some false)))) = some true := H
       have A46 := Aside0.mk A460
       clear A460
       replace H := Option.bind_eq_some_iff.mp H
       obtain ⟨t1167, A470, H⟩ := H
       replace H : (if t1167 < 0 then (some false) else (if t1167 = t1165 then ((laws_toSurface.f kj16 l0_0 l0_1).bind fun bt1168 => ((impl_AnglesOf.f kj16 bt1168.1 bt1168.2).bind fun t1174 => ((laws_eqIntS.f kj16 t1174 t1140).bind fun t1177 => (if t1177 = true then ((laws_heldIntS.f kj16 t1166 1).bind fun t1178 => (if t1178 < 0 then (some false) else (if t1178 = t1165 then (some true) else (some false)))) else (some false))))) else (some false))) = some true := H
       have A47 := Aside0.mk A470
       clear A470
       by_cases c48 : t1167 < 0
       ·rw [if_pos c48] at H
        have c48b0 : decide (t1167 < 0) = true := decide_eq_true c48
        clear c48
        exact absurd H (by simp)
       ·rw [if_neg c48] at H
        have c48b0 : decide (t1167 < 0) = false := decide_eq_false c48
        clear c48
        by_cases c50 : t1167 = t1165
        ·rw [if_pos c50] at H
         have c50b0 : (t1167 == t1165) = true := beq_iff_eq.mpr c50
         have c50b1 : (t1167 != t1165) = false := bne_eq_false_iff_eq.mpr c50
         clear c50
         replace H := Option.bind_eq_some_iff.mp H
         obtain ⟨⟨t1168, t1171⟩, A510, H⟩ := H
         replace H : ((impl_AnglesOf.f kj16 t1168 t1171).bind fun t1174 => ((laws_eqIntS.f kj16 t1174 t1140).bind fun t1177 => (if t1177 = true then ((laws_heldIntS.f kj16 t1166 1).bind fun t1178 => (if t1178 < 0 then (some false) else (if t1178 = t1165 then (some true) else (some false)))) else (some false)))) = some true := H
         have A51 := Aside0.mk A510
         clear A510
         replace H := Option.bind_eq_some_iff.mp H
         obtain ⟨t1174, A520, H⟩ := H
         replace H : ((laws_eqIntS.f kj16 t1174 t1140).bind fun t1177 => (if t1177 = true then ((laws_heldIntS.f kj16 t1166 1).bind fun t1178 => (if t1178 < 0 then (some false) else (if t1178 = t1165 then (some true) else (some false)))) else (some false))) = some true := H
         have A52 := Aside0.mk A520
         clear A520
         replace H := Option.bind_eq_some_iff.mp H
         obtain ⟨t1177, A530, H⟩ := H
         replace H : (if t1177 = true then ((laws_heldIntS.f kj16 t1166 1).bind fun t1178 => (if t1178 < 0 then (some false) else (if t1178 = t1165 then (some true) else (some false)))) else (some false)) = some true := H
         have A53 := Aside0.mk A530
         clear A530
         by_cases c54 : t1177 = true
         ·subst c54
          have H1 : ((laws_heldIntS.f kj16 t1166 1).bind fun t1178 => (if t1178 < 0 then (some false) else (if t1178 = t1165 then (some true) else (some false)))) = some true := by rw [if_pos rfl] at H; exact H
          clear H
          have H := H1
          clear H1
          replace H := Option.bind_eq_some_iff.mp H
          obtain ⟨t1178, A550, H⟩ := H
          replace H : (if t1178 < 0 then (some false) else (if t1178 = t1165 then (some true) else (some false))) = some true := H
          have A55 := Aside0.mk A550
          clear A550
          by_cases c56 : t1178 < 0
          ·rw [if_pos c56] at H
           have c56b0 : decide (t1178 < 0) = true := decide_eq_true c56
           clear c56
           exact absurd H (by simp)
          ·rw [if_neg c56] at H
           have c56b0 : decide (t1178 < 0) = false := decide_eq_false c56
           clear c56
           by_cases c65 : t1178 = t1165
           ·rw [if_pos c65] at H
            have c65b0 : (t1178 == t1165) = true := beq_iff_eq.mpr c65
            have c65b1 : (t1178 != t1165) = false := bne_eq_false_iff_eq.mpr c65
            clear c65
            go_wp2_with (first | ((with_reducible refine gate_callee (f := 37) rfl ?_); refine goesL_ (some 45) rfl rfl Try.func37 (by kernel_rfl) rfl #[.slice Ao34 t1150.length co34, .int .i64 1] rfl (by (try simp only [List.map_toArray, List.map_cons, List.map_nil]); first | done | rfl | (simp only [List.length_drop, List.length_take]; rfl)) ?_; (with_reducible refine (laws_markIntS.calls kj16 (fun k_ => some k_ = (.slice Ao34 t1150.length co34 : Value).ownBlock) (.slice Ao34 t1150.length co34) t1150 1 t1165 t1166 w _ ?side1 ?side2 A46.out).mono ?_); (case side1 => repeat (first | (with_reducible first | exact HB.out | apply below_alloc | apply pw_below_drewN | apply below_drew1 | refine below_set ?_ GE1132.out | refine below_set ?_ GE1149.out) | exact HB.out)); (case side2 => exact Kd.R_tight rfl HO_6.out); rintro e w66 ⟨rfl, hy0, hb, hkp⟩; refine ⟨_, rfl, ?_⟩; have n0_ := Aside0.mk (Kd.R_mono (ok' := fun k_ => some k_ ≠ (.slice Ao34 t1150.length co34 : Value).ownBlock ∧ some k_ ≠ (.slice Ao29 t1162.length co29 : Value).ownBlock ∧ some k_ ≠ (.slice Ao32 t1163.length co32 : Value).ownBlock) (Kd.R_keptB (HO_4.out) hkp (fun k_ hk_ hs_ => (hk_.1) hs_)) (fun k_ hk_ => ⟨hk_.1.1, hk_.1.2.1, hk_.1.2.2⟩)); have n1_ := Aside0.mk (Kd.R_reok rfl hy0 (fun k_ e_ => HO_6.out.1 k_ e_)); have n2_ := Aside0.mk (Kd.R_mono (ok' := fun k_ => some k_ ≠ (.slice Ao35 t1140.length co35 : Value).ownBlock ∧ some k_ ≠ (.slice Ao34 t1150.length co34 : Value).ownBlock ∧ some k_ ≠ (.slice Ao32 t1163.length co32 : Value).ownBlock) (Kd.R_keptB (HO_1150000.out) hkp (fun k_ hk_ hs_ => (hk_.2.1) hs_)) (fun k_ hk_ => ⟨hk_.1.1, hk_.1.2.1, hk_.1.2.2⟩)); have n3_ := Aside0.mk (Kd.R_mono (ok' := fun k_ => some k_ ≠ (.slice Ao35 t1140.length co35 : Value).ownBlock ∧ some k_ ≠ (.slice Ao34 t1150.length co34 : Value).ownBlock ∧ some k_ ≠ (.slice Ao29 t1162.length co29 : Value).ownBlock) (Kd.R_keptB (HO_1150001.out) hkp (fun k_ hk_ hs_ => (hk_.2.1) hs_)) (fun k_ hk_ => ⟨hk_.1.1, hk_.1.2.1, hk_.1.2.2⟩)); have n4_ := Aside0.mk (blk_kept (by (with_reducible repeat (first | refine blk_drewN ?_ _ | refine blk_drew ?_ | refine blk_alloc ?_ _)); exact BK1132.out) hkp (fun hs_ => (fun e_ => (Kd.R_ne HO_6.out BK1132.out (by decide)) e_) hs_)); have n5_ := Aside0.mk (blk_kept (by (with_reducible repeat (first | refine blk_drewN ?_ _ | refine blk_drew ?_ | refine blk_alloc ?_ _)); exact BK1149.out) hkp (fun hs_ => (fun e_ => (Kd.R_ne HO_6.out BK1149.out (by decide)) e_) hs_)); have n6_ := Aside0.mk (hb); clear HO_4; clear HO_6; clear HO_1150000; clear HO_1150001; clear BK1132; clear BK1149; clear HB; have HO_4 := n0_; have HO_6 := n1_; have HO_1150000 := n2_; have HO_1150001 := n3_; have BK1132 := n4_; have BK1149 := n5_; have HB := n6_; clear n0_ n1_ n2_ n3_ n4_ n5_ n6_; (try clear hb); (try clear hkp); (try clear hy0)) | ((with_reducible refine gate_callee (f := 38) rfl ?_); refine goesL_ (some 48) rfl rfl Try.func38 (by kernel_rfl) rfl #[.slice Ao34 t1166.length co34, .int .i64 1] rfl (by (try simp only [List.map_toArray, List.map_cons, List.map_nil]); first | done | (rw [show t1166.length = t1150.length from (Kd.R_reads' HO_6.out).1.symm] <;> rfl) | rfl | (simp only [List.length_drop, List.length_take]; rfl)) ?_; (with_reducible refine (laws_heldIntS.calls kj16 _ _ t1166 1 t1167 _ ?side1 ?side2 A47.out).mono ?_); (case side1 => repeat (first | exact (Kd.R_reads' HO_6.out).2.2 | (with_reducible refine Kd.C_alloc ?_ _) | (with_reducible refine Kd.C_drewN ?_ _) | (with_reducible refine Kd.C_drew ?_))); (case side2 => rw [show t1166.length = t1150.length from (Kd.R_reads' HO_6.out).1.symm]; exact (Kd.R_reads' HO_6.out).2.1); rintro e w' ⟨rfl, ⟨nd, rfl⟩⟩; refine ⟨_, rfl, ?_⟩; have hnb67 := NB1132_1149.out; have hnc67 := NB1149_1132.out; have hcz68_0 : w66.cell? ⟨gb1132, 0, none⟩ = some (.slice A0_0 l0_0.length c0_0) := (blk_cell BK1132.out 0).trans rfl; have hcz68_1 : w66.cell? ⟨gb1132, 1, none⟩ = some (.slice A0_1 l0_1.length c0_1) := (blk_cell BK1132.out 1).trans rfl; have hfz68_0 := blk_frozen BK1132.out 0; have hfz68_1 := blk_frozen BK1132.out 1) | ((with_reducible refine gate_callee (f := 14) rfl ?_); refine goesL_ (some 55) rfl rfl Try.func14 (by kernel_rfl) rfl #[.agg #[.slice A0_0 l0_0.length c0_0, .slice A0_1 l0_1.length c0_1]] rfl (by (try simp only [List.map_toArray, List.map_cons, List.map_nil]); first | done | rfl | (simp only [List.length_drop, List.length_take]; rfl)) ?_; (with_reducible refine (laws_toSurface.calls kj16 _ _ l0_0 _ _ l0_1 t1168 t1171 _ ?side1 ?side2 ?side3 ?side4 A51.out).mono ?_); (case side1 => repeat (first | exact (Kd.C_below HR0_0.out (by repeat (first | (with_reducible first | exact HB.out | apply below_alloc | apply pw_below_drewN | apply below_drew1 | refine below_set ?_ GE1132.out | refine below_set ?_ GE1149.out) | exact HB.out))) | (with_reducible refine Kd.C_alloc ?_ _) | (with_reducible refine Kd.C_drewN ?_ _) | (with_reducible refine Kd.C_drew ?_))); (case side2 => exact HC0_0.out); (case side3 => repeat (first | exact (Kd.C_below HR0_1.out (by repeat (first | (with_reducible first | exact HB.out | apply below_alloc | apply pw_below_drewN | apply below_drew1 | refine below_set ?_ GE1132.out | refine below_set ?_ GE1149.out) | exact HB.out))) | (with_reducible refine Kd.C_alloc ?_ _) | (with_reducible refine Kd.C_drewN ?_ _) | (with_reducible refine Kd.C_drew ?_))); (case side4 => exact HC0_1.out); rintro e w69 ⟨v1169, v1172, rfl, ho0, ho1, hb⟩; refine ⟨_, rfl, ?_⟩; have n0_ := Aside0.mk (Kd.R_mono (Kd.R_told (Kd.R_told (Kd.R_old (by (with_reducible repeat (first | apply Kd.R_alloc | apply Kd.R_drewN | apply Kd.R_drew)); exact HO_4.out) hb) (Kd.R_base ho0)) (Kd.R_base ho1)) (fun _ h_ => h_.1)); have n1_ := Aside0.mk (Kd.R_mono (Kd.R_told (Kd.R_told (Kd.R_old (by (with_reducible repeat (first | apply Kd.R_alloc | apply Kd.R_drewN | apply Kd.R_drew)); exact HO_6.out) hb) (Kd.R_base ho0)) (Kd.R_base ho1)) (fun _ h_ => h_.1)); have n2_ := Aside0.mk (Kd.R_mono (Kd.R_told (Kd.R_told (Kd.R_old (by (with_reducible repeat (first | apply Kd.R_alloc | apply Kd.R_drewN | apply Kd.R_drew)); exact HO_1150000.out) hb) (Kd.R_base ho0)) (Kd.R_base ho1)) (fun _ h_ => h_.1)); have n3_ := Aside0.mk (Kd.R_mono (Kd.R_told (Kd.R_told (Kd.R_old (by (with_reducible repeat (first | apply Kd.R_alloc | apply Kd.R_drewN | apply Kd.R_drew)); exact HO_1150001.out) hb) (Kd.R_base ho0)) (Kd.R_base ho1)) (fun _ h_ => h_.1)); have n4_ := Aside0.mk (Kd.R_lower (Kd.R_new' (Kd.R_new' (Kd.R_new' (Kd.R_new' ho0 (Kd.R_lt (by (with_reducible repeat (first | apply Kd.R_alloc | apply Kd.R_drewN | apply Kd.R_drew)); exact HO_4.out))) (Kd.R_lt (by (with_reducible repeat (first | apply Kd.R_alloc | apply Kd.R_drewN | apply Kd.R_drew)); exact HO_6.out))) (Kd.R_lt (by (with_reducible repeat (first | apply Kd.R_alloc | apply Kd.R_drewN | apply Kd.R_drew)); exact HO_1150000.out))) (Kd.R_lt (by (with_reducible repeat (first | apply Kd.R_alloc | apply Kd.R_drewN | apply Kd.R_drew)); exact HO_1150001.out))) (below_size (by repeat (first | (with_reducible first | exact HB.out | apply below_alloc | apply pw_below_drewN | apply below_drew1 | refine below_set ?_ GE1132.out | refine below_set ?_ GE1149.out) | exact HB.out)))); have n5_ := Aside0.mk (Kd.R_lower (Kd.R_new' (Kd.R_new' (Kd.R_new' (Kd.R_new' ho1 (Kd.R_lt (by (with_reducible repeat (first | apply Kd.R_alloc | apply Kd.R_drewN | apply Kd.R_drew)); exact HO_4.out))) (Kd.R_lt (by (with_reducible repeat (first | apply Kd.R_alloc | apply Kd.R_drewN | apply Kd.R_drew)); exact HO_6.out))) (Kd.R_lt (by (with_reducible repeat (first | apply Kd.R_alloc | apply Kd.R_drewN | apply Kd.R_drew)); exact HO_1150000.out))) (Kd.R_lt (by (with_reducible repeat (first | apply Kd.R_alloc | apply Kd.R_drewN | apply Kd.R_drew)); exact HO_1150001.out))) (below_size (by repeat (first | (with_reducible first | exact HB.out | apply below_alloc | apply pw_below_drewN | apply below_drew1 | refine below_set ?_ GE1132.out | refine below_set ?_ GE1149.out) | exact HB.out)))); have n6_ := Aside0.mk (blk_below (g := gb1132) (o := .cells #[.slice A0_0 l0_0.length c0_0, .slice A0_1 l0_1.length c0_1] 24 (0, 0)) (by (with_reducible repeat (first | refine blk_drewN ?_ _ | refine blk_drew ?_ | refine blk_alloc ?_ _)); exact BK1132.out) hb); have n7_ := Aside0.mk (blk_below (g := gb1149) (o := .cells #[.slice Ao29 t1162.length co29, .slice Ao32 t1163.length co32] 27 (0, 0)) (by (with_reducible repeat (first | refine blk_drewN ?_ _ | refine blk_drew ?_ | refine blk_alloc ?_ _)); exact BK1149.out) hb); have n8_ := Aside0.mk (below_step (by repeat (first | (with_reducible first | exact HB.out | apply below_alloc | apply pw_below_drewN | apply below_drew1 | refine below_set ?_ GE1132.out | refine below_set ?_ GE1149.out) | exact HB.out)) hb); clear HO_4; clear HO_6; clear HO_1150000; clear HO_1150001; clear BK1132; clear BK1149; clear HB; have HO_4 := n0_; have HO_6 := n1_; have HO_1150000 := n2_; have HO_1150001 := n3_; have HO1170 := n4_; have HO1173 := n5_; have BK1132 := n6_; have BK1149 := n7_; have HB := n8_; clear n0_ n1_ n2_ n3_ n4_ n5_ n6_ n7_ n8_; (try clear hb); (try clear hb2); (try clear hk); (try clear hi); (try clear ho0); (try clear ho1); obtain ⟨Ao70, co70, eo70⟩ := Kd.R_slice HO1170.out; subst eo70; obtain ⟨Ao71, co71, eo71⟩ := Kd.R_slice HO1173.out; subst eo71) | ((with_reducible refine gate_callee (f := 35) rfl ?_); refine goesL_ (some 56) rfl rfl Try.func35 (by kernel_rfl) rfl #[.agg #[.slice Ao70 t1168.length co70, .slice Ao71 t1171.length co71]] rfl (by (try simp only [List.map_toArray, List.map_cons, List.map_nil]); first | done | rfl | (simp only [List.length_drop, List.length_take]; rfl)) ?_; (with_reducible refine (impl_AnglesOf.calls kj16 _ _ t1168 _ _ t1171 t1174 _ ?side1 ?side2 ?side3 ?side4 A52.out).mono ?_); (case side1 => repeat (first | exact (Kd.R_reads' HO1170.out).2.2 | (with_reducible refine Kd.C_alloc ?_ _) | (with_reducible refine Kd.C_drewN ?_ _) | (with_reducible refine Kd.C_drew ?_))); (case side2 => exact (Kd.R_reads' HO1170.out).2.1); (case side3 => repeat (first | exact (Kd.R_reads' HO1173.out).2.2 | (with_reducible refine Kd.C_alloc ?_ _) | (with_reducible refine Kd.C_drewN ?_ _) | (with_reducible refine Kd.C_drew ?_))); (case side4 => exact (Kd.R_reads' HO1173.out).2.1); rintro e w72 ⟨v1175, rfl, ho0, hb⟩; refine ⟨_, rfl, ?_⟩; have n0_ := Aside0.mk (Kd.R_elder' (by (with_reducible repeat (first | apply Kd.R_alloc | apply Kd.R_drewN | apply Kd.R_drew)); exact HO_4.out) (Kd.R_base ho0) hb); have n1_ := Aside0.mk (Kd.R_elder' (by (with_reducible repeat (first | apply Kd.R_alloc | apply Kd.R_drewN | apply Kd.R_drew)); exact HO_6.out) (Kd.R_base ho0) hb); have n2_ := Aside0.mk (Kd.R_elder' (by (with_reducible repeat (first | apply Kd.R_alloc | apply Kd.R_drewN | apply Kd.R_drew)); exact HO_1150000.out) (Kd.R_base ho0) hb); have n3_ := Aside0.mk (Kd.R_elder' (by (with_reducible repeat (first | apply Kd.R_alloc | apply Kd.R_drewN | apply Kd.R_drew)); exact HO_1150001.out) (Kd.R_base ho0) hb); have n4_ := Aside0.mk (Kd.R_elder' (by (with_reducible repeat (first | apply Kd.R_alloc | apply Kd.R_drewN | apply Kd.R_drew)); exact HO1170.out) (Kd.R_base ho0) hb); have n5_ := Aside0.mk (Kd.R_elder' (by (with_reducible repeat (first | apply Kd.R_alloc | apply Kd.R_drewN | apply Kd.R_drew)); exact HO1173.out) (Kd.R_base ho0) hb); have n6_ := Aside0.mk (Kd.R_lower (Kd.R_new' (Kd.R_new' (Kd.R_new' (Kd.R_new' (Kd.R_new' (Kd.R_new' ho0 (Kd.R_lt (by (with_reducible repeat (first | apply Kd.R_alloc | apply Kd.R_drewN | apply Kd.R_drew)); exact HO_4.out))) (Kd.R_lt (by (with_reducible repeat (first | apply Kd.R_alloc | apply Kd.R_drewN | apply Kd.R_drew)); exact HO_6.out))) (Kd.R_lt (by (with_reducible repeat (first | apply Kd.R_alloc | apply Kd.R_drewN | apply Kd.R_drew)); exact HO_1150000.out))) (Kd.R_lt (by (with_reducible repeat (first | apply Kd.R_alloc | apply Kd.R_drewN | apply Kd.R_drew)); exact HO_1150001.out))) (Kd.R_lt (by (with_reducible repeat (first | apply Kd.R_alloc | apply Kd.R_drewN | apply Kd.R_drew)); exact HO1170.out))) (Kd.R_lt (by (with_reducible repeat (first | apply Kd.R_alloc | apply Kd.R_drewN | apply Kd.R_drew)); exact HO1173.out))) (below_size (by repeat (first | (with_reducible first | exact HB.out | apply below_alloc | apply pw_below_drewN | apply below_drew1 | refine below_set ?_ GE1132.out | refine below_set ?_ GE1149.out) | exact HB.out)))); have n7_ := Aside0.mk (blk_below (g := gb1132) (o := .cells #[.slice A0_0 l0_0.length c0_0, .slice A0_1 l0_1.length c0_1] 24 (0, 0)) (by (with_reducible repeat (first | refine blk_drewN ?_ _ | refine blk_drew ?_ | refine blk_alloc ?_ _)); exact BK1132.out) hb); have n8_ := Aside0.mk (blk_below (g := gb1149) (o := .cells #[.slice Ao29 t1162.length co29, .slice Ao32 t1163.length co32] 27 (0, 0)) (by (with_reducible repeat (first | refine blk_drewN ?_ _ | refine blk_drew ?_ | refine blk_alloc ?_ _)); exact BK1149.out) hb); have n9_ := Aside0.mk (below_step (by repeat (first | (with_reducible first | exact HB.out | apply below_alloc | apply pw_below_drewN | apply below_drew1 | refine below_set ?_ GE1132.out | refine below_set ?_ GE1149.out) | exact HB.out)) hb); clear HO_4; clear HO_6; clear HO_1150000; clear HO_1150001; clear HO1170; clear HO1173; clear BK1132; clear BK1149; clear HB; have HO_4 := n0_; have HO_6 := n1_; have HO_1150000 := n2_; have HO_1150001 := n3_; have HO1170 := n4_; have HO1173 := n5_; have HO1176 := n6_; have BK1132 := n7_; have BK1149 := n8_; have HB := n9_; clear n0_ n1_ n2_ n3_ n4_ n5_ n6_ n7_ n8_ n9_; (try clear hb); (try clear hb2); (try clear hk); (try clear hi); (try clear ho0); obtain ⟨Ao73, co73, eo73⟩ := Kd.R_slice HO1176.out; subst eo73) | ((with_reducible refine gate_callee (f := 36) rfl ?_); refine goesL_ (some 59) rfl rfl Try.func36 (by kernel_rfl) rfl #[.slice Ao73 t1174.length co73, .slice Ao35 t1140.length co35] rfl (by (try simp only [List.map_toArray, List.map_cons, List.map_nil]); first | done | rfl | (simp only [List.length_drop, List.length_take]; rfl)) ?_; (with_reducible refine (laws_eqIntS.calls kj16 _ _ t1174 _ _ t1140 true _ ?side1 ?side2 ?side3 ?side4 A53.out).mono ?_); (case side1 => repeat (first | exact (Kd.R_reads' HO1176.out).2.2 | (with_reducible refine Kd.C_alloc ?_ _) | (with_reducible refine Kd.C_drewN ?_ _) | (with_reducible refine Kd.C_drew ?_))); (case side2 => exact (Kd.R_reads' HO1176.out).2.1); (case side3 => repeat (first | exact (Kd.R_reads' HO_4.out).2.2 | (with_reducible refine Kd.C_alloc ?_ _) | (with_reducible refine Kd.C_drewN ?_ _) | (with_reducible refine Kd.C_drew ?_))); (case side4 => exact (Kd.R_reads' HO_4.out).2.1); rintro e w' ⟨rfl, ⟨nd, rfl⟩⟩; refine ⟨_, rfl, ?_⟩) | ((with_reducible refine gate_callee (f := 38) rfl ?_); refine goesL_ (some 63) rfl rfl Try.func38 (by kernel_rfl) rfl #[.slice Ao34 t1166.length co34, .int .i64 1] rfl (by (try simp only [List.map_toArray, List.map_cons, List.map_nil]); first | done | (rw [show t1166.length = t1150.length from (Kd.R_reads' HO_6.out).1.symm] <;> rfl) | rfl | (simp only [List.length_drop, List.length_take]; rfl)) ?_; (with_reducible refine (laws_heldIntS.calls kj16 _ _ t1166 1 t1178 _ ?side1 ?side2 A55.out).mono ?_); (case side1 => repeat (first | exact (Kd.R_reads' HO_6.out).2.2 | (with_reducible refine Kd.C_alloc ?_ _) | (with_reducible refine Kd.C_drewN ?_ _) | (with_reducible refine Kd.C_drew ?_))); (case side2 => rw [show t1166.length = t1150.length from (Kd.R_reads' HO_6.out).1.symm]; exact (Kd.R_reads' HO_6.out).2.1); rintro e w' ⟨rfl, ⟨nd, rfl⟩⟩; refine ⟨_, rfl, ?_⟩))
            go_ret
            exact ⟨by first | rfl | (simp [errW_none, errW_some] <;> rfl) | (simp [*, errW_none, errW_some] <;> rfl), by repeat (first | (with_reducible first | exact HB.out | apply below_alloc | apply pw_below_drewN | apply below_drew1 | refine below_set ?_ GE1132.out | refine below_set ?_ GE1149.out) | exact HB.out)⟩
           ·rw [if_neg c65] at H
            have c65b0 : (t1178 == t1165) = false := beq_eq_false_iff_ne.mpr c65
            have c65b1 : (t1178 != t1165) = true := bne_iff_ne.mpr c65
            exact absurd H (by simp)
         ·replace c54 := Bool.eq_false_iff.mpr c54
          subst c54
          have H1 : (some false) = some true := by rw [if_neg (show ¬ (false = true) by decide)] at H; exact H
          clear H
          have H := H1
          clear H1
          exact absurd H (by simp)
        ·rw [if_neg c50] at H
         have c50b0 : (t1167 == t1165) = false := beq_eq_false_iff_ne.mpr c50
         have c50b1 : (t1167 != t1165) = true := bne_iff_ne.mpr c50
         exact absurd H (by simp)
   ·replace c15 := Bool.eq_false_iff.mpr c15
    subst c15
    have H1 : (some false) = some true := by rw [if_neg (show ¬ (false = true) by decide)] at H; exact H
    clear H
    have H := H1
    clear H1
    exact absurd H (by simp)
  ·replace c12 := Bool.eq_false_iff.mpr c12
   subst c12
   have H1 : (some false) = some true := by rw [if_neg (show ¬ (false = true) by decide)] at H; exact H
   clear H
   have H := H1
   clear H1
   exact absurd H (by simp)

/-- The pure statement of laws_FnExactAnglesOf. -/
def laws_FnExactAnglesOf.Pure : Prop := ∀ (l0_0 : List Int) (l0_1 : List Int), l0_0.length ≤ maxLen → (∀ x ∈ l0_0, (Lit.int .i64 x).wf = true) → l0_1.length ≤ maxLen → (∀ x ∈ l0_1, (Lit.int .i64 x).wf = true) → ∃ k, laws_FnExactAnglesOf.f k l0_0 l0_1 = some true
theorem laws_FnExactAnglesOf.walk (P : laws_FnExactAnglesOf.Pure) (a0_0 : Option Addr) (len0_0 cap0_0 : Nat) (z0_0 : List Int) (a0_1 : Option Addr) (len0_1 cap0_1 : Nat) (z0_1 : List Int) (w : World) (w0_0 : ((a0_0 = none ∧ len0_0 = 0 ∧ cap0_0 = 0 ∧ z0_0 = []) ∨ ∃ x, a0_0 = some x ∧ len0_0 ≤ cap0_0 ∧ cap0_0 ≤ maxLen ∧ z0_0.length = cap0_0 ∧ (∀ i, i < z0_0.length → w.cell? (x.add i) = some (.int .i64 (z0_0.getD i 0))) ∧ ∀ n ∈ z0_0, (Lit.int .i64 n).wf = true)) (w0_1 : ((a0_1 = none ∧ len0_1 = 0 ∧ cap0_1 = 0 ∧ z0_1 = []) ∨ ∃ x, a0_1 = some x ∧ len0_1 ≤ cap0_1 ∧ cap0_1 ≤ maxLen ∧ z0_1.length = cap0_1 ∧ (∀ i, i < z0_1.length → w.cell? (x.add i) = some (.int .i64 (z0_1.getD i 0))) ∧ ∀ n ∈ z0_1, (Lit.int .i64 n).wf = true)) :
  Calls Try.prog 10 #[.agg #[.slice a0_0 len0_0 cap0_0, .slice a0_1 len0_1 cap0_1]] w fun e w' => e = .returned (.bool true) ∧ Below w.heap.size w w' := by
 obtain ⟨l0_0, rfl, hr0_0, hm0_0, hw0_0, hc0_0⟩ := ReadsInt.ofRowC w0_0
 obtain ⟨l0_1, rfl, hr0_1, hm0_1, hw0_1, hc0_1⟩ := ReadsInt.ofRowC w0_1
 obtain ⟨k, h⟩ := P l0_0 l0_1 hm0_0 hw0_0 hm0_1 hw0_1
 refine (laws_FnExactAnglesOf.calls_true k _ _ l0_0 _ _ l0_1 w (Kd.C_of_reads (d := (0 : Int)) (h1 := fun _ => rfl) hr0_0) hc0_0 (Kd.C_of_reads (d := (0 : Int)) (h1 := fun _ => rfl) hr0_1) hc0_1 h).mono ?_
 rintro e w' ⟨rfl, hd⟩
 exact ⟨rfl, hd⟩

end Go.Proofs.Ytlohmpgbjgidpad.P
