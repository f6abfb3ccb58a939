-- MADE by this project's printer (wip/mk) out of the translation; Lean checks it.
import Derived.Test.YtlohmpgbjgidpadPx0
import Derived.Test.YtlohmpgbjgidpadPx2
import Derived.Test.YtlohmpgbjgidpadPx16
import Derived.Test.YtlohmpgbjgidpadPx27
import Derived.Test.YtlohmpgbjgidpadPx28
import Derived.Test.YtlohmpgbjgidpadPx31
import Derived.Test.YtlohmpgbjgidpadPx32
import Derived.Test.YtlohmpgbjgidpadPx34
import Derived.Test.YtlohmpgbjgidpadPx115
import Derived.Test.YtlohmpgbjgidpadPx116
namespace Go.Proofs.Ytlohmpgbjgidpad.P
open Go.RowKit Go.Proofs.YtlohmpgbjgidpadW.PrintWords Go.Proofs.YtlohmpgbjgidpadW.PrintLast Go.Proofs.YtlohmpgbjgidpadW.PrintMore
attribute [local go_sem] max2_int min2_int max_two min_two max_three min_three max_four min_four   -- for this text's walks alone
set_option linter.unusedVariables false
set_option linter.unusedSimpArgs false

/-! ### laws_FnExactStratumOf: function 11 -/
def laws_FnExactStratumOf.j0 : Nat → List Int → List Int → Bool → List Int → List Int → Option (Bool)
 | 0, _, _, _, _, _ => none
 | k + 1, x4, x6, x42, x1202000, x1202001 => if x42 = true then (some false) else ((laws_markIntS.f k x6 1).bind fun bt1234 => ((laws_heldIntS.f k bt1234.2 1).bind fun t1236 => (if t1236 < 0 then (some false) else (if t1236 = bt1234.1 then ((laws_toSurface.f k x1202000 x1202001).bind fun bt1237 => ((impl_StratumOf.f k bt1237.1 bt1237.2).bind fun t1243 => ((laws_eqIntS.f k t1243 x4).bind fun t1246 => (if t1246 = true then ((laws_heldIntS.f k bt1234.2 1).bind fun t1247 => (if t1247 < 0 then (some false) else (if t1247 = bt1234.1 then (some true) else (some false)))) else (some false))))) else (some false)))))
def laws_FnExactStratumOf.f (k : Nat) (l0_0 : List Int) (l0_1 : List Int) : Option (Bool) := (laws_szSurface.f l0_0 l0_1 1048576).bind fun t1202 => (if t1202 < 0 then (some true) else ((laws_toSurface.f k l0_0 l0_1).bind fun bt1203 => ((spec_StratumOf.f k bt1203.1 bt1203.2).bind fun t1209 => ((laws_toSurface.f k l0_0 l0_1).bind fun bt1212 => ((impl_StratumOf.f k bt1212.1 bt1212.2).bind fun t1219 => ((laws_eqIntS.f k t1219 t1209).bind fun t1222 => (if t1222 = true then ((laws_toSurface.f k l0_0 l0_1).bind fun bt1223 => ((laws_eqSurface.f k bt1212.1 bt1212.2 bt1223.1 bt1223.2).bind fun t1229 => (if t1229 = true then ((laws_markSurface.f k bt1212.1 bt1212.2 1).bind fun bt1230 => (if bt1230.1 < 0 then (laws_FnExactStratumOf.j0 k t1209 t1219 true l0_0 l0_1) else ((laws_eqIntS.f k t1219 t1209).bind fun t1233 => (laws_FnExactStratumOf.j0 k t1209 t1219 (!t1233) l0_0 l0_1)))) else (some false)))) else (some false))))))))
theorem laws_FnExactStratumOf.mono_l : ∀ k, (∀ y0 y1 y2 y3 y4, LeO (laws_FnExactStratumOf.j0 k y0 y1 y2 y3 y4) (laws_FnExactStratumOf.j0 (k + 1) y0 y1 y2 y3 y4))
 | 0 => fun _ _ _ _ _ r h => by simp [laws_FnExactStratumOf.j0] at h
 | k + 1 => by
  have ih0 := laws_FnExactStratumOf.mono_l k
  ·intro y0 y1 y2 y3 y4
   unfold laws_FnExactStratumOf.j0
   repeat' first
   | (with_reducible exact ih0 _ _ _ _ _)
   | (with_reducible exact impl_StratumOf.mono _ _ _)
   | (with_reducible exact laws_eqIntS.mono _ _ _)
   | (with_reducible exact laws_eqSurface.mono _ _ _ _ _)
   | (with_reducible exact laws_heldIntS.mono _ _ _)
   | (with_reducible exact laws_markIntS.mono _ _ _)
   | (with_reducible exact laws_markSurface.mono _ _ _ _)
   | (with_reducible exact laws_toSurface.mono _ _ _)
   | (with_reducible exact spec_StratumOf.mono _ _ _)
   | (with_reducible exact LeO.refl _)
   | (with_reducible exact LeO.none _)
   | (with_reducible refine LeO.ite ?_ ?_)
   | (with_reducible refine LeO.bind ?_ (fun _ => ?_))
   | exact ih0 _ _ _ _ _
   | exact impl_StratumOf.mono _ _ _
   | exact laws_eqIntS.mono _ _ _
   | exact laws_eqSurface.mono _ _ _ _ _
   | exact laws_heldIntS.mono _ _ _
   | exact laws_markIntS.mono _ _ _
   | exact laws_markSurface.mono _ _ _ _
   | exact laws_toSurface.mono _ _ _
   | exact spec_StratumOf.mono _ _ _
   | exact LeO.none _
   | refine LeO.ite ?_ ?_
   | refine LeO.bind ?_ (fun _ => ?_)
theorem laws_FnExactStratumOf.mono : ∀ a0 a1 k, LeO (laws_FnExactStratumOf.f k a0 a1) (laws_FnExactStratumOf.f (k + 1) a0 a1) := by
 intro a0 a1 k
 have ih0 := laws_FnExactStratumOf.mono_l k
 unfold laws_FnExactStratumOf.f
 repeat' first
   | (with_reducible exact ih0 _ _ _ _ _)
   | (with_reducible exact impl_StratumOf.mono _ _ _)
   | (with_reducible exact laws_eqIntS.mono _ _ _)
   | (with_reducible exact laws_eqSurface.mono _ _ _ _ _)
   | (with_reducible exact laws_heldIntS.mono _ _ _)
   | (with_reducible exact laws_markIntS.mono _ _ _)
   | (with_reducible exact laws_markSurface.mono _ _ _ _)
   | (with_reducible exact laws_toSurface.mono _ _ _)
   | (with_reducible exact spec_StratumOf.mono _ _ _)
   | (with_reducible exact LeO.refl _)
   | (with_reducible exact LeO.none _)
   | (with_reducible refine LeO.ite ?_ ?_)
   | (with_reducible refine LeO.bind ?_ (fun _ => ?_))
   | exact ih0 _ _ _ _ _
   | exact impl_StratumOf.mono _ _ _
   | exact laws_eqIntS.mono _ _ _
   | exact laws_eqSurface.mono _ _ _ _ _
   | exact laws_heldIntS.mono _ _ _
   | exact laws_markIntS.mono _ _ _
   | exact laws_markSurface.mono _ _ _ _
   | exact laws_toSurface.mono _ _ _
   | exact spec_StratumOf.mono _ _ _
   | exact LeO.none _
   | refine LeO.ite ?_ ?_
   | refine LeO.bind ?_ (fun _ => ?_)
set_option maxHeartbeats 8000000 in
set_option maxRecDepth 100000 in
theorem laws_FnExactStratumOf.calls_true (k : Nat) (A0_0 : Option Addr) (c0_0 : Nat) (l0_0 : List Int) (A0_1 : Option Addr) (c0_1 : Nat) (l0_1 : List Int) (w : World) (hr0_0 : Kd.C (Kd.int .i64) w A0_0 l0_0.length l0_0) (hc0_0 : l0_0.length ≤ c0_0) (hr0_1 : Kd.C (Kd.int .i64) w A0_1 l0_1.length l0_1) (hc0_1 : l0_1.length ≤ c0_1) (h : laws_FnExactStratumOf.f k l0_0 l0_1 = some true) :
  Calls Try.prog 11 #[.agg #[.slice A0_0 l0_0.length c0_0, .slice A0_1 l0_1.length c0_1]] w fun e w' => e = .returned (.bool true) ∧ Below w.heap.size w w' := by
 have hu24 := Try.underlying24
 have hu27 := Try.underlying27
 have HR0_0 := Aside0.mk hr0_0
 have HC0_0 := Aside0.mk hc0_0
 clear hr0_0 hc0_0
 have HR0_1 := Aside0.mk hr0_1
 have HC0_1 := Aside0.mk hc0_1
 clear hr0_1 hc0_1
 have HB := Aside0.mk (Below.refl w.heap.size w)
 have H : ((laws_szSurface.f l0_0 l0_1 1048576).bind fun t1202 => (if t1202 < 0 then (some true) else ((laws_toSurface.f k l0_0 l0_1).bind fun bt1203 => ((spec_StratumOf.f k bt1203.1 bt1203.2).bind fun t1209 => ((laws_toSurface.f k l0_0 l0_1).bind fun bt1212 => ((impl_StratumOf.f k bt1212.1 bt1212.2).bind fun t1219 => ((laws_eqIntS.f k t1219 t1209).bind fun t1222 => (if t1222 = true then ((laws_toSurface.f k l0_0 l0_1).bind fun bt1223 => ((laws_eqSurface.f k bt1212.1 bt1212.2 bt1223.1 bt1223.2).bind fun t1229 => (if t1229 = true then ((laws_markSurface.f k bt1212.1 bt1212.2 1).bind fun bt1230 => (if bt1230.1 < 0 then (laws_FnExactStratumOf.j0 k t1209 t1219 true l0_0 l0_1) else ((laws_eqIntS.f k t1219 t1209).bind fun t1233 => (laws_FnExactStratumOf.j0 k t1209 t1219 (!t1233) l0_0 l0_1)))) else (some false)))) else (some false))))))))) = some true := h
 clear h
 replace H := Option.bind_eq_some_iff.mp H
 obtain ⟨t1202, A20, H⟩ := H
 replace H : (if t1202 < 0 then (some true) else ((laws_toSurface.f k l0_0 l0_1).bind fun bt1203 => ((spec_StratumOf.f k bt1203.1 bt1203.2).bind fun t1209 => ((laws_toSurface.f k l0_0 l0_1).bind fun bt1212 => ((impl_StratumOf.f k bt1212.1 bt1212.2).bind fun t1219 => ((laws_eqIntS.f k t1219 t1209).bind fun t1222 => (if t1222 = true then ((laws_toSurface.f k l0_0 l0_1).bind fun bt1223 => ((laws_eqSurface.f k bt1212.1 bt1212.2 bt1223.1 bt1223.2).bind fun t1229 => (if t1229 = true then ((laws_markSurface.f k bt1212.1 bt1212.2 1).bind fun bt1230 => (if bt1230.1 < 0 then (laws_FnExactStratumOf.j0 k t1209 t1219 true l0_0 l0_1) else ((laws_eqIntS.f k t1219 t1209).bind fun t1233 => (laws_FnExactStratumOf.j0 k t1209 t1219 (!t1233) l0_0 l0_1)))) else (some false)))) else (some false)))))))) = some true := H
 have A2 := Aside0.mk A20
 clear A20
 by_cases c3 : t1202 < 0
 ·rw [if_pos c3] at H
  have c3b0 : decide (t1202 < 0) = true := decide_eq_true c3
  clear c3
  go_enter Try.func11, Try.ntmps11
  go_wp2_with (first | ((with_reducible refine gate_dst (N := 1) rfl ?_); refine box_event ?hg (N := 1) ?hd (cs := #[.slice A0_0 l0_0.length c0_0, .slice A0_1 l0_1.length c0_1]) (t := 24) ?hr ?_; (case hd => rfl); (case hg => rfl); (case hr => first | (go_simp; done) | (go_simp; rfl)); intro gb1201 hg w4 hbox hb; have n0_ := Aside0.mk (below_step (by repeat (first | (with_reducible first | exact HB.out | apply below_alloc | apply pw_below_drewN | apply below_drew1) | exact HB.out)) hb); have n1_ := Aside0.mk (hbox); have n2_ := Aside0.mk ((by rw [hg]; exact (below_size (by repeat (first | (with_reducible first | exact HB.out | apply below_alloc | apply pw_below_drewN | apply below_drew1) | exact HB.out))) : w.heap.size ≤ gb1201)); have n3_ := Aside0.mk ((by rw [hg]; exact (below_size (by repeat (first | (with_reducible first | exact HB.out | apply below_alloc | apply pw_below_drewN | apply below_drew1) | exact HB.out))) : w.heap.size ≤ gb1201)); clear HB; have HB := n0_; have BK1201 := n1_; have GW1201 := n2_; have GE1201 := n3_; clear n0_ n1_ n2_ n3_; clear hb hbox hg; have hcz5_0 : w4.cell? ⟨gb1201, 0, none⟩ = some (.slice A0_0 l0_0.length c0_0) := (blk_cell BK1201.out 0).trans rfl; have hcz5_1 : w4.cell? ⟨gb1201, 1, none⟩ = some (.slice A0_1 l0_1.length c0_1) := (blk_cell BK1201.out 1).trans rfl; have hfz5_0 := blk_frozen BK1201.out 0; have hfz5_1 := blk_frozen BK1201.out 1) | ((with_reducible refine gate_callee (f := 12) rfl ?_); refine goesL_ (some 13) rfl rfl Try.func12 (by kernel_rfl) rfl #[.agg #[.slice A0_0 l0_0.length c0_0, .slice A0_1 l0_1.length c0_1], .int .i64 1048576] rfl (by (try simp only [List.map_toArray, List.map_cons, List.map_nil]); first | done | rfl | (simp only [List.length_drop, List.length_take]; rfl)) ?_; (with_reducible refine (laws_szSurface.calls _ _ l0_0 _ _ l0_1 1048576 t1202 _ ?side1 ?side2 ?side3 ?side4 A2.out).mono ?_); (case side1 => repeat (first | exact (Kd.C_below HR0_0.out HB.out) | (with_reducible refine Kd.C_alloc ?_ _) | (with_reducible refine Kd.C_drewN ?_ _) | (with_reducible refine Kd.C_drew ?_))); (case side2 => exact HC0_0.out); (case side3 => repeat (first | exact (Kd.C_below HR0_1.out HB.out) | (with_reducible refine Kd.C_alloc ?_ _) | (with_reducible refine Kd.C_drewN ?_ _) | (with_reducible refine Kd.C_drew ?_))); (case side4 => exact HC0_1.out); rintro e w6 ⟨rfl, hb⟩; refine ⟨_, rfl, ?_⟩; have n0_ := Aside0.mk (blk_below (g := gb1201) (o := .cells #[.slice A0_0 l0_0.length c0_0, .slice A0_1 l0_1.length c0_1] 24 (0, 0)) (by (with_reducible repeat (first | refine blk_drewN ?_ _ | refine blk_drew ?_ | refine blk_alloc ?_ _)); exact BK1201.out) hb); have n1_ := Aside0.mk (below_step (by repeat (first | (with_reducible first | exact HB.out | apply below_alloc | apply pw_below_drewN | apply below_drew1 | refine below_set ?_ GE1201.out) | exact HB.out)) hb); clear BK1201; clear HB; have BK1201 := n0_; have HB := n1_; clear n0_ n1_; (try clear hb); (try clear hb2); (try clear hk); (try clear hi)))
  go_ret
  exact ⟨by first | rfl | (simp [errW_none, errW_some] <;> rfl) | (simp [*, errW_none, errW_some] <;> rfl), by repeat (first | (with_reducible first | exact HB.out | apply below_alloc | apply pw_below_drewN | apply below_drew1 | refine below_set ?_ GE1201.out) | exact HB.out)⟩
 ·rw [if_neg c3] at H
  have c3b0 : decide (t1202 < 0) = false := decide_eq_false c3
  clear c3
  replace H := Option.bind_eq_some_iff.mp H
  obtain ⟨⟨t1203, t1206⟩, A70, H⟩ := H
  replace H : ((spec_StratumOf.f k t1203 t1206).bind fun t1209 => ((laws_toSurface.f k l0_0 l0_1).bind fun bt1212 => ((impl_StratumOf.f k bt1212.1 bt1212.2).bind fun t1219 => ((laws_eqIntS.f k t1219 t1209).bind fun t1222 => (if t1222 = true then ((laws_toSurface.f k l0_0 l0_1).bind fun bt1223 => ((laws_eqSurface.f k bt1212.1 bt1212.2 bt1223.1 bt1223.2).bind fun t1229 => (if t1229 = true then ((laws_markSurface.f k bt1212.1 bt1212.2 1).bind fun bt1230 => (if bt1230.1 < 0 then (laws_FnExactStratumOf.j0 k t1209 t1219 true l0_0 l0_1) else ((laws_eqIntS.f k t1219 t1209).bind fun t1233 => (laws_FnExactStratumOf.j0 k t1209 t1219 (!t1233) l0_0 l0_1)))) else (some false)))) else (some false)))))) = some true := H
  have A7 := Aside0.mk A70
  clear A70
  replace H := Option.bind_eq_some_iff.mp H
  obtain ⟨t1209, A80, H⟩ := H
  replace H : ((laws_toSurface.f k l0_0 l0_1).bind fun bt1212 => ((impl_StratumOf.f k bt1212.1 bt1212.2).bind fun t1219 => ((laws_eqIntS.f k t1219 t1209).bind fun t1222 => (if t1222 = true then ((laws_toSurface.f k l0_0 l0_1).bind fun bt1223 => ((laws_eqSurface.f k bt1212.1 bt1212.2 bt1223.1 bt1223.2).bind fun t1229 => (if t1229 = true then ((laws_markSurface.f k bt1212.1 bt1212.2 1).bind fun bt1230 => (if bt1230.1 < 0 then (laws_FnExactStratumOf.j0 k t1209 t1219 true l0_0 l0_1) else ((laws_eqIntS.f k t1219 t1209).bind fun t1233 => (laws_FnExactStratumOf.j0 k t1209 t1219 (!t1233) l0_0 l0_1)))) else (some false)))) else (some false))))) = some true := H
  have A8 := Aside0.mk A80
  clear A80
  replace H := Option.bind_eq_some_iff.mp H
  obtain ⟨⟨t1212, t1215⟩, A90, H⟩ := H
  replace H : ((impl_StratumOf.f k t1212 t1215).bind fun t1219 => ((laws_eqIntS.f k t1219 t1209).bind fun t1222 => (if t1222 = true then ((laws_toSurface.f k l0_0 l0_1).bind fun bt1223 => ((laws_eqSurface.f k t1212 t1215 bt1223.1 bt1223.2).bind fun t1229 => (if t1229 = true then ((laws_markSurface.f k t1212 t1215 1).bind fun bt1230 => (if bt1230.1 < 0 then (laws_FnExactStratumOf.j0 k t1209 t1219 true l0_0 l0_1) else ((laws_eqIntS.f k t1219 t1209).bind fun t1233 => (laws_FnExactStratumOf.j0 k t1209 t1219 (!t1233) l0_0 l0_1)))) else (some false)))) else (some false)))) = some true := H
  have A9 := Aside0.mk A90
  clear A90
  replace H := Option.bind_eq_some_iff.mp H
  obtain ⟨t1219, A100, H⟩ := H
  replace H : ((laws_eqIntS.f k t1219 t1209).bind fun t1222 => (if t1222 = true then ((laws_toSurface.f k l0_0 l0_1).bind fun bt1223 => ((laws_eqSurface.f k t1212 t1215 bt1223.1 bt1223.2).bind fun t1229 => (if t1229 = true then ((laws_markSurface.f k t1212 t1215 1).bind fun bt1230 => (if bt1230.1 < 0 then (laws_FnExactStratumOf.j0 k t1209 t1219 true l0_0 l0_1) else ((laws_eqIntS.f k t1219 t1209).bind fun t1233 => (laws_FnExactStratumOf.j0 k t1209 t1219 (!t1233) l0_0 l0_1)))) else (some false)))) else (some false))) = some true := H
  have A10 := Aside0.mk A100
  clear A100
  replace H := Option.bind_eq_some_iff.mp H
  obtain ⟨t1222, A110, H⟩ := H
  replace H : (if t1222 = true then ((laws_toSurface.f k l0_0 l0_1).bind fun bt1223 => ((laws_eqSurface.f k t1212 t1215 bt1223.1 bt1223.2).bind fun t1229 => (if t1229 = true then ((laws_markSurface.f k t1212 t1215 1).bind fun bt1230 => (if bt1230.1 < 0 then (laws_FnExactStratumOf.j0 k t1209 t1219 true l0_0 l0_1) else ((laws_eqIntS.f k t1219 t1209).bind fun t1233 => (laws_FnExactStratumOf.j0 k t1209 t1219 (!t1233) l0_0 l0_1)))) else (some false)))) else (some false)) = some true := H
  have A11 := Aside0.mk A110
  clear A110
  by_cases c12 : t1222 = true
  ·subst c12
   have H1 : ((laws_toSurface.f k l0_0 l0_1).bind fun bt1223 => ((laws_eqSurface.f k t1212 t1215 bt1223.1 bt1223.2).bind fun t1229 => (if t1229 = true then ((laws_markSurface.f k t1212 t1215 1).bind fun bt1230 => (if bt1230.1 < 0 then (laws_FnExactStratumOf.j0 k t1209 t1219 true l0_0 l0_1) else ((laws_eqIntS.f k t1219 t1209).bind fun t1233 => (laws_FnExactStratumOf.j0 k t1209 t1219 (!t1233) l0_0 l0_1)))) else (some false)))) = some true := by rw [if_pos rfl] at H; exact H
   clear H
   have H := H1
   clear H1
   replace H := Option.bind_eq_some_iff.mp H
   obtain ⟨⟨t1223, t1226⟩, A130, H⟩ := H
   replace H : ((laws_eqSurface.f k t1212 t1215 t1223 t1226).bind fun t1229 => (if t1229 = true then ((laws_markSurface.f k t1212 t1215 1).bind fun bt1230 => (if bt1230.1 < 0 then (laws_FnExactStratumOf.j0 k t1209 t1219 true l0_0 l0_1) else ((laws_eqIntS.f k t1219 t1209).bind fun t1233 => (laws_FnExactStratumOf.j0 k t1209 t1219 (!t1233) l0_0 l0_1)))) else (some false))) = some true := H
   have A13 := Aside0.mk A130
   clear A130
   replace H := Option.bind_eq_some_iff.mp H
   obtain ⟨t1229, A140, H⟩ := H
   replace H : (if t1229 = true then ((laws_markSurface.f k t1212 t1215 1).bind fun bt1230 => (if bt1230.1 < 0 then (laws_FnExactStratumOf.j0 k t1209 t1219 true l0_0 l0_1) else ((laws_eqIntS.f k t1219 t1209).bind fun t1233 => (laws_FnExactStratumOf.j0 k t1209 t1219 (!t1233) l0_0 l0_1)))) else (some false)) = some true := H
   have A14 := Aside0.mk A140
   clear A140
   by_cases c15 : t1229 = true
   ·subst c15
    have H1 : ((laws_markSurface.f k t1212 t1215 1).bind fun bt1230 => (if bt1230.1 < 0 then (laws_FnExactStratumOf.j0 k t1209 t1219 true l0_0 l0_1) else ((laws_eqIntS.f k t1219 t1209).bind fun t1233 => (laws_FnExactStratumOf.j0 k t1209 t1219 (!t1233) l0_0 l0_1)))) = some true := by rw [if_pos rfl] at H; exact H
    clear H
    have H := H1
    clear H1
    replace H := Option.bind_eq_some_iff.mp H
    obtain ⟨⟨t1230, t1231, t1232⟩, A160, H⟩ := H
    replace H : (if t1230 < 0 then (laws_FnExactStratumOf.j0 k t1209 t1219 true l0_0 l0_1) else ((laws_eqIntS.f k t1219 t1209).bind fun t1233 => (laws_FnExactStratumOf.j0 k t1209 t1219 (!t1233) l0_0 l0_1))) = some true := H
    have A16 := Aside0.mk A160
    clear A160
    have HC17 := Aside0.mk H
    clear H
    go_enter Try.func11, Try.ntmps11
    try go_wp2_with (first | ((with_reducible refine gate_dst (N := 1) rfl ?_); refine box_event ?hg (N := 1) ?hd (cs := #[.slice A0_0 l0_0.length c0_0, .slice A0_1 l0_1.length c0_1]) (t := 24) ?hr ?_; (case hd => rfl); (case hg => rfl); (case hr => first | (go_simp; done) | (go_simp; rfl)); intro gb1201 hg w18 hbox hb; have n0_ := Aside0.mk (below_step (by repeat (first | (with_reducible first | exact HB.out | apply below_alloc | apply pw_below_drewN | apply below_drew1) | exact HB.out)) hb); have n1_ := Aside0.mk (hbox); have n2_ := Aside0.mk ((by rw [hg]; exact (below_size (by repeat (first | (with_reducible first | exact HB.out | apply below_alloc | apply pw_below_drewN | apply below_drew1) | exact HB.out))) : w.heap.size ≤ gb1201)); have n3_ := Aside0.mk ((by rw [hg]; exact (below_size (by repeat (first | (with_reducible first | exact HB.out | apply below_alloc | apply pw_below_drewN | apply below_drew1) | exact HB.out))) : w.heap.size ≤ gb1201)); clear HB; have HB := n0_; have BK1201 := n1_; have GW1201 := n2_; have GE1201 := n3_; clear n0_ n1_ n2_ n3_; clear hb hbox hg; have hcz19_0 : w18.cell? ⟨gb1201, 0, none⟩ = some (.slice A0_0 l0_0.length c0_0) := (blk_cell BK1201.out 0).trans rfl; have hcz19_1 : w18.cell? ⟨gb1201, 1, none⟩ = some (.slice A0_1 l0_1.length c0_1) := (blk_cell BK1201.out 1).trans rfl; have hfz19_0 := blk_frozen BK1201.out 0; have hfz19_1 := blk_frozen BK1201.out 1) | ((with_reducible refine gate_callee (f := 12) rfl ?_); refine goesL_ (some 13) rfl rfl Try.func12 (by kernel_rfl) rfl #[.agg #[.slice A0_0 l0_0.length c0_0, .slice A0_1 l0_1.length c0_1], .int .i64 1048576] rfl (by (try simp only [List.map_toArray, List.map_cons, List.map_nil]); first | done | rfl | (simp only [List.length_drop, List.length_take]; rfl)) ?_; (with_reducible refine (laws_szSurface.calls _ _ l0_0 _ _ l0_1 1048576 t1202 _ ?side1 ?side2 ?side3 ?side4 A2.out).mono ?_); (case side1 => repeat (first | exact (Kd.C_below HR0_0.out HB.out) | (with_reducible refine Kd.C_alloc ?_ _) | (with_reducible refine Kd.C_drewN ?_ _) | (with_reducible refine Kd.C_drew ?_))); (case side2 => exact HC0_0.out); (case side3 => repeat (first | exact (Kd.C_below HR0_1.out HB.out) | (with_reducible refine Kd.C_alloc ?_ _) | (with_reducible refine Kd.C_drewN ?_ _) | (with_reducible refine Kd.C_drew ?_))); (case side4 => exact HC0_1.out); rintro e w20 ⟨rfl, hb⟩; refine ⟨_, rfl, ?_⟩; have n0_ := Aside0.mk (blk_below (g := gb1201) (o := .cells #[.slice A0_0 l0_0.length c0_0, .slice A0_1 l0_1.length c0_1] 24 (0, 0)) (by (with_reducible repeat (first | refine blk_drewN ?_ _ | refine blk_drew ?_ | refine blk_alloc ?_ _)); exact BK1201.out) hb); have n1_ := Aside0.mk (below_step (by repeat (first | (with_reducible first | exact HB.out | apply below_alloc | apply pw_below_drewN | apply below_drew1 | refine below_set ?_ GE1201.out) | exact HB.out)) hb); clear BK1201; clear HB; have BK1201 := n0_; have HB := n1_; clear n0_ n1_; (try clear hb); (try clear hb2); (try clear hk); (try clear hi); have hcz21_0 : w20.cell? ⟨gb1201, 0, none⟩ = some (.slice A0_0 l0_0.length c0_0) := (blk_cell BK1201.out 0).trans rfl; have hcz21_1 : w20.cell? ⟨gb1201, 1, none⟩ = some (.slice A0_1 l0_1.length c0_1) := (blk_cell BK1201.out 1).trans rfl; have hfz21_0 := blk_frozen BK1201.out 0; have hfz21_1 := blk_frozen BK1201.out 1) | ((with_reducible refine gate_callee (f := 14) rfl ?_); refine goesL_ (some 17) rfl rfl Try.func14 (by kernel_rfl) rfl #[.agg #[.slice A0_0 l0_0.length c0_0, .slice A0_1 l0_1.length c0_1]] rfl (by (try simp only [List.map_toArray, List.map_cons, List.map_nil]); first | done | rfl | (simp only [List.length_drop, List.length_take]; rfl)) ?_; (with_reducible refine (laws_toSurface.calls k _ _ l0_0 _ _ l0_1 t1203 t1206 _ ?side1 ?side2 ?side3 ?side4 A7.out).mono ?_); (case side1 => repeat (first | exact (Kd.C_below HR0_0.out HB.out) | (with_reducible refine Kd.C_alloc ?_ _) | (with_reducible refine Kd.C_drewN ?_ _) | (with_reducible refine Kd.C_drew ?_))); (case side2 => exact HC0_0.out); (case side3 => repeat (first | exact (Kd.C_below HR0_1.out HB.out) | (with_reducible refine Kd.C_alloc ?_ _) | (with_reducible refine Kd.C_drewN ?_ _) | (with_reducible refine Kd.C_drew ?_))); (case side4 => exact HC0_1.out); rintro e w22 ⟨v1204, v1207, rfl, ho0, ho1, hb⟩; refine ⟨_, rfl, ?_⟩; have n0_ := Aside0.mk (Kd.R_lower ho0 (below_size (by repeat (first | (with_reducible first | exact HB.out | apply below_alloc | apply pw_below_drewN | apply below_drew1 | refine below_set ?_ GE1201.out) | exact HB.out)))); have n1_ := Aside0.mk (Kd.R_lower ho1 (below_size (by repeat (first | (with_reducible first | exact HB.out | apply below_alloc | apply pw_below_drewN | apply below_drew1 | refine below_set ?_ GE1201.out) | exact HB.out)))); have n2_ := Aside0.mk (blk_below (g := gb1201) (o := .cells #[.slice A0_0 l0_0.length c0_0, .slice A0_1 l0_1.length c0_1] 24 (0, 0)) (by (with_reducible repeat (first | refine blk_drewN ?_ _ | refine blk_drew ?_ | refine blk_alloc ?_ _)); exact BK1201.out) hb); have n3_ := Aside0.mk (below_step (by repeat (first | (with_reducible first | exact HB.out | apply below_alloc | apply pw_below_drewN | apply below_drew1 | refine below_set ?_ GE1201.out) | exact HB.out)) hb); clear BK1201; clear HB; have HO1205 := n0_; have HO1208 := n1_; have BK1201 := n2_; have HB := n3_; clear n0_ n1_ n2_ n3_; (try clear hb); (try clear hb2); (try clear hk); (try clear hi); (try clear ho0); (try clear ho1); obtain ⟨Ao23, co23, eo23⟩ := Kd.R_slice HO1205.out; subst eo23; obtain ⟨Ao24, co24, eo24⟩ := Kd.R_slice HO1208.out; subst eo24) | ((with_reducible refine gate_callee (f := 39) rfl ?_); refine goesL_ (some 18) rfl rfl Try.func39 (by kernel_rfl) rfl #[.agg #[.slice Ao23 t1203.length co23, .slice Ao24 t1206.length co24]] rfl (by (try simp only [List.map_toArray, List.map_cons, List.map_nil]); first | done | rfl | (simp only [List.length_drop, List.length_take]; rfl)) ?_; (with_reducible refine (spec_StratumOf.calls k _ _ t1203 _ _ t1206 t1209 _ ?side1 ?side2 ?side3 ?side4 A8.out).mono ?_); (case side1 => repeat (first | exact (Kd.R_reads' HO1205.out).2.2 | (with_reducible refine Kd.C_alloc ?_ _) | (with_reducible refine Kd.C_drewN ?_ _) | (with_reducible refine Kd.C_drew ?_))); (case side2 => exact (Kd.R_reads' HO1205.out).2.1); (case side3 => repeat (first | exact (Kd.R_reads' HO1208.out).2.2 | (with_reducible refine Kd.C_alloc ?_ _) | (with_reducible refine Kd.C_drewN ?_ _) | (with_reducible refine Kd.C_drew ?_))); (case side4 => exact (Kd.R_reads' HO1208.out).2.1); rintro e w25 ⟨v1210, rfl, ho0, hb⟩; refine ⟨_, rfl, ?_⟩; have n0_ := Aside0.mk (Kd.R_elder' (by (with_reducible repeat (first | apply Kd.R_alloc | apply Kd.R_drewN | apply Kd.R_drew)); exact HO1205.out) (Kd.R_base ho0) hb); have n1_ := Aside0.mk (Kd.R_elder' (by (with_reducible repeat (first | apply Kd.R_alloc | apply Kd.R_drewN | apply Kd.R_drew)); exact HO1208.out) (Kd.R_base ho0) hb); have n2_ := Aside0.mk (Kd.R_lower (Kd.R_new' (Kd.R_new' ho0 (Kd.R_lt (by (with_reducible repeat (first | apply Kd.R_alloc | apply Kd.R_drewN | apply Kd.R_drew)); exact HO1205.out))) (Kd.R_lt (by (with_reducible repeat (first | apply Kd.R_alloc | apply Kd.R_drewN | apply Kd.R_drew)); exact HO1208.out))) (below_size (by repeat (first | (with_reducible first | exact HB.out | apply below_alloc | apply pw_below_drewN | apply below_drew1 | refine below_set ?_ GE1201.out) | exact HB.out)))); have n3_ := Aside0.mk (blk_below (g := gb1201) (o := .cells #[.slice A0_0 l0_0.length c0_0, .slice A0_1 l0_1.length c0_1] 24 (0, 0)) (by (with_reducible repeat (first | refine blk_drewN ?_ _ | refine blk_drew ?_ | refine blk_alloc ?_ _)); exact BK1201.out) hb); have n4_ := Aside0.mk (below_step (by repeat (first | (with_reducible first | exact HB.out | apply below_alloc | apply pw_below_drewN | apply below_drew1 | refine below_set ?_ GE1201.out) | exact HB.out)) hb); clear HO1205; clear HO1208; clear BK1201; clear HB; have HO1205 := n0_; have HO1208 := n1_; have HO1211 := n2_; have BK1201 := n3_; have HB := n4_; clear n0_ n1_ n2_ n3_ n4_; (try clear hb); (try clear hb2); (try clear hk); (try clear hi); (try clear ho0); have hcz26_0 : w25.cell? ⟨gb1201, 0, none⟩ = some (.slice A0_0 l0_0.length c0_0) := (blk_cell BK1201.out 0).trans rfl; have hcz26_1 : w25.cell? ⟨gb1201, 1, none⟩ = some (.slice A0_1 l0_1.length c0_1) := (blk_cell BK1201.out 1).trans rfl; have hfz26_0 := blk_frozen BK1201.out 0; have hfz26_1 := blk_frozen BK1201.out 1) | ((with_reducible refine gate_callee (f := 14) rfl ?_); refine goesL_ (some 20) rfl rfl Try.func14 (by kernel_rfl) rfl #[.agg #[.slice A0_0 l0_0.length c0_0, .slice A0_1 l0_1.length c0_1]] rfl (by (try simp only [List.map_toArray, List.map_cons, List.map_nil]); first | done | rfl | (simp only [List.length_drop, List.length_take]; rfl)) ?_; (with_reducible refine (laws_toSurface.calls k _ _ l0_0 _ _ l0_1 t1212 t1215 _ ?side1 ?side2 ?side3 ?side4 A9.out).mono ?_); (case side1 => repeat (first | exact (Kd.C_below HR0_0.out HB.out) | (with_reducible refine Kd.C_alloc ?_ _) | (with_reducible refine Kd.C_drewN ?_ _) | (with_reducible refine Kd.C_drew ?_))); (case side2 => exact HC0_0.out); (case side3 => repeat (first | exact (Kd.C_below HR0_1.out HB.out) | (with_reducible refine Kd.C_alloc ?_ _) | (with_reducible refine Kd.C_drewN ?_ _) | (with_reducible refine Kd.C_drew ?_))); (case side4 => exact HC0_1.out); rintro e w27 ⟨v1213, v1216, rfl, ho0, ho1, hb⟩; refine ⟨_, rfl, ?_⟩; have n0_ := Aside0.mk (Kd.R_mono (Kd.R_told (Kd.R_told (Kd.R_old (by (with_reducible repeat (first | apply Kd.R_alloc | apply Kd.R_drewN | apply Kd.R_drew)); exact HO1205.out) hb) (Kd.R_base ho0)) (Kd.R_base ho1)) (fun _ h_ => h_.1)); have n1_ := Aside0.mk (Kd.R_mono (Kd.R_told (Kd.R_told (Kd.R_old (by (with_reducible repeat (first | apply Kd.R_alloc | apply Kd.R_drewN | apply Kd.R_drew)); exact HO1208.out) hb) (Kd.R_base ho0)) (Kd.R_base ho1)) (fun _ h_ => h_.1)); have n2_ := Aside0.mk (Kd.R_mono (Kd.R_told (Kd.R_told (Kd.R_old (by (with_reducible repeat (first | apply Kd.R_alloc | apply Kd.R_drewN | apply Kd.R_drew)); exact HO1211.out) hb) (Kd.R_base ho0)) (Kd.R_base ho1)) (fun _ h_ => h_.1)); have n3_ := Aside0.mk (Kd.R_lower (Kd.R_new' (Kd.R_new' (Kd.R_new' ho0 (Kd.R_lt (by (with_reducible repeat (first | apply Kd.R_alloc | apply Kd.R_drewN | apply Kd.R_drew)); exact HO1205.out))) (Kd.R_lt (by (with_reducible repeat (first | apply Kd.R_alloc | apply Kd.R_drewN | apply Kd.R_drew)); exact HO1208.out))) (Kd.R_lt (by (with_reducible repeat (first | apply Kd.R_alloc | apply Kd.R_drewN | apply Kd.R_drew)); exact HO1211.out))) (below_size (by repeat (first | (with_reducible first | exact HB.out | apply below_alloc | apply pw_below_drewN | apply below_drew1 | refine below_set ?_ GE1201.out) | exact HB.out)))); have n4_ := Aside0.mk (Kd.R_lower (Kd.R_new' (Kd.R_new' (Kd.R_new' ho1 (Kd.R_lt (by (with_reducible repeat (first | apply Kd.R_alloc | apply Kd.R_drewN | apply Kd.R_drew)); exact HO1205.out))) (Kd.R_lt (by (with_reducible repeat (first | apply Kd.R_alloc | apply Kd.R_drewN | apply Kd.R_drew)); exact HO1208.out))) (Kd.R_lt (by (with_reducible repeat (first | apply Kd.R_alloc | apply Kd.R_drewN | apply Kd.R_drew)); exact HO1211.out))) (below_size (by repeat (first | (with_reducible first | exact HB.out | apply below_alloc | apply pw_below_drewN | apply below_drew1 | refine below_set ?_ GE1201.out) | exact HB.out)))); have n5_ := Aside0.mk (blk_below (g := gb1201) (o := .cells #[.slice A0_0 l0_0.length c0_0, .slice A0_1 l0_1.length c0_1] 24 (0, 0)) (by (with_reducible repeat (first | refine blk_drewN ?_ _ | refine blk_drew ?_ | refine blk_alloc ?_ _)); exact BK1201.out) hb); have n6_ := Aside0.mk (below_step (by repeat (first | (with_reducible first | exact HB.out | apply below_alloc | apply pw_below_drewN | apply below_drew1 | refine below_set ?_ GE1201.out) | exact HB.out)) hb); clear HO1205; clear HO1208; clear HO1211; clear BK1201; clear HB; have HO1205 := n0_; have HO1208 := n1_; have HO1211 := n2_; have HO1214 := n3_; have HO1217 := n4_; have BK1201 := n5_; have HB := n6_; clear n0_ n1_ n2_ n3_ n4_ n5_ n6_; (try clear hb); (try clear hb2); (try clear hk); (try clear hi); (try clear ho0); (try clear ho1)) | ((with_reducible refine gate_dst (N := 5) rfl ?_); refine box_event ?hg (N := 5) ?hd (cs := #[.slice none 0 0, .slice none 0 0]) (t := 27) ?hr ?_; (case hd => rfl); (case hg => rfl); (case hr => first | (go_simp; done) | (go_simp; rfl)); intro gb1218 hg w28 hbox hb; have n0_ := Aside0.mk (Kd.R_below (by (with_reducible repeat (first | apply Kd.R_alloc | apply Kd.R_drewN | apply Kd.R_drew)); exact HO1205.out) hb); have n1_ := Aside0.mk (Kd.R_below (by (with_reducible repeat (first | apply Kd.R_alloc | apply Kd.R_drewN | apply Kd.R_drew)); exact HO1208.out) hb); have n2_ := Aside0.mk (Kd.R_below (by (with_reducible repeat (first | apply Kd.R_alloc | apply Kd.R_drewN | apply Kd.R_drew)); exact HO1211.out) hb); have n3_ := Aside0.mk (Kd.R_below (by (with_reducible repeat (first | apply Kd.R_alloc | apply Kd.R_drewN | apply Kd.R_drew)); exact HO1214.out) hb); have n4_ := Aside0.mk (Kd.R_below (by (with_reducible repeat (first | apply Kd.R_alloc | apply Kd.R_drewN | apply Kd.R_drew)); exact HO1217.out) hb); have n5_ := Aside0.mk (blk_below (g := gb1201) (o := .cells #[.slice A0_0 l0_0.length c0_0, .slice A0_1 l0_1.length c0_1] 24 (0, 0)) (by (with_reducible repeat (first | refine blk_drewN ?_ _ | refine blk_drew ?_ | refine blk_alloc ?_ _)); exact BK1201.out) hb); have n6_ := Aside0.mk (below_step (by repeat (first | (with_reducible first | exact HB.out | apply below_alloc | apply pw_below_drewN | apply below_drew1 | refine below_set ?_ GE1201.out) | exact HB.out)) hb); have n7_ := Aside0.mk (hbox); have n8_ := Aside0.mk ((by rw [hg]; exact (below_size (by repeat (first | (with_reducible first | exact HB.out | apply below_alloc | apply pw_below_drewN | apply below_drew1 | refine below_set ?_ GE1201.out) | exact HB.out))) : w.heap.size ≤ gb1218)); have n9_ := Aside0.mk ((by rw [hg]; exact (below_size (by repeat (first | (with_reducible first | exact HB.out | apply below_alloc | apply pw_below_drewN | apply below_drew1 | refine below_set ?_ GE1201.out) | exact HB.out))) : w.heap.size ≤ gb1218)); have n10_ := Aside0.mk ((by rw [hg]; exact Nat.ne_of_lt (blk_lt (g := gb1201) (o := .cells #[.slice A0_0 l0_0.length c0_0, .slice A0_1 l0_1.length c0_1] 24 (0, 0)) (by (with_reducible repeat (first | refine blk_drewN ?_ _ | refine blk_drew ?_ | refine blk_alloc ?_ _)); exact BK1201.out)) : gb1201 ≠ gb1218)); have n11_ := Aside0.mk ((by rw [hg]; exact Nat.ne_of_gt (blk_lt (g := gb1201) (o := .cells #[.slice A0_0 l0_0.length c0_0, .slice A0_1 l0_1.length c0_1] 24 (0, 0)) (by (with_reducible repeat (first | refine blk_drewN ?_ _ | refine blk_drew ?_ | refine blk_alloc ?_ _)); exact BK1201.out)) : gb1218 ≠ gb1201)); clear HO1205; clear HO1208; clear HO1211; clear HO1214; clear HO1217; clear BK1201; clear HB; have HO1205 := n0_; have HO1208 := n1_; have HO1211 := n2_; have HO1214 := n3_; have HO1217 := n4_; have BK1201 := n5_; have HB := n6_; have BK1218 := n7_; have GW1218 := n8_; have GE1218 := n9_; have NB1201_1218 := n10_; have NB1218_1201 := n11_; clear n0_ n1_ n2_ n3_ n4_ n5_ n6_ n7_ n8_ n9_ n10_ n11_; clear hb hbox hg; obtain ⟨Ao29, co29, eo29⟩ := Kd.R_slice HO1214.out; subst eo29; have hnb30 := NB1218_1201.out; have hnc30 := NB1201_1218.out; have hcz31_0 : w28.cell? ⟨gb1218, 0, none⟩ = some (.slice none 0 0) := (blk_cell BK1218.out 0).trans rfl; have hcz31_1 : w28.cell? ⟨gb1218, 1, none⟩ = some (.slice none 0 0) := (blk_cell BK1218.out 1).trans rfl; have hfz31_0 := blk_frozen BK1218.out 0; have hfz31_1 := blk_frozen BK1218.out 1; obtain ⟨Ao32, co32, eo32⟩ := Kd.R_slice HO1217.out; subst eo32) | ((with_reducible refine gate_callee (f := 40) rfl ?_); refine goesL_ (some 22) rfl rfl Try.func40 (by kernel_rfl) rfl #[.agg #[.slice Ao29 t1212.length co29, .slice Ao32 t1215.length co32]] rfl (by (try simp only [List.map_toArray, List.map_cons, List.map_nil]); first | done | rfl | (simp only [List.length_drop, List.length_take]; rfl)) ?_; (with_reducible refine (impl_StratumOf.calls k _ _ t1212 _ _ t1215 t1219 _ ?side1 ?side2 ?side3 ?side4 A10.out).mono ?_); (case side1 => refine (Kd.R_reads' (e := 3) (base := w.heap.size) (ok := fun k_ => (((some k_ ≠ (.slice Ao32 t1215.length co32 : Value).ownBlock ∧ some k_ ≠ (.slice Ao23 t1203.length co23 : Value).ownBlock) ∧ some k_ ≠ (.slice Ao24 t1206.length co24 : Value).ownBlock) ∧ some k_ ≠ (v1210 : Value).ownBlock)) (n := t1212.length) (c := co29) ?_).2.2; exact (by (with_reducible repeat (first | apply Kd.R_alloc | apply Kd.R_drewN | apply Kd.R_drew)); exact (Kd.R_mono (Kd.R_far (p := ⟨gb1218, 1, none⟩) (Kd.R_far (p := ⟨gb1218, 0, none⟩) (Kd.R_types HO1214.out BK1218.out (by decide)) (fun _ hk => hk.2) (.slice Ao29 t1212.length co29)) (fun _ hk => hk.2) (.slice Ao32 t1215.length co32)) (fun _ h_ => h_.1)))); (case side2 => exact (Kd.R_reads' HO1214.out).2.1); (case side3 => refine (Kd.R_reads' (e := 3) (base := w.heap.size) (ok := fun k_ => (((some k_ ≠ (.slice Ao29 t1212.length co29 : Value).ownBlock ∧ some k_ ≠ (.slice Ao23 t1203.length co23 : Value).ownBlock) ∧ some k_ ≠ (.slice Ao24 t1206.length co24 : Value).ownBlock) ∧ some k_ ≠ (v1210 : Value).ownBlock)) (n := t1215.length) (c := co32) ?_).2.2; exact (by (with_reducible repeat (first | apply Kd.R_alloc | apply Kd.R_drewN | apply Kd.R_drew)); exact (Kd.R_mono (Kd.R_far (p := ⟨gb1218, 1, none⟩) (Kd.R_far (p := ⟨gb1218, 0, none⟩) (Kd.R_types HO1217.out BK1218.out (by decide)) (fun _ hk => hk.2) (.slice Ao29 t1212.length co29)) (fun _ hk => hk.2) (.slice Ao32 t1215.length co32)) (fun _ h_ => h_.1)))); (case side4 => exact (Kd.R_reads' HO1217.out).2.1); rintro e w33 ⟨v1220, rfl, ho0, hb⟩; refine ⟨_, rfl, ?_⟩; have n0_ := Aside0.mk (Kd.R_elder' (by (with_reducible repeat (first | apply Kd.R_alloc | apply Kd.R_drewN | apply Kd.R_drew)); exact (Kd.R_mono (Kd.R_far (p := ⟨gb1218, 1, none⟩) (Kd.R_far (p := ⟨gb1218, 0, none⟩) (Kd.R_types HO1205.out BK1218.out (by decide)) (fun _ hk => hk.2) (.slice Ao29 t1212.length co29)) (fun _ hk => hk.2) (.slice Ao32 t1215.length co32)) (fun _ h_ => h_.1))) (Kd.R_base ho0) hb); have n1_ := Aside0.mk (Kd.R_elder' (by (with_reducible repeat (first | apply Kd.R_alloc | apply Kd.R_drewN | apply Kd.R_drew)); exact (Kd.R_mono (Kd.R_far (p := ⟨gb1218, 1, none⟩) (Kd.R_far (p := ⟨gb1218, 0, none⟩) (Kd.R_types HO1208.out BK1218.out (by decide)) (fun _ hk => hk.2) (.slice Ao29 t1212.length co29)) (fun _ hk => hk.2) (.slice Ao32 t1215.length co32)) (fun _ h_ => h_.1))) (Kd.R_base ho0) hb); have n2_ := Aside0.mk (Kd.R_elder' (by (with_reducible repeat (first | apply Kd.R_alloc | apply Kd.R_drewN | apply Kd.R_drew)); exact (Kd.R_mono (Kd.R_far (p := ⟨gb1218, 1, none⟩) (Kd.R_far (p := ⟨gb1218, 0, none⟩) (Kd.R_types HO1211.out BK1218.out (by decide)) (fun _ hk => hk.2) (.slice Ao29 t1212.length co29)) (fun _ hk => hk.2) (.slice Ao32 t1215.length co32)) (fun _ h_ => h_.1))) (Kd.R_base ho0) hb); have n3_ := Aside0.mk (Kd.R_elder' (by (with_reducible repeat (first | apply Kd.R_alloc | apply Kd.R_drewN | apply Kd.R_drew)); exact (Kd.R_mono (Kd.R_far (p := ⟨gb1218, 1, none⟩) (Kd.R_far (p := ⟨gb1218, 0, none⟩) (Kd.R_types HO1214.out BK1218.out (by decide)) (fun _ hk => hk.2) (.slice Ao29 t1212.length co29)) (fun _ hk => hk.2) (.slice Ao32 t1215.length co32)) (fun _ h_ => h_.1))) (Kd.R_base ho0) hb); have n4_ := Aside0.mk (Kd.R_elder' (by (with_reducible repeat (first | apply Kd.R_alloc | apply Kd.R_drewN | apply Kd.R_drew)); exact (Kd.R_mono (Kd.R_far (p := ⟨gb1218, 1, none⟩) (Kd.R_far (p := ⟨gb1218, 0, none⟩) (Kd.R_types HO1217.out BK1218.out (by decide)) (fun _ hk => hk.2) (.slice Ao29 t1212.length co29)) (fun _ hk => hk.2) (.slice Ao32 t1215.length co32)) (fun _ h_ => h_.1))) (Kd.R_base ho0) hb); have n5_ := Aside0.mk (Kd.R_lower (Kd.R_new' (Kd.R_new' (Kd.R_new' (Kd.R_new' (Kd.R_new' ho0 (Kd.R_lt (by (with_reducible repeat (first | apply Kd.R_alloc | apply Kd.R_drewN | apply Kd.R_drew)); exact (Kd.R_mono (Kd.R_far (p := ⟨gb1218, 1, none⟩) (Kd.R_far (p := ⟨gb1218, 0, none⟩) (Kd.R_types HO1205.out BK1218.out (by decide)) (fun _ hk => hk.2) (.slice Ao29 t1212.length co29)) (fun _ hk => hk.2) (.slice Ao32 t1215.length co32)) (fun _ h_ => h_.1))))) (Kd.R_lt (by (with_reducible repeat (first | apply Kd.R_alloc | apply Kd.R_drewN | apply Kd.R_drew)); exact (Kd.R_mono (Kd.R_far (p := ⟨gb1218, 1, none⟩) (Kd.R_far (p := ⟨gb1218, 0, none⟩) (Kd.R_types HO1208.out BK1218.out (by decide)) (fun _ hk => hk.2) (.slice Ao29 t1212.length co29)) (fun _ hk => hk.2) (.slice Ao32 t1215.length co32)) (fun _ h_ => h_.1))))) (Kd.R_lt (by (with_reducible repeat (first | apply Kd.R_alloc | apply Kd.R_drewN | apply Kd.R_drew)); exact (Kd.R_mono (Kd.R_far (p := ⟨gb1218, 1, none⟩) (Kd.R_far (p := ⟨gb1218, 0, none⟩) (Kd.R_types HO1211.out BK1218.out (by decide)) (fun _ hk => hk.2) (.slice Ao29 t1212.length co29)) (fun _ hk => hk.2) (.slice Ao32 t1215.length co32)) (fun _ h_ => h_.1))))) (Kd.R_lt (by (with_reducible repeat (first | apply Kd.R_alloc | apply Kd.R_drewN | apply Kd.R_drew)); exact (Kd.R_mono (Kd.R_far (p := ⟨gb1218, 1, none⟩) (Kd.R_far (p := ⟨gb1218, 0, none⟩) (Kd.R_types HO1214.out BK1218.out (by decide)) (fun _ hk => hk.2) (.slice Ao29 t1212.length co29)) (fun _ hk => hk.2) (.slice Ao32 t1215.length co32)) (fun _ h_ => h_.1))))) (Kd.R_lt (by (with_reducible repeat (first | apply Kd.R_alloc | apply Kd.R_drewN | apply Kd.R_drew)); exact (Kd.R_mono (Kd.R_far (p := ⟨gb1218, 1, none⟩) (Kd.R_far (p := ⟨gb1218, 0, none⟩) (Kd.R_types HO1217.out BK1218.out (by decide)) (fun _ hk => hk.2) (.slice Ao29 t1212.length co29)) (fun _ hk => hk.2) (.slice Ao32 t1215.length co32)) (fun _ h_ => h_.1))))) (below_size (by repeat (first | (with_reducible first | exact HB.out | apply below_alloc | apply pw_below_drewN | apply below_drew1 | refine below_set ?_ GE1201.out | refine below_set ?_ GE1218.out) | exact HB.out)))); have n6_ := Aside0.mk (blk_below (g := gb1201) (o := .cells #[.slice A0_0 l0_0.length c0_0, .slice A0_1 l0_1.length c0_1] 24 (0, 0)) (by (with_reducible repeat (first | refine blk_drewN ?_ _ | refine blk_drew ?_ | refine blk_alloc ?_ _)); refine blk_far ?_ NB1201_1218.out _; (with_reducible repeat (first | refine blk_drewN ?_ _ | refine blk_drew ?_ | refine blk_alloc ?_ _)); refine blk_far ?_ NB1201_1218.out _; (with_reducible repeat (first | refine blk_drewN ?_ _ | refine blk_drew ?_ | refine blk_alloc ?_ _)); exact BK1201.out) hb); have n7_ := Aside0.mk (blk_below (g := gb1218) (o := .cells #[.slice Ao29 t1212.length co29, .slice Ao32 t1215.length co32] 27 (0, 0)) (by (with_reducible repeat (first | refine blk_drewN ?_ _ | refine blk_drew ?_ | refine blk_alloc ?_ _)); refine blk_put (cs := #[.slice Ao29 t1212.length co29, .slice none 0 0]) ?_ 1 _ rfl; (with_reducible repeat (first | refine blk_drewN ?_ _ | refine blk_drew ?_ | refine blk_alloc ?_ _)); refine blk_put (cs := #[.slice none 0 0, .slice none 0 0]) ?_ 0 _ rfl; (with_reducible repeat (first | refine blk_drewN ?_ _ | refine blk_drew ?_ | refine blk_alloc ?_ _)); exact BK1218.out) hb); have n8_ := Aside0.mk (below_step (by repeat (first | (with_reducible first | exact HB.out | apply below_alloc | apply pw_below_drewN | apply below_drew1 | refine below_set ?_ GE1201.out | refine below_set ?_ GE1218.out) | exact HB.out)) hb); clear HO1205; clear HO1208; clear HO1211; clear HO1214; clear HO1217; clear BK1201; clear BK1218; clear HB; have HO1205 := n0_; have HO1208 := n1_; have HO1211 := n2_; have HO1214 := n3_; have HO1217 := n4_; have HO1221 := n5_; have BK1201 := n6_; have BK1218 := n7_; have HB := n8_; clear n0_ n1_ n2_ n3_ n4_ n5_ n6_ n7_ n8_; (try clear hb); (try clear hb2); (try clear hk); (try clear hi); (try clear ho0); obtain ⟨Ao34, co34, eo34⟩ := Kd.R_slice HO1221.out; subst eo34; obtain ⟨Ao35, co35, eo35⟩ := Kd.R_slice HO1211.out; subst eo35) | ((with_reducible refine gate_callee (f := 36) rfl ?_); refine goesL_ (some 25) rfl rfl Try.func36 (by kernel_rfl) rfl #[.slice Ao34 t1219.length co34, .slice Ao35 t1209.length co35] rfl (by (try simp only [List.map_toArray, List.map_cons, List.map_nil]); first | done | rfl | (simp only [List.length_drop, List.length_take]; rfl)) ?_; (with_reducible refine (laws_eqIntS.calls k _ _ t1219 _ _ t1209 true _ ?side1 ?side2 ?side3 ?side4 A11.out).mono ?_); (case side1 => repeat (first | exact (Kd.R_reads' HO1221.out).2.2 | (with_reducible refine Kd.C_alloc ?_ _) | (with_reducible refine Kd.C_drewN ?_ _) | (with_reducible refine Kd.C_drew ?_))); (case side2 => exact (Kd.R_reads' HO1221.out).2.1); (case side3 => repeat (first | exact (Kd.R_reads' HO1211.out).2.2 | (with_reducible refine Kd.C_alloc ?_ _) | (with_reducible refine Kd.C_drewN ?_ _) | (with_reducible refine Kd.C_drew ?_))); (case side4 => exact (Kd.R_reads' HO1211.out).2.1); rintro e w' ⟨rfl, ⟨nd, rfl⟩⟩; refine ⟨_, rfl, ?_⟩))
    (try (rw [drewN_self w33]; generalize hq_ : World.drewN w33 _ = w33; have n0_ := Aside0.mk (Kd.R_at hq_ HO1205.out); have n1_ := Aside0.mk (Kd.R_at hq_ HO1208.out); have n2_ := Aside0.mk (Kd.R_at hq_ HO1211.out); have n3_ := Aside0.mk (Kd.R_at hq_ HO1214.out); have n4_ := Aside0.mk (Kd.R_at hq_ HO1217.out); have n5_ := Aside0.mk (Kd.R_at hq_ HO1221.out); have n6_ : Aside0 (w33.heap[gb1201]? = some (.cells #[.slice A0_0 l0_0.length c0_0, .slice A0_1 l0_1.length c0_1] 24 (0, 0))) := ⟨by rw [← hq_]; exact (by (with_reducible repeat (first | refine blk_drewN ?_ _ | refine blk_drew ?_ | refine blk_alloc ?_ _)); exact BK1201.out)⟩; have n7_ : Aside0 (w33.heap[gb1218]? = some (.cells #[.slice Ao29 t1212.length co29, .slice Ao32 t1215.length co32] 27 (0, 0))) := ⟨by rw [← hq_]; exact (by (with_reducible repeat (first | refine blk_drewN ?_ _ | refine blk_drew ?_ | refine blk_alloc ?_ _)); exact BK1218.out)⟩; have n8_ : Aside0 (Below w.heap.size w w33) := ⟨by rw [← hq_]; exact (by repeat (first | (with_reducible first | exact HB.out | apply below_alloc | apply pw_below_drewN | apply below_drew1 | refine below_set ?_ GE1201.out | refine below_set ?_ GE1218.out) | exact HB.out))⟩; clear HO1205 HO1208 HO1211 HO1214 HO1217 HO1221 BK1201 BK1218 HB hq_; have HO1205 := n0_; have HO1208 := n1_; have HO1211 := n2_; have HO1214 := n3_; have HO1217 := n4_; have HO1221 := n5_; have BK1201 := n6_; have BK1218 := n7_; have HB := n8_; clear n0_ n1_ n2_ n3_ n4_ n5_ n6_ n7_ n8_))
    have n0_ := Aside0.mk (Kd.R_drew HO1205.out)
    have n1_ := Aside0.mk (Kd.R_drew HO1208.out)
    have n2_ := Aside0.mk (Kd.R_drew HO1211.out)
    have n3_ := Aside0.mk (Kd.R_drew HO1214.out)
    have n4_ := Aside0.mk (Kd.R_drew HO1217.out)
    have n5_ := Aside0.mk (Kd.R_drew HO1221.out)
    have n6_ := Aside0.mk (blk_drew BK1201.out)
    have n7_ := Aside0.mk (blk_drew BK1218.out)
    have n8_ := Aside0.mk (below_drew1 HB.out)
    clear HO1205 HO1208 HO1211 HO1214 HO1217 HO1221 BK1201 BK1218 HB
    have HO1205 := n0_
    have HO1208 := n1_
    have HO1211 := n2_
    have HO1214 := n3_
    have HO1217 := n4_
    have HO1221 := n5_
    have BK1201 := n6_
    have BK1218 := n7_
    have HB := n8_
    clear n0_ n1_ n2_ n3_ n4_ n5_ n6_ n7_ n8_
    refine start_ (n := 5) (S := fun w' => w'.cell? ⟨gb1218, 0, none⟩ = some (.slice Ao29 t1212.length co29) ∧ w'.cell? ⟨gb1218, 1, none⟩ = some (.slice Ao32 t1215.length co32) ∧ w'.cell? ⟨gb1201, 0, none⟩ = some (.slice A0_0 l0_0.length c0_0) ∧ w'.cell? ⟨gb1201, 1, none⟩ = some (.slice A0_1 l0_1.length c0_1)) (ds := []) #[false, false, false, false, false] (by kernel_rfl) rfl rfl ⟨(blk_cell BK1218.out 0).trans rfl, (blk_cell BK1218.out 1).trans rfl, (blk_cell BK1201.out 0).trans rfl, (blk_cell BK1201.out 1).trans rfl⟩ (fun hHeld => ?_)
    generalize w33.drew = w36 at HO1205 HO1208 HO1211 HO1214 HO1217 HO1221 BK1201 BK1218 HB hHeld ⊢
    refine take_ (i := 0) (N := some 27) (v := ?_) (a' := ?_) #[true, false, false, false, false] rfl rfl (by kernel_rfl) (fun _ _ _ h => h) (Or.inl ⟨by rfl, ?_⟩) hHeld ?_ ?_
    rotate_left
    ·rintro w' ⟨s0, s1, s2, s3⟩
     go_simp
     with_reducible rfl
    rotate_left
    ·simp only [Act.put, List.setIfInBounds_toArray, List.set_cons_zero, List.set_cons_succ, i64_w, i32_w]
     rfl
    refine take_ (i := 1) (N := some 28) (v := ?_) (a' := ?_) #[true, true, false, false, false] rfl rfl (by kernel_rfl) (fun _ _ _ h => h) (Or.inl ⟨by rfl, ?_⟩) hHeld ?_ ?_
    rotate_left
    ·rintro w' ⟨s0, s1, s2, s3⟩
     go_simp
     with_reducible rfl
    rotate_left
    ·simp only [Act.put, List.setIfInBounds_toArray, List.set_cons_zero, List.set_cons_succ, i64_w, i32_w]
     rfl
    refine one_ (i := 2) (N := some 29) #[true, true, true, false, false] rfl rfl (by kernel_rfl) (by decide) (fun K hK => ?_)
    refine goes_ Try.func14 (by kernel_rfl) rfl #[.agg #[.slice A0_0 l0_0.length c0_0, .slice A0_1 l0_1.length c0_1]] (by rfl) rfl rfl (by (try simp only [List.map_toArray, List.map_cons, List.map_nil]); first | done | rfl | (simp only [List.length_drop, List.length_take]; rfl)) ?_
    with_reducible refine (laws_toSurface.calls k _ _ l0_0 _ _ l0_1 t1223 t1226 _ ?side1 ?side2 ?side3 ?side4 A13.out).mono ?_
    (case side1 => repeat (first | exact (Kd.C_below HR0_0.out HB.out) | (with_reducible refine Kd.C_alloc ?_ _) | (with_reducible refine Kd.C_drewN ?_ _) | (with_reducible refine Kd.C_drew ?_)))
    (case side2 => exact HC0_0.out)
    (case side3 => repeat (first | exact (Kd.C_below HR0_1.out HB.out) | (with_reducible refine Kd.C_alloc ?_ _) | (with_reducible refine Kd.C_drewN ?_ _) | (with_reducible refine Kd.C_drew ?_)))
    (case side4 => exact HC0_1.out)
    rintro e w37 ⟨v1224, v1227, rfl, ho0, ho1, hb⟩
    refine ⟨_, rfl, ?_⟩
    have n0_ := Aside0.mk (Kd.R_mono (Kd.R_told (Kd.R_told (Kd.R_old (by (with_reducible repeat (first | apply Kd.R_alloc | apply Kd.R_drewN | apply Kd.R_drew)); exact HO1205.out) hb) (Kd.R_base ho0)) (Kd.R_base ho1)) (fun _ h_ => h_.1))
    have n1_ := Aside0.mk (Kd.R_mono (Kd.R_told (Kd.R_told (Kd.R_old (by (with_reducible repeat (first | apply Kd.R_alloc | apply Kd.R_drewN | apply Kd.R_drew)); exact HO1208.out) hb) (Kd.R_base ho0)) (Kd.R_base ho1)) (fun _ h_ => h_.1))
    have n2_ := Aside0.mk (Kd.R_mono (Kd.R_told (Kd.R_told (Kd.R_old (by (with_reducible repeat (first | apply Kd.R_alloc | apply Kd.R_drewN | apply Kd.R_drew)); exact HO1211.out) hb) (Kd.R_base ho0)) (Kd.R_base ho1)) (fun _ h_ => h_.1))
    have n3_ := Aside0.mk (Kd.R_mono (Kd.R_told (Kd.R_told (Kd.R_old (by (with_reducible repeat (first | apply Kd.R_alloc | apply Kd.R_drewN | apply Kd.R_drew)); exact HO1214.out) hb) (Kd.R_base ho0)) (Kd.R_base ho1)) (fun _ h_ => h_.1))
    have n4_ := Aside0.mk (Kd.R_mono (Kd.R_told (Kd.R_told (Kd.R_old (by (with_reducible repeat (first | apply Kd.R_alloc | apply Kd.R_drewN | apply Kd.R_drew)); exact HO1217.out) hb) (Kd.R_base ho0)) (Kd.R_base ho1)) (fun _ h_ => h_.1))
    have n5_ := Aside0.mk (Kd.R_mono (Kd.R_told (Kd.R_told (Kd.R_old (by (with_reducible repeat (first | apply Kd.R_alloc | apply Kd.R_drewN | apply Kd.R_drew)); exact HO1221.out) hb) (Kd.R_base ho0)) (Kd.R_base ho1)) (fun _ h_ => h_.1))
    have n6_ := Aside0.mk (Kd.R_lower (Kd.R_new' (Kd.R_new' (Kd.R_new' (Kd.R_new' (Kd.R_new' (Kd.R_new' ho0 (Kd.R_lt (by (with_reducible repeat (first | apply Kd.R_alloc | apply Kd.R_drewN | apply Kd.R_drew)); exact HO1205.out))) (Kd.R_lt (by (with_reducible repeat (first | apply Kd.R_alloc | apply Kd.R_drewN | apply Kd.R_drew)); exact HO1208.out))) (Kd.R_lt (by (with_reducible repeat (first | apply Kd.R_alloc | apply Kd.R_drewN | apply Kd.R_drew)); exact HO1211.out))) (Kd.R_lt (by (with_reducible repeat (first | apply Kd.R_alloc | apply Kd.R_drewN | apply Kd.R_drew)); exact HO1214.out))) (Kd.R_lt (by (with_reducible repeat (first | apply Kd.R_alloc | apply Kd.R_drewN | apply Kd.R_drew)); exact HO1217.out))) (Kd.R_lt (by (with_reducible repeat (first | apply Kd.R_alloc | apply Kd.R_drewN | apply Kd.R_drew)); exact HO1221.out))) (below_size (by repeat (first | (with_reducible first | exact HB.out | apply below_alloc | apply pw_below_drewN | apply below_drew1 | refine below_set ?_ GE1201.out | refine below_set ?_ GE1218.out) | exact HB.out))))
    have n7_ := Aside0.mk (Kd.R_lower (Kd.R_new' (Kd.R_new' (Kd.R_new' (Kd.R_new' (Kd.R_new' (Kd.R_new' ho1 (Kd.R_lt (by (with_reducible repeat (first | apply Kd.R_alloc | apply Kd.R_drewN | apply Kd.R_drew)); exact HO1205.out))) (Kd.R_lt (by (with_reducible repeat (first | apply Kd.R_alloc | apply Kd.R_drewN | apply Kd.R_drew)); exact HO1208.out))) (Kd.R_lt (by (with_reducible repeat (first | apply Kd.R_alloc | apply Kd.R_drewN | apply Kd.R_drew)); exact HO1211.out))) (Kd.R_lt (by (with_reducible repeat (first | apply Kd.R_alloc | apply Kd.R_drewN | apply Kd.R_drew)); exact HO1214.out))) (Kd.R_lt (by (with_reducible repeat (first | apply Kd.R_alloc | apply Kd.R_drewN | apply Kd.R_drew)); exact HO1217.out))) (Kd.R_lt (by (with_reducible repeat (first | apply Kd.R_alloc | apply Kd.R_drewN | apply Kd.R_drew)); exact HO1221.out))) (below_size (by repeat (first | (with_reducible first | exact HB.out | apply below_alloc | apply pw_below_drewN | apply below_drew1 | refine below_set ?_ GE1201.out | refine below_set ?_ GE1218.out) | exact HB.out))))
    have n8_ := Aside0.mk (blk_below (g := gb1201) (o := .cells #[.slice A0_0 l0_0.length c0_0, .slice A0_1 l0_1.length c0_1] 24 (0, 0)) (by (with_reducible repeat (first | refine blk_drewN ?_ _ | refine blk_drew ?_ | refine blk_alloc ?_ _)); exact BK1201.out) hb)
    have n9_ := Aside0.mk (blk_below (g := gb1218) (o := .cells #[.slice Ao29 t1212.length co29, .slice Ao32 t1215.length co32] 27 (0, 0)) (by (with_reducible repeat (first | refine blk_drewN ?_ _ | refine blk_drew ?_ | refine blk_alloc ?_ _)); exact BK1218.out) hb)
    have n10_ := Aside0.mk (below_step (by repeat (first | (with_reducible first | exact HB.out | apply below_alloc | apply pw_below_drewN | apply below_drew1 | refine below_set ?_ GE1201.out | refine below_set ?_ GE1218.out) | exact HB.out)) hb)
    clear HO1205 HO1208 HO1211 HO1214 HO1217 HO1221 BK1201 BK1218 HB
    have HO1205 := n0_
    have HO1208 := n1_
    have HO1211 := n2_
    have HO1214 := n3_
    have HO1217 := n4_
    have HO1221 := n5_
    have HO1225 := n6_
    have HO1228 := n7_
    have BK1201 := n8_
    have BK1218 := n9_
    have HB := n10_
    clear n0_ n1_ n2_ n3_ n4_ n5_ n6_ n7_ n8_ n9_ n10_
    (try clear hb)
    (try clear hb2)
    (try clear hk)
    (try clear hi)
    (try clear ho0)
    (try clear ho1)
    obtain ⟨Ao38, co38, eo38⟩ := Kd.R_slice HO1225.out
    (first | subst eo38 | (injection eo38 with f1_ f2_ f3_; have f4_ := f1_.symm; have f5_ := f3_.symm; clear f1_ f2_ f3_; subst f4_; subst f5_))
    obtain ⟨Ao39, co39, eo39⟩ := Kd.R_slice HO1228.out
    (first | subst eo39 | (injection eo39 with f1_ f2_ f3_; have f4_ := f1_.symm; have f5_ := f3_.symm; clear f1_ f2_ f3_; subst f4_; subst f5_))
    refine hK.out _ _ ⟨(blk_cell BK1218.out 0).trans rfl, (blk_cell BK1218.out 1).trans rfl, (blk_cell BK1201.out 0).trans rfl, (blk_cell BK1201.out 1).trans rfl⟩ (fun hHeld => ?_)
    clear hK K
    refine norm_ (a' := ?_) ?_ ?_
    rotate_left
    ·show Act.put _ (some 29) _ = _
     simp only [Act.put, List.setIfInBounds_toArray, List.set_cons_zero, List.set_cons_succ, i64_w, i32_w]
     rfl
    refine one_ (i := 3) (N := some 30) #[true, true, true, true, false] rfl rfl (by kernel_rfl) (by decide) (fun K hK => ?_)
    refine goes_ Try.func16 (by kernel_rfl) rfl #[.agg #[.slice Ao29 t1212.length co29, .slice Ao32 t1215.length co32], .agg #[.slice Ao38 t1223.length co38, .slice Ao39 t1226.length co39]] (by rfl) rfl rfl (by (try simp only [List.map_toArray, List.map_cons, List.map_nil]); first | done | rfl | (simp only [List.length_drop, List.length_take]; rfl)) ?_
    with_reducible refine (laws_eqSurface.calls k _ _ t1212 _ _ t1215 _ _ t1223 _ _ t1226 true _ ?side1 ?side2 ?side3 ?side4 ?side5 ?side6 ?side7 ?side8 A14.out).mono ?_
    (case side1 => repeat (first | exact (Kd.R_reads' HO1214.out).2.2 | (with_reducible refine Kd.C_alloc ?_ _) | (with_reducible refine Kd.C_drewN ?_ _) | (with_reducible refine Kd.C_drew ?_)))
    (case side2 => exact (Kd.R_reads' HO1214.out).2.1)
    (case side3 => repeat (first | exact (Kd.R_reads' HO1217.out).2.2 | (with_reducible refine Kd.C_alloc ?_ _) | (with_reducible refine Kd.C_drewN ?_ _) | (with_reducible refine Kd.C_drew ?_)))
    (case side4 => exact (Kd.R_reads' HO1217.out).2.1)
    (case side5 => repeat (first | exact (Kd.R_reads' HO1225.out).2.2 | (with_reducible refine Kd.C_alloc ?_ _) | (with_reducible refine Kd.C_drewN ?_ _) | (with_reducible refine Kd.C_drew ?_)))
    (case side6 => exact (Kd.R_reads' HO1225.out).2.1)
    (case side7 => repeat (first | exact (Kd.R_reads' HO1228.out).2.2 | (with_reducible refine Kd.C_alloc ?_ _) | (with_reducible refine Kd.C_drewN ?_ _) | (with_reducible refine Kd.C_drew ?_)))
    (case side8 => exact (Kd.R_reads' HO1228.out).2.1)
    rintro e w40 ⟨rfl, hb⟩
    refine ⟨_, rfl, ?_⟩
    have n0_ := Aside0.mk (Kd.R_below (by (with_reducible repeat (first | apply Kd.R_alloc | apply Kd.R_drewN | apply Kd.R_drew)); exact HO1205.out) hb)
    have n1_ := Aside0.mk (Kd.R_below (by (with_reducible repeat (first | apply Kd.R_alloc | apply Kd.R_drewN | apply Kd.R_drew)); exact HO1208.out) hb)
    have n2_ := Aside0.mk (Kd.R_below (by (with_reducible repeat (first | apply Kd.R_alloc | apply Kd.R_drewN | apply Kd.R_drew)); exact HO1211.out) hb)
    have n3_ := Aside0.mk (Kd.R_below (by (with_reducible repeat (first | apply Kd.R_alloc | apply Kd.R_drewN | apply Kd.R_drew)); exact HO1214.out) hb)
    have n4_ := Aside0.mk (Kd.R_below (by (with_reducible repeat (first | apply Kd.R_alloc | apply Kd.R_drewN | apply Kd.R_drew)); exact HO1217.out) hb)
    have n5_ := Aside0.mk (Kd.R_below (by (with_reducible repeat (first | apply Kd.R_alloc | apply Kd.R_drewN | apply Kd.R_drew)); exact HO1221.out) hb)
    have n6_ := Aside0.mk (Kd.R_below (by (with_reducible repeat (first | apply Kd.R_alloc | apply Kd.R_drewN | apply Kd.R_drew)); exact HO1225.out) hb)
    have n7_ := Aside0.mk (Kd.R_below (by (with_reducible repeat (first | apply Kd.R_alloc | apply Kd.R_drewN | apply Kd.R_drew)); exact HO1228.out) hb)
    have n8_ := Aside0.mk (blk_below (g := gb1201) (o := .cells #[.slice A0_0 l0_0.length c0_0, .slice A0_1 l0_1.length c0_1] 24 (0, 0)) (by (with_reducible repeat (first | refine blk_drewN ?_ _ | refine blk_drew ?_ | refine blk_alloc ?_ _)); exact BK1201.out) hb)
    have n9_ := Aside0.mk (blk_below (g := gb1218) (o := .cells #[.slice Ao29 t1212.length co29, .slice Ao32 t1215.length co32] 27 (0, 0)) (by (with_reducible repeat (first | refine blk_drewN ?_ _ | refine blk_drew ?_ | refine blk_alloc ?_ _)); exact BK1218.out) hb)
    have n10_ := Aside0.mk (below_step (by repeat (first | (with_reducible first | exact HB.out | apply below_alloc | apply pw_below_drewN | apply below_drew1 | refine below_set ?_ GE1201.out | refine below_set ?_ GE1218.out) | exact HB.out)) hb)
    clear HO1205 HO1208 HO1211 HO1214 HO1217 HO1221 HO1225 HO1228 BK1201 BK1218 HB
    have HO1205 := n0_
    have HO1208 := n1_
    have HO1211 := n2_
    have HO1214 := n3_
    have HO1217 := n4_
    have HO1221 := n5_
    have HO1225 := n6_
    have HO1228 := n7_
    have BK1201 := n8_
    have BK1218 := n9_
    have HB := n10_
    clear n0_ n1_ n2_ n3_ n4_ n5_ n6_ n7_ n8_ n9_ n10_
    (try clear hb)
    (try clear hb2)
    (try clear hk)
    (try clear hi)
    refine hK.out _ _ ⟨(blk_cell BK1218.out 0).trans rfl, (blk_cell BK1218.out 1).trans rfl, (blk_cell BK1201.out 0).trans rfl, (blk_cell BK1201.out 1).trans rfl⟩ (fun hHeld => ?_)
    clear hK K
    refine norm_ (a' := ?_) ?_ ?_
    rotate_left
    ·show Act.put _ (some 30) _ = _
     simp only [Act.put, List.setIfInBounds_toArray, List.set_cons_zero, List.set_cons_succ, i64_w, i32_w]
     rfl
    refine pure_ (i := 4) (N := some 31) (v := ?_) (a' := ?_) #[true, true, true, true, true] rfl rfl (by kernel_rfl) (fun _ _ _ h => h) (Or.inl ⟨by rfl, ?_⟩) ?_ ?_
    rotate_left
    ·intro w'
     go_simp
     with_reducible rfl
    rotate_left
    ·simp only [Act.put, List.setIfInBounds_toArray, List.set_cons_zero, List.set_cons_succ, i64_w, i32_w]
     rfl
    refine done_ (by kernel_rfl) ?_
    have hcz41_0 : w40.cell? ⟨gb1218, 0, none⟩ = some (.slice Ao29 t1212.length co29) := (blk_cell BK1218.out 0).trans rfl
    have hcz41_1 : w40.cell? ⟨gb1218, 1, none⟩ = some (.slice Ao32 t1215.length co32) := (blk_cell BK1218.out 1).trans rfl
    have hfz41_0 := blk_frozen BK1218.out 0
    have hfz41_1 := blk_frozen BK1218.out 1
    go_upto_region 14 with (first | ((with_reducible refine gate_callee (f := 20) rfl ?_); refine goesL_ (some 34) rfl rfl Try.func20 (by kernel_rfl) rfl #[.agg #[.slice Ao29 t1212.length co29, .slice Ao32 t1215.length co32], .int .i64 1] rfl (by (try simp only [List.map_toArray, List.map_cons, List.map_nil]); first | done | rfl | (simp only [List.length_drop, List.length_take]; rfl)) ?_; (with_reducible refine (laws_markSurface.calls k (fun k_ => some k_ = (.slice Ao29 t1212.length co29 : Value).ownBlock) (.slice Ao29 t1212.length co29) t1212 (fun k_ => some k_ = (.slice Ao32 t1215.length co32 : Value).ownBlock) (.slice Ao32 t1215.length co32) t1215 1 t1230 t1231 t1232 w _ ?side1 ?side2 ?side3 ?side4 ?side5 A16.out).mono ?_); (case side1 => repeat (first | (with_reducible first | exact HB.out | apply below_alloc | apply pw_below_drewN | apply below_drew1 | refine below_set ?_ GE1201.out | refine below_set ?_ GE1218.out) | exact HB.out)); (case side2 => exact Kd.R_tight rfl HO1214.out); (case side3 => exact fun k_ e_ => (HO1214.out.1 k_ e_.symm).1.1.1.1.1.1); (case side4 => exact Kd.R_tight rfl HO1217.out); (case side5 => exact fun k_ e_ => (HO1217.out.1 k_ e_.symm).1.1.1.1.1.1); rintro e w42 ⟨rfl, hy0, hy1, hb, hkp⟩; refine ⟨_, rfl, ?_⟩; have n0_ := Aside0.mk (blk_kept (by (with_reducible repeat (first | refine blk_drewN ?_ _ | refine blk_drew ?_ | refine blk_alloc ?_ _)); exact BK1201.out) hkp (fun hs_ => Or.elim hs_ (fun e_ => (fun e_ => (Kd.R_ne HO1214.out BK1201.out (by decide)) e_) e_) (fun e_ => (fun e_ => (Kd.R_ne HO1217.out BK1201.out (by decide)) e_) e_))); have n1_ := Aside0.mk (Kd.R_mono (ok' := fun k_ => some k_ ≠ (.slice Ao24 t1206.length co24 : Value).ownBlock ∧ some k_ ≠ (.slice Ao35 t1209.length co35 : Value).ownBlock ∧ some k_ ≠ (.slice Ao29 t1212.length co29 : Value).ownBlock ∧ some k_ ≠ (.slice Ao32 t1215.length co32 : Value).ownBlock ∧ some k_ ≠ (.slice Ao34 t1219.length co34 : Value).ownBlock ∧ some k_ ≠ (.slice Ao38 t1223.length co38 : Value).ownBlock ∧ some k_ ≠ (.slice Ao39 t1226.length co39 : Value).ownBlock) (Kd.R_keptB (HO1205.out) hkp (fun k_ hk_ hs_ => Or.elim hs_ (fun e_ => (hk_.1.1.1.1.2) e_) (fun e_ => (hk_.1.1.1.2) e_))) (fun k_ hk_ => ⟨hk_.1.1.1.1.1.1.1, hk_.1.1.1.1.1.1.2, hk_.1.1.1.1.1.2, hk_.1.1.1.1.2, hk_.1.1.1.2, hk_.1.1.2, hk_.1.2⟩)); have n2_ := Aside0.mk (Kd.R_mono (ok' := fun k_ => some k_ ≠ (.slice Ao23 t1203.length co23 : Value).ownBlock ∧ some k_ ≠ (.slice Ao35 t1209.length co35 : Value).ownBlock ∧ some k_ ≠ (.slice Ao29 t1212.length co29 : Value).ownBlock ∧ some k_ ≠ (.slice Ao32 t1215.length co32 : Value).ownBlock ∧ some k_ ≠ (.slice Ao34 t1219.length co34 : Value).ownBlock ∧ some k_ ≠ (.slice Ao38 t1223.length co38 : Value).ownBlock ∧ some k_ ≠ (.slice Ao39 t1226.length co39 : Value).ownBlock) (Kd.R_keptB (HO1208.out) hkp (fun k_ hk_ hs_ => Or.elim hs_ (fun e_ => (hk_.1.1.1.1.2) e_) (fun e_ => (hk_.1.1.1.2) e_))) (fun k_ hk_ => ⟨hk_.1.1.1.1.1.1.1, hk_.1.1.1.1.1.1.2, hk_.1.1.1.1.1.2, hk_.1.1.1.1.2, hk_.1.1.1.2, hk_.1.1.2, hk_.1.2⟩)); have n3_ := Aside0.mk (Kd.R_mono (ok' := fun k_ => some k_ ≠ (.slice Ao23 t1203.length co23 : Value).ownBlock ∧ some k_ ≠ (.slice Ao24 t1206.length co24 : Value).ownBlock ∧ some k_ ≠ (.slice Ao29 t1212.length co29 : Value).ownBlock ∧ some k_ ≠ (.slice Ao32 t1215.length co32 : Value).ownBlock ∧ some k_ ≠ (.slice Ao34 t1219.length co34 : Value).ownBlock ∧ some k_ ≠ (.slice Ao38 t1223.length co38 : Value).ownBlock ∧ some k_ ≠ (.slice Ao39 t1226.length co39 : Value).ownBlock) (Kd.R_keptB (HO1211.out) hkp (fun k_ hk_ hs_ => Or.elim hs_ (fun e_ => (hk_.1.1.1.1.2) e_) (fun e_ => (hk_.1.1.1.2) e_))) (fun k_ hk_ => ⟨hk_.1.1.1.1.1.1.1.2, hk_.1.1.1.1.1.1.2, hk_.1.1.1.1.1.2, hk_.1.1.1.1.2, hk_.1.1.1.2, hk_.1.1.2, hk_.1.2⟩)); have n4_ := Aside0.mk (Kd.R_reok rfl hy0 (fun k_ e_ => HO1214.out.1 k_ e_)); have n5_ := Aside0.mk (Kd.R_reok rfl hy1 (fun k_ e_ => HO1217.out.1 k_ e_)); have n6_ := Aside0.mk (blk_kept (by (with_reducible repeat (first | refine blk_drewN ?_ _ | refine blk_drew ?_ | refine blk_alloc ?_ _)); exact BK1218.out) hkp (fun hs_ => Or.elim hs_ (fun e_ => (fun e_ => (Kd.R_ne HO1214.out BK1218.out (by decide)) e_) e_) (fun e_ => (fun e_ => (Kd.R_ne HO1217.out BK1218.out (by decide)) e_) e_))); have n7_ := Aside0.mk (Kd.R_mono (ok' := fun k_ => some k_ ≠ (.slice Ao23 t1203.length co23 : Value).ownBlock ∧ some k_ ≠ (.slice Ao24 t1206.length co24 : Value).ownBlock ∧ some k_ ≠ (.slice Ao35 t1209.length co35 : Value).ownBlock ∧ some k_ ≠ (.slice Ao29 t1212.length co29 : Value).ownBlock ∧ some k_ ≠ (.slice Ao32 t1215.length co32 : Value).ownBlock ∧ some k_ ≠ (.slice Ao38 t1223.length co38 : Value).ownBlock ∧ some k_ ≠ (.slice Ao39 t1226.length co39 : Value).ownBlock) (Kd.R_keptB (HO1221.out) hkp (fun k_ hk_ hs_ => Or.elim hs_ (fun e_ => (hk_.1.1.1.2) e_) (fun e_ => (hk_.1.1.2) e_))) (fun k_ hk_ => ⟨hk_.1.1.1.1.1.1.1.2, hk_.1.1.1.1.1.1.2, hk_.1.1.1.1.1.2, hk_.1.1.1.1.2, hk_.1.1.1.2, hk_.1.1.2, hk_.1.2⟩)); have n8_ := Aside0.mk (Kd.R_mono (ok' := fun k_ => some k_ ≠ (.slice Ao23 t1203.length co23 : Value).ownBlock ∧ some k_ ≠ (.slice Ao24 t1206.length co24 : Value).ownBlock ∧ some k_ ≠ (.slice Ao35 t1209.length co35 : Value).ownBlock ∧ some k_ ≠ (.slice Ao29 t1212.length co29 : Value).ownBlock ∧ some k_ ≠ (.slice Ao32 t1215.length co32 : Value).ownBlock ∧ some k_ ≠ (.slice Ao34 t1219.length co34 : Value).ownBlock ∧ some k_ ≠ (.slice Ao39 t1226.length co39 : Value).ownBlock) (Kd.R_keptB (HO1225.out) hkp (fun k_ hk_ hs_ => Or.elim hs_ (fun e_ => (hk_.1.1.2) e_) (fun e_ => (hk_.1.2) e_))) (fun k_ hk_ => ⟨hk_.1.1.1.1.1.1.2, hk_.1.1.1.1.1.2, hk_.1.1.1.1.2, hk_.1.1.1.2, hk_.1.1.2, hk_.1.2, hk_.1.1.1.1.1.1.1⟩)); have n9_ := Aside0.mk (Kd.R_mono (ok' := fun k_ => some k_ ≠ (.slice Ao23 t1203.length co23 : Value).ownBlock ∧ some k_ ≠ (.slice Ao24 t1206.length co24 : Value).ownBlock ∧ some k_ ≠ (.slice Ao35 t1209.length co35 : Value).ownBlock ∧ some k_ ≠ (.slice Ao29 t1212.length co29 : Value).ownBlock ∧ some k_ ≠ (.slice Ao32 t1215.length co32 : Value).ownBlock ∧ some k_ ≠ (.slice Ao34 t1219.length co34 : Value).ownBlock ∧ some k_ ≠ (.slice Ao38 t1223.length co38 : Value).ownBlock) (Kd.R_keptB (HO1228.out) hkp (fun k_ hk_ hs_ => Or.elim hs_ (fun e_ => (hk_.1.1.2) e_) (fun e_ => (hk_.1.2) e_))) (fun k_ hk_ => ⟨hk_.1.1.1.1.1.1.2, hk_.1.1.1.1.1.2, hk_.1.1.1.1.2, hk_.1.1.1.2, hk_.1.1.2, hk_.1.2, hk_.1.1.1.1.1.1.1⟩)); have n10_ := Aside0.mk (hb); clear BK1201; clear HO1205; clear HO1208; clear HO1211; clear HO1214; clear HO1217; clear BK1218; clear HO1221; clear HO1225; clear HO1228; clear HB; have BK1201 := n0_; have HO1205 := n1_; have HO1208 := n2_; have HO1211 := n3_; have HO1214 := n4_; have HO1217 := n5_; have BK1218 := n6_; have HO1221 := n7_; have HO1225 := n8_; have HO1228 := n9_; have HB := n10_; clear n0_ n1_ n2_ n3_ n4_ n5_ n6_ n7_ n8_ n9_ n10_; (try clear hb); (try clear hkp); (try clear hy0); (try clear hy1)))
    (try simp only [Act.put, List.setIfInBounds_toArray, List.set_cons_zero, List.set_cons_succ])
    go_cut [42] (fun v42 wc => ∃ (kq : Nat) (x42_16 : Bool), v42 = .bool x42_16 ∧ Aside0 (laws_FnExactStratumOf.j0 kq t1209 t1219 x42_16 l0_0 l0_1 = some true) ∧ Aside0 (kq ≤ k) ∧ Aside0 (Kd.R (Kd.int .i64) 3 wc w.heap.size (fun k_ => some k_ ≠ ((.slice Ao34 t1219.length co34) : Value).ownBlock ∧ some k_ ≠ ((.slice Ao29 t1212.length co29) : Value).ownBlock ∧ some k_ ≠ ((.slice Ao32 t1215.length co32) : Value).ownBlock) (.slice Ao35 t1209.length co35) t1209) ∧ Aside0 (Kd.R (Kd.int .i64) 3 wc w.heap.size (fun k_ => some k_ ≠ ((.slice Ao35 t1209.length co35) : Value).ownBlock ∧ some k_ ≠ ((.slice Ao29 t1212.length co29) : Value).ownBlock ∧ some k_ ≠ ((.slice Ao32 t1215.length co32) : Value).ownBlock) (.slice Ao34 t1219.length co34) t1219) ∧ Aside0 (Kd.R (Kd.int .i64) 3 wc w.heap.size (fun k_ => some k_ ≠ ((.slice Ao35 t1209.length co35) : Value).ownBlock ∧ some k_ ≠ ((.slice Ao34 t1219.length co34) : Value).ownBlock ∧ some k_ ≠ ((.slice Ao32 t1215.length co32) : Value).ownBlock) (.slice Ao29 t1212.length co29) t1231) ∧ Aside0 (Kd.R (Kd.int .i64) 3 wc w.heap.size (fun k_ => some k_ ≠ ((.slice Ao35 t1209.length co35) : Value).ownBlock ∧ some k_ ≠ ((.slice Ao34 t1219.length co34) : Value).ownBlock ∧ some k_ ≠ ((.slice Ao29 t1212.length co29) : Value).ownBlock) (.slice Ao32 t1215.length co32) t1232) ∧ Aside0 (wc.heap[gb1201]? = some (.cells #[(.slice A0_0 l0_0.length c0_0), (.slice A0_1 l0_1.length c0_1)] 24 (0, 0))) ∧ Aside0 (wc.heap[gb1218]? = some (.cells #[(.slice Ao29 t1212.length co29), (.slice Ao32 t1215.length co32)] 27 (0, 0))) ∧ Aside0 (Below w.heap.size w wc))
    case first =>
     have H := HC17.out
     clear HC17
     by_cases c43 : t1230 < 0
     ·rw [if_pos c43] at H
      have c43b0 : decide (t1230 < 0) = true := decide_eq_true c43
      clear c43
      (first | rw [c43b0] | (simp only [i64_w, i32_w]; rw [c43b0]) | skip)
      cases k with
      | zero => rw [laws_FnExactStratumOf.j0] at H; exact absurd H (by simp)
      | succ k_ => rw [laws_FnExactStratumOf.j0, if_pos rfl] at H; exact absurd H (by simp)
     ·rw [if_neg c43] at H
      have c43b0 : decide (t1230 < 0) = false := decide_eq_false c43
      clear c43
      (first | rw [c43b0] | (simp only [i64_w, i32_w]; rw [c43b0]) | skip)
      replace H := Option.bind_eq_some_iff.mp H
      obtain ⟨t1233, A440, H⟩ := H
      replace H : (laws_FnExactStratumOf.j0 k t1209 t1219 (!t1233) l0_0 l0_1) = some true := H
      have A44 := Aside0.mk A440
      clear A440
      have H' := Aside0.mk H
      clear H
      go_wp2_with (first | (go_at_call 36; (with_reducible refine (laws_eqIntS.calls k _ _ t1219 _ _ t1209 t1233 _ ?side1 ?side2 ?side3 ?side4 A44.out).mono ?_); (case side1 => repeat (first | exact (Kd.R_reads' HO1221.out).2.2 | (with_reducible refine Kd.C_alloc ?_ _) | (with_reducible refine Kd.C_drewN ?_ _) | (with_reducible refine Kd.C_drew ?_))); (case side2 => exact (Kd.R_reads' HO1221.out).2.1); (case side3 => repeat (first | exact (Kd.R_reads' HO1211.out).2.2 | (with_reducible refine Kd.C_alloc ?_ _) | (with_reducible refine Kd.C_drewN ?_ _) | (with_reducible refine Kd.C_drew ?_))); (case side4 => exact (Kd.R_reads' HO1211.out).2.1); rintro e w' ⟨rfl, ⟨nd, rfl⟩⟩))
      go_meet
      case rel => exact ⟨_, (!t1233), (by first | rfl | (simp; done) | (simp [*]; done)), H', ⟨by first | omega | exact Nat.le_refl _⟩, ⟨by (with_reducible repeat (first | apply Kd.R_alloc | apply Kd.R_drewN | apply Kd.R_drew)); exact Kd.R_mono HO1211.out (fun _ hk => ⟨hk.2.2.2.2.1, ⟨hk.2.2.1, hk.2.2.2.1⟩⟩)⟩, ⟨by (with_reducible repeat (first | apply Kd.R_alloc | apply Kd.R_drewN | apply Kd.R_drew)); exact Kd.R_mono HO1221.out (fun _ hk => ⟨hk.2.2.1, ⟨hk.2.2.2.1, hk.2.2.2.2.1⟩⟩)⟩, ⟨by (with_reducible repeat (first | apply Kd.R_alloc | apply Kd.R_drewN | apply Kd.R_drew)); exact Kd.R_mono HO1214.out (fun _ hk => ⟨hk.1.1.1.2, ⟨hk.1.1.2, hk.1.1.1.1.1.1⟩⟩)⟩, ⟨by (with_reducible repeat (first | apply Kd.R_alloc | apply Kd.R_drewN | apply Kd.R_drew)); exact Kd.R_mono HO1217.out (fun _ hk => ⟨hk.1.1.1.2, ⟨hk.1.1.2, hk.1.1.1.1.1.1⟩⟩)⟩, ⟨by (with_reducible repeat (first | refine blk_drewN ?_ _ | refine blk_drew ?_ | refine blk_alloc ?_ _)); exact BK1201.out⟩, ⟨by (with_reducible repeat (first | refine blk_drewN ?_ _ | refine blk_drew ?_ | refine blk_alloc ?_ _)); exact BK1218.out⟩, ⟨by repeat (first | (with_reducible first | exact HB.out | apply below_alloc | apply pw_below_drewN | apply below_drew1 | refine below_set ?_ GE1201.out | refine below_set ?_ GE1218.out) | exact HB.out)⟩⟩
    case rest =>
     clear HC17
     try clear c1
     try clear c2
     try clear p2
     try clear c3
     try clear c3b0
     try clear c4
     try clear c11
     try clear c12
     try clear c14
     try clear c15
     try clear c16
     try clear c20
     try clear c30
     try clear c36
     try clear c39
     try clear c40
     try clear c43
     try clear c43b0
     try clear hcz19_0
     try clear hcz19_1
     try clear hcz21_0
     try clear hcz21_1
     try clear hcz26_0
     try clear hcz26_1
     try clear hcz31_0
     try clear hcz31_1
     try clear hcz41_0
     try clear hcz41_1
     try clear hcz5_0
     try clear hcz5_1
     try clear hfz19_0
     try clear hfz19_1
     try clear hfz21_0
     try clear hfz21_1
     try clear hfz26_0
     try clear hfz26_1
     try clear hfz31_0
     try clear hfz31_1
     try clear hfz41_0
     try clear hfz41_1
     try clear hfz5_0
     try clear hfz5_1
     obtain ⟨kq, x42_16, rfl, HA, HJ16, HO_4, HO_6, HO_1219000, HO_1219001, BK1201, BK1218, HB⟩ := hcut
     have hl1219000_16 := (Kd.R_reads' HO_1219000.out).1
     rw [hl1219000_16] at HO_1219000
     (try simp only [hl1219000_16])
     (try simp only [hl1219000_16] at BK1201)
     (try simp only [hl1219000_16] at BK1218)
     (try simp only [hl1219000_16] at HO_4)
     (try simp only [hl1219000_16] at HO_6)
     (try simp only [hl1219000_16] at HO_1219001)
     have hl1219001_16 := (Kd.R_reads' HO_1219001.out).1
     rw [hl1219001_16] at HO_1219001
     (try simp only [hl1219001_16])
     (try simp only [hl1219001_16] at BK1201)
     (try simp only [hl1219001_16] at BK1218)
     (try simp only [hl1219001_16] at HO_4)
     (try simp only [hl1219001_16] at HO_6)
     (try simp only [hl1219001_16] at HO_1219000)
     cases kq with
     | zero => exact absurd HA.out (by simp [laws_FnExactStratumOf.j0])
     | succ kj16 =>
      have H := HA.out
      clear HA
      simp only [laws_FnExactStratumOf.j0] at H
      by_cases c45 : x42_16 = true
      ·subst c45
       have H1 : (some false) = some true := by rw [if_pos rfl] at H; exact H
       clear H
       have H := H1
       clear H1
       exact absurd H (by simp)
      ·replace c45 := Bool.eq_false_iff.mpr c45
       subst c45
       have H1 : ((laws_markIntS.f kj16 t1219 1).bind fun bt1234 => ((laws_heldIntS.f kj16 bt1234.2 1).bind fun t1236 => (if t1236 < 0 then (some false) else (if t1236 = bt1234.1 then ((laws_toSurface.f kj16 l0_0 l0_1).bind fun bt1237 => ((impl_StratumOf.f kj16 bt1237.1 bt1237.2).bind fun t1243 => ((laws_eqIntS.f kj16 t1243 t1209).bind fun t1246 => (if t1246 = true then ((laws_heldIntS.f kj16 bt1234.2 1).bind fun t1247 => (if t1247 < 0 then (some false) else (if t1247 = bt1234.1 then (some true) else (some false)))) else (some false))))) else (some false))))) = some true := by rw [if_neg (show ¬ (false = true) by decide)] at H; exact H
       clear H
       have H := H1
       clear H1
       replace H := Option.bind_eq_some_iff.mp H
       obtain ⟨⟨t1234, t1235⟩, A460, H⟩ := H
       replace H : ((laws_heldIntS.f kj16 t1235 1).bind fun t1236 => (if t1236 < 0 then (some false) else (if t1236 = t1234 then ((laws_toSurface.f kj16 l0_0 l0_1).bind fun bt1237 => ((impl_StratumOf.f kj16 bt1237.1 bt1237.2).bind fun t1243 => ((laws_eqIntS.f kj16 t1243 t1209).bind fun t1246 => (if t1246 = true then ((laws_heldIntS.f kj16 t1235 1).bind fun t1247 => (if t1247 < 0 then (some false) else (if t1247 = t1234 then (some true) else (some false)))) else (some false))))) else (some false)))) = some true := H
       have A46 := Aside0.mk A460
       clear A460
       replace H := Option.bind_eq_some_iff.mp H
       obtain ⟨t1236, A470, H⟩ := H
       replace H : (if t1236 < 0 then (some false) else (if t1236 = t1234 then ((laws_toSurface.f kj16 l0_0 l0_1).bind fun bt1237 => ((impl_StratumOf.f kj16 bt1237.1 bt1237.2).bind fun t1243 => ((laws_eqIntS.f kj16 t1243 t1209).bind fun t1246 => (if t1246 = true then ((laws_heldIntS.f kj16 t1235 1).bind fun t1247 => (if t1247 < 0 then (some false) else (if t1247 = t1234 then (some true) else (some false)))) else (some false))))) else (some false))) = some true := H
       have A47 := Aside0.mk A470
       clear A470
       by_cases c48 : t1236 < 0
       ·rw [if_pos c48] at H
        have c48b0 : decide (t1236 < 0) = true := decide_eq_true c48
        clear c48
        exact absurd H (by simp)
       ·rw [if_neg c48] at H
        have c48b0 : decide (t1236 < 0) = false := decide_eq_false c48
        clear c48
        by_cases c50 : t1236 = t1234
        ·rw [if_pos c50] at H
         have c50b0 : (t1236 == t1234) = true := beq_iff_eq.mpr c50
         have c50b1 : (t1236 != t1234) = false := bne_eq_false_iff_eq.mpr c50
         clear c50
         replace H := Option.bind_eq_some_iff.mp H
         obtain ⟨⟨t1237, t1240⟩, A510, H⟩ := H
         replace H : ((impl_StratumOf.f kj16 t1237 t1240).bind fun t1243 => ((laws_eqIntS.f kj16 t1243 t1209).bind fun t1246 => (if t1246 = true then ((laws_heldIntS.f kj16 t1235 1).bind fun t1247 => (if t1247 < 0 then (some false) else (if t1247 = t1234 then (some true) else (some false)))) else (some false)))) = some true := H
         have A51 := Aside0.mk A510
         clear A510
         replace H := Option.bind_eq_some_iff.mp H
         obtain ⟨t1243, A520, H⟩ := H
         replace H : ((laws_eqIntS.f kj16 t1243 t1209).bind fun t1246 => (if t1246 = true then ((laws_heldIntS.f kj16 t1235 1).bind fun t1247 => (if t1247 < 0 then (some false) else (if t1247 = t1234 then (some true) else (some false)))) else (some false))) = some true := H
         have A52 := Aside0.mk A520
         clear A520
         replace H := Option.bind_eq_some_iff.mp H
         obtain ⟨t1246, A530, H⟩ := H
         replace H : (if t1246 = true then ((laws_heldIntS.f kj16 t1235 1).bind fun t1247 => (if t1247 < 0 then (some false) else (if t1247 = t1234 then (some true) else (some false)))) else (some false)) = some true := H
         have A53 := Aside0.mk A530
         clear A530
         by_cases c54 : t1246 = true
         ·subst c54
          have H1 : ((laws_heldIntS.f kj16 t1235 1).bind fun t1247 => (if t1247 < 0 then (some false) else (if t1247 = t1234 then (some true) else (some false)))) = some true := by rw [if_pos rfl] at H; exact H
          clear H
          have H := H1
          clear H1
          replace H := Option.bind_eq_some_iff.mp H
          obtain ⟨t1247, A550, H⟩ := H
          replace H : (if t1247 < 0 then (some false) else (if t1247 = t1234 then (some true) else (some false))) = some true := H
          have A55 := Aside0.mk A550
          clear A550
          by_cases c56 : t1247 < 0
          ·rw [if_pos c56] at H
           have c56b0 : decide (t1247 < 0) = true := decide_eq_true c56
           clear c56
           exact absurd H (by simp)
          ·rw [if_neg c56] at H
           have c56b0 : decide (t1247 < 0) = false := decide_eq_false c56
           clear c56
           by_cases c65 : t1247 = t1234
           ·rw [if_pos c65] at H
            have c65b0 : (t1247 == t1234) = true := beq_iff_eq.mpr c65
            have c65b1 : (t1247 != t1234) = false := bne_eq_false_iff_eq.mpr c65
            clear c65
            go_wp2_with (first | ((with_reducible refine gate_callee (f := 37) rfl ?_); refine goesL_ (some 45) rfl rfl Try.func37 (by kernel_rfl) rfl #[.slice Ao34 t1219.length co34, .int .i64 1] rfl (by (try simp only [List.map_toArray, List.map_cons, List.map_nil]); first | done | rfl | (simp only [List.length_drop, List.length_take]; rfl)) ?_; (with_reducible refine (laws_markIntS.calls kj16 (fun k_ => some k_ = (.slice Ao34 t1219.length co34 : Value).ownBlock) (.slice Ao34 t1219.length co34) t1219 1 t1234 t1235 w _ ?side1 ?side2 A46.out).mono ?_); (case side1 => repeat (first | (with_reducible first | exact HB.out | apply below_alloc | apply pw_below_drewN | apply below_drew1 | refine below_set ?_ GE1201.out | refine below_set ?_ GE1218.out) | exact HB.out)); (case side2 => exact Kd.R_tight rfl HO_6.out); rintro e w66 ⟨rfl, hy0, hb, hkp⟩; refine ⟨_, rfl, ?_⟩; have n0_ := Aside0.mk (Kd.R_mono (ok' := fun k_ => some k_ ≠ (.slice Ao34 t1219.length co34 : Value).ownBlock ∧ some k_ ≠ (.slice Ao29 t1231.length co29 : Value).ownBlock ∧ some k_ ≠ (.slice Ao32 t1232.length co32 : Value).ownBlock) (Kd.R_keptB (HO_4.out) hkp (fun k_ hk_ hs_ => (hk_.1) hs_)) (fun k_ hk_ => ⟨hk_.1.1, hk_.1.2.1, hk_.1.2.2⟩)); have n1_ := Aside0.mk (Kd.R_reok rfl hy0 (fun k_ e_ => HO_6.out.1 k_ e_)); have n2_ := Aside0.mk (Kd.R_mono (ok' := fun k_ => some k_ ≠ (.slice Ao35 t1209.length co35 : Value).ownBlock ∧ some k_ ≠ (.slice Ao34 t1219.length co34 : Value).ownBlock ∧ some k_ ≠ (.slice Ao32 t1232.length co32 : Value).ownBlock) (Kd.R_keptB (HO_1219000.out) hkp (fun k_ hk_ hs_ => (hk_.2.1) hs_)) (fun k_ hk_ => ⟨hk_.1.1, hk_.1.2.1, hk_.1.2.2⟩)); have n3_ := Aside0.mk (Kd.R_mono (ok' := fun k_ => some k_ ≠ (.slice Ao35 t1209.length co35 : Value).ownBlock ∧ some k_ ≠ (.slice Ao34 t1219.length co34 : Value).ownBlock ∧ some k_ ≠ (.slice Ao29 t1231.length co29 : Value).ownBlock) (Kd.R_keptB (HO_1219001.out) hkp (fun k_ hk_ hs_ => (hk_.2.1) hs_)) (fun k_ hk_ => ⟨hk_.1.1, hk_.1.2.1, hk_.1.2.2⟩)); have n4_ := Aside0.mk (blk_kept (by (with_reducible repeat (first | refine blk_drewN ?_ _ | refine blk_drew ?_ | refine blk_alloc ?_ _)); exact BK1201.out) hkp (fun hs_ => (fun e_ => (Kd.R_ne HO_6.out BK1201.out (by decide)) e_) hs_)); have n5_ := Aside0.mk (blk_kept (by (with_reducible repeat (first | refine blk_drewN ?_ _ | refine blk_drew ?_ | refine blk_alloc ?_ _)); exact BK1218.out) hkp (fun hs_ => (fun e_ => (Kd.R_ne HO_6.out BK1218.out (by decide)) e_) hs_)); have n6_ := Aside0.mk (hb); clear HO_4; clear HO_6; clear HO_1219000; clear HO_1219001; clear BK1201; clear BK1218; clear HB; have HO_4 := n0_; have HO_6 := n1_; have HO_1219000 := n2_; have HO_1219001 := n3_; have BK1201 := n4_; have BK1218 := n5_; have HB := n6_; clear n0_ n1_ n2_ n3_ n4_ n5_ n6_; (try clear hb); (try clear hkp); (try clear hy0)) | ((with_reducible refine gate_callee (f := 38) rfl ?_); refine goesL_ (some 48) rfl rfl Try.func38 (by kernel_rfl) rfl #[.slice Ao34 t1235.length co34, .int .i64 1] rfl (by (try simp only [List.map_toArray, List.map_cons, List.map_nil]); first | done | (rw [show t1235.length = t1219.length from (Kd.R_reads' HO_6.out).1.symm] <;> rfl) | rfl | (simp only [List.length_drop, List.length_take]; rfl)) ?_; (with_reducible refine (laws_heldIntS.calls kj16 _ _ t1235 1 t1236 _ ?side1 ?side2 A47.out).mono ?_); (case side1 => repeat (first | exact (Kd.R_reads' HO_6.out).2.2 | (with_reducible refine Kd.C_alloc ?_ _) | (with_reducible refine Kd.C_drewN ?_ _) | (with_reducible refine Kd.C_drew ?_))); (case side2 => rw [show t1235.length = t1219.length from (Kd.R_reads' HO_6.out).1.symm]; exact (Kd.R_reads' HO_6.out).2.1); rintro e w' ⟨rfl, ⟨nd, rfl⟩⟩; refine ⟨_, rfl, ?_⟩; have hnb67 := NB1201_1218.out; have hnc67 := NB1218_1201.out; have hcz68_0 : w66.cell? ⟨gb1201, 0, none⟩ = some (.slice A0_0 l0_0.length c0_0) := (blk_cell BK1201.out 0).trans rfl; have hcz68_1 : w66.cell? ⟨gb1201, 1, none⟩ = some (.slice A0_1 l0_1.length c0_1) := (blk_cell BK1201.out 1).trans rfl; have hfz68_0 := blk_frozen BK1201.out 0; have hfz68_1 := blk_frozen BK1201.out 1) | ((with_reducible refine gate_callee (f := 14) rfl ?_); refine goesL_ (some 55) rfl rfl Try.func14 (by kernel_rfl) rfl #[.agg #[.slice A0_0 l0_0.length c0_0, .slice A0_1 l0_1.length c0_1]] rfl (by (try simp only [List.map_toArray, List.map_cons, List.map_nil]); first | done | rfl | (simp only [List.length_drop, List.length_take]; rfl)) ?_; (with_reducible refine (laws_toSurface.calls kj16 _ _ l0_0 _ _ l0_1 t1237 t1240 _ ?side1 ?side2 ?side3 ?side4 A51.out).mono ?_); (case side1 => repeat (first | exact (Kd.C_below HR0_0.out (by repeat (first | (with_reducible first | exact HB.out | apply below_alloc | apply pw_below_drewN | apply below_drew1 | refine below_set ?_ GE1201.out | refine below_set ?_ GE1218.out) | exact HB.out))) | (with_reducible refine Kd.C_alloc ?_ _) | (with_reducible refine Kd.C_drewN ?_ _) | (with_reducible refine Kd.C_drew ?_))); (case side2 => exact HC0_0.out); (case side3 => repeat (first | exact (Kd.C_below HR0_1.out (by repeat (first | (with_reducible first | exact HB.out | apply below_alloc | apply pw_below_drewN | apply below_drew1 | refine below_set ?_ GE1201.out | refine below_set ?_ GE1218.out) | exact HB.out))) | (with_reducible refine Kd.C_alloc ?_ _) | (with_reducible refine Kd.C_drewN ?_ _) | (with_reducible refine Kd.C_drew ?_))); (case side4 => exact HC0_1.out); rintro e w69 ⟨v1238, v1241, rfl, ho0, ho1, hb⟩; refine ⟨_, rfl, ?_⟩; have n0_ := Aside0.mk (Kd.R_mono (Kd.R_told (Kd.R_told (Kd.R_old (by (with_reducible repeat (first | apply Kd.R_alloc | apply Kd.R_drewN | apply Kd.R_drew)); exact HO_4.out) hb) (Kd.R_base ho0)) (Kd.R_base ho1)) (fun _ h_ => h_.1)); have n1_ := Aside0.mk (Kd.R_mono (Kd.R_told (Kd.R_told (Kd.R_old (by (with_reducible repeat (first | apply Kd.R_alloc | apply Kd.R_drewN | apply Kd.R_drew)); exact HO_6.out) hb) (Kd.R_base ho0)) (Kd.R_base ho1)) (fun _ h_ => h_.1)); have n2_ := Aside0.mk (Kd.R_mono (Kd.R_told (Kd.R_told (Kd.R_old (by (with_reducible repeat (first | apply Kd.R_alloc | apply Kd.R_drewN | apply Kd.R_drew)); exact HO_1219000.out) hb) (Kd.R_base ho0)) (Kd.R_base ho1)) (fun _ h_ => h_.1)); have n3_ := Aside0.mk (Kd.R_mono (Kd.R_told (Kd.R_told (Kd.R_old (by (with_reducible repeat (first | apply Kd.R_alloc | apply Kd.R_drewN | apply Kd.R_drew)); exact HO_1219001.out) hb) (Kd.R_base ho0)) (Kd.R_base ho1)) (fun _ h_ => h_.1)); have n4_ := Aside0.mk (Kd.R_lower (Kd.R_new' (Kd.R_new' (Kd.R_new' (Kd.R_new' ho0 (Kd.R_lt (by (with_reducible repeat (first | apply Kd.R_alloc | apply Kd.R_drewN | apply Kd.R_drew)); exact HO_4.out))) (Kd.R_lt (by (with_reducible repeat (first | apply Kd.R_alloc | apply Kd.R_drewN | apply Kd.R_drew)); exact HO_6.out))) (Kd.R_lt (by (with_reducible repeat (first | apply Kd.R_alloc | apply Kd.R_drewN | apply Kd.R_drew)); exact HO_1219000.out))) (Kd.R_lt (by (with_reducible repeat (first | apply Kd.R_alloc | apply Kd.R_drewN | apply Kd.R_drew)); exact HO_1219001.out))) (below_size (by repeat (first | (with_reducible first | exact HB.out | apply below_alloc | apply pw_below_drewN | apply below_drew1 | refine below_set ?_ GE1201.out | refine below_set ?_ GE1218.out) | exact HB.out)))); have n5_ := Aside0.mk (Kd.R_lower (Kd.R_new' (Kd.R_new' (Kd.R_new' (Kd.R_new' ho1 (Kd.R_lt (by (with_reducible repeat (first | apply Kd.R_alloc | apply Kd.R_drewN | apply Kd.R_drew)); exact HO_4.out))) (Kd.R_lt (by (with_reducible repeat (first | apply Kd.R_alloc | apply Kd.R_drewN | apply Kd.R_drew)); exact HO_6.out))) (Kd.R_lt (by (with_reducible repeat (first | apply Kd.R_alloc | apply Kd.R_drewN | apply Kd.R_drew)); exact HO_1219000.out))) (Kd.R_lt (by (with_reducible repeat (first | apply Kd.R_alloc | apply Kd.R_drewN | apply Kd.R_drew)); exact HO_1219001.out))) (below_size (by repeat (first | (with_reducible first | exact HB.out | apply below_alloc | apply pw_below_drewN | apply below_drew1 | refine below_set ?_ GE1201.out | refine below_set ?_ GE1218.out) | exact HB.out)))); have n6_ := Aside0.mk (blk_below (g := gb1201) (o := .cells #[.slice A0_0 l0_0.length c0_0, .slice A0_1 l0_1.length c0_1] 24 (0, 0)) (by (with_reducible repeat (first | refine blk_drewN ?_ _ | refine blk_drew ?_ | refine blk_alloc ?_ _)); exact BK1201.out) hb); have n7_ := Aside0.mk (blk_below (g := gb1218) (o := .cells #[.slice Ao29 t1231.length co29, .slice Ao32 t1232.length co32] 27 (0, 0)) (by (with_reducible repeat (first | refine blk_drewN ?_ _ | refine blk_drew ?_ | refine blk_alloc ?_ _)); exact BK1218.out) hb); have n8_ := Aside0.mk (below_step (by repeat (first | (with_reducible first | exact HB.out | apply below_alloc | apply pw_below_drewN | apply below_drew1 | refine below_set ?_ GE1201.out | refine below_set ?_ GE1218.out) | exact HB.out)) hb); clear HO_4; clear HO_6; clear HO_1219000; clear HO_1219001; clear BK1201; clear BK1218; clear HB; have HO_4 := n0_; have HO_6 := n1_; have HO_1219000 := n2_; have HO_1219001 := n3_; have HO1239 := n4_; have HO1242 := n5_; have BK1201 := n6_; have BK1218 := n7_; have HB := n8_; clear n0_ n1_ n2_ n3_ n4_ n5_ n6_ n7_ n8_; (try clear hb); (try clear hb2); (try clear hk); (try clear hi); (try clear ho0); (try clear ho1); obtain ⟨Ao70, co70, eo70⟩ := Kd.R_slice HO1239.out; subst eo70; obtain ⟨Ao71, co71, eo71⟩ := Kd.R_slice HO1242.out; subst eo71) | ((with_reducible refine gate_callee (f := 40) rfl ?_); refine goesL_ (some 56) rfl rfl Try.func40 (by kernel_rfl) rfl #[.agg #[.slice Ao70 t1237.length co70, .slice Ao71 t1240.length co71]] rfl (by (try simp only [List.map_toArray, List.map_cons, List.map_nil]); first | done | rfl | (simp only [List.length_drop, List.length_take]; rfl)) ?_; (with_reducible refine (impl_StratumOf.calls kj16 _ _ t1237 _ _ t1240 t1243 _ ?side1 ?side2 ?side3 ?side4 A52.out).mono ?_); (case side1 => repeat (first | exact (Kd.R_reads' HO1239.out).2.2 | (with_reducible refine Kd.C_alloc ?_ _) | (with_reducible refine Kd.C_drewN ?_ _) | (with_reducible refine Kd.C_drew ?_))); (case side2 => exact (Kd.R_reads' HO1239.out).2.1); (case side3 => repeat (first | exact (Kd.R_reads' HO1242.out).2.2 | (with_reducible refine Kd.C_alloc ?_ _) | (with_reducible refine Kd.C_drewN ?_ _) | (with_reducible refine Kd.C_drew ?_))); (case side4 => exact (Kd.R_reads' HO1242.out).2.1); rintro e w72 ⟨v1244, rfl, ho0, hb⟩; refine ⟨_, rfl, ?_⟩; have n0_ := Aside0.mk (Kd.R_elder' (by (with_reducible repeat (first | apply Kd.R_alloc | apply Kd.R_drewN | apply Kd.R_drew)); exact HO_4.out) (Kd.R_base ho0) hb); have n1_ := Aside0.mk (Kd.R_elder' (by (with_reducible repeat (first | apply Kd.R_alloc | apply Kd.R_drewN | apply Kd.R_drew)); exact HO_6.out) (Kd.R_base ho0) hb); have n2_ := Aside0.mk (Kd.R_elder' (by (with_reducible repeat (first | apply Kd.R_alloc | apply Kd.R_drewN | apply Kd.R_drew)); exact HO_1219000.out) (Kd.R_base ho0) hb); have n3_ := Aside0.mk (Kd.R_elder' (by (with_reducible repeat (first | apply Kd.R_alloc | apply Kd.R_drewN | apply Kd.R_drew)); exact HO_1219001.out) (Kd.R_base ho0) hb); have n4_ := Aside0.mk (Kd.R_elder' (by (with_reducible repeat (first | apply Kd.R_alloc | apply Kd.R_drewN | apply Kd.R_drew)); exact HO1239.out) (Kd.R_base ho0) hb); have n5_ := Aside0.mk (Kd.R_elder' (by (with_reducible repeat (first | apply Kd.R_alloc | apply Kd.R_drewN | apply Kd.R_drew)); exact HO1242.out) (Kd.R_base ho0) hb); have n6_ := Aside0.mk (Kd.R_lower (Kd.R_new' (Kd.R_new' (Kd.R_new' (Kd.R_new' (Kd.R_new' (Kd.R_new' ho0 (Kd.R_lt (by (with_reducible repeat (first | apply Kd.R_alloc | apply Kd.R_drewN | apply Kd.R_drew)); exact HO_4.out))) (Kd.R_lt (by (with_reducible repeat (first | apply Kd.R_alloc | apply Kd.R_drewN | apply Kd.R_drew)); exact HO_6.out))) (Kd.R_lt (by (with_reducible repeat (first | apply Kd.R_alloc | apply Kd.R_drewN | apply Kd.R_drew)); exact HO_1219000.out))) (Kd.R_lt (by (with_reducible repeat (first | apply Kd.R_alloc | apply Kd.R_drewN | apply Kd.R_drew)); exact HO_1219001.out))) (Kd.R_lt (by (with_reducible repeat (first | apply Kd.R_alloc | apply Kd.R_drewN | apply Kd.R_drew)); exact HO1239.out))) (Kd.R_lt (by (with_reducible repeat (first | apply Kd.R_alloc | apply Kd.R_drewN | apply Kd.R_drew)); exact HO1242.out))) (below_size (by repeat (first | (with_reducible first | exact HB.out | apply below_alloc | apply pw_below_drewN | apply below_drew1 | refine below_set ?_ GE1201.out | refine below_set ?_ GE1218.out) | exact HB.out)))); have n7_ := Aside0.mk (blk_below (g := gb1201) (o := .cells #[.slice A0_0 l0_0.length c0_0, .slice A0_1 l0_1.length c0_1] 24 (0, 0)) (by (with_reducible repeat (first | refine blk_drewN ?_ _ | refine blk_drew ?_ | refine blk_alloc ?_ _)); exact BK1201.out) hb); have n8_ := Aside0.mk (blk_below (g := gb1218) (o := .cells #[.slice Ao29 t1231.length co29, .slice Ao32 t1232.length co32] 27 (0, 0)) (by (with_reducible repeat (first | refine blk_drewN ?_ _ | refine blk_drew ?_ | refine blk_alloc ?_ _)); exact BK1218.out) hb); have n9_ := Aside0.mk (below_step (by repeat (first | (with_reducible first | exact HB.out | apply below_alloc | apply pw_below_drewN | apply below_drew1 | refine below_set ?_ GE1201.out | refine below_set ?_ GE1218.out) | exact HB.out)) hb); clear HO_4; clear HO_6; clear HO_1219000; clear HO_1219001; clear HO1239; clear HO1242; clear BK1201; clear BK1218; clear HB; have HO_4 := n0_; have HO_6 := n1_; have HO_1219000 := n2_; have HO_1219001 := n3_; have HO1239 := n4_; have HO1242 := n5_; have HO1245 := n6_; have BK1201 := n7_; have BK1218 := n8_; have HB := n9_; clear n0_ n1_ n2_ n3_ n4_ n5_ n6_ n7_ n8_ n9_; (try clear hb); (try clear hb2); (try clear hk); (try clear hi); (try clear ho0); obtain ⟨Ao73, co73, eo73⟩ := Kd.R_slice HO1245.out; subst eo73) | ((with_reducible refine gate_callee (f := 36) rfl ?_); refine goesL_ (some 59) rfl rfl Try.func36 (by kernel_rfl) rfl #[.slice Ao73 t1243.length co73, .slice Ao35 t1209.length co35] rfl (by (try simp only [List.map_toArray, List.map_cons, List.map_nil]); first | done | rfl | (simp only [List.length_drop, List.length_take]; rfl)) ?_; (with_reducible refine (laws_eqIntS.calls kj16 _ _ t1243 _ _ t1209 true _ ?side1 ?side2 ?side3 ?side4 A53.out).mono ?_); (case side1 => repeat (first | exact (Kd.R_reads' HO1245.out).2.2 | (with_reducible refine Kd.C_alloc ?_ _) | (with_reducible refine Kd.C_drewN ?_ _) | (with_reducible refine Kd.C_drew ?_))); (case side2 => exact (Kd.R_reads' HO1245.out).2.1); (case side3 => repeat (first | exact (Kd.R_reads' HO_4.out).2.2 | (with_reducible refine Kd.C_alloc ?_ _) | (with_reducible refine Kd.C_drewN ?_ _) | (with_reducible refine Kd.C_drew ?_))); (case side4 => exact (Kd.R_reads' HO_4.out).2.1); rintro e w' ⟨rfl, ⟨nd, rfl⟩⟩; refine ⟨_, rfl, ?_⟩) | ((with_reducible refine gate_callee (f := 38) rfl ?_); refine goesL_ (some 63) rfl rfl Try.func38 (by kernel_rfl) rfl #[.slice Ao34 t1235.length co34, .int .i64 1] rfl (by (try simp only [List.map_toArray, List.map_cons, List.map_nil]); first | done | (rw [show t1235.length = t1219.length from (Kd.R_reads' HO_6.out).1.symm] <;> rfl) | rfl | (simp only [List.length_drop, List.length_take]; rfl)) ?_; (with_reducible refine (laws_heldIntS.calls kj16 _ _ t1235 1 t1247 _ ?side1 ?side2 A55.out).mono ?_); (case side1 => repeat (first | exact (Kd.R_reads' HO_6.out).2.2 | (with_reducible refine Kd.C_alloc ?_ _) | (with_reducible refine Kd.C_drewN ?_ _) | (with_reducible refine Kd.C_drew ?_))); (case side2 => rw [show t1235.length = t1219.length from (Kd.R_reads' HO_6.out).1.symm]; exact (Kd.R_reads' HO_6.out).2.1); rintro e w' ⟨rfl, ⟨nd, rfl⟩⟩; refine ⟨_, rfl, ?_⟩))
            go_ret
            exact ⟨by first | rfl | (simp [errW_none, errW_some] <;> rfl) | (simp [*, errW_none, errW_some] <;> rfl), by repeat (first | (with_reducible first | exact HB.out | apply below_alloc | apply pw_below_drewN | apply below_drew1 | refine below_set ?_ GE1201.out | refine below_set ?_ GE1218.out) | exact HB.out)⟩
           ·rw [if_neg c65] at H
            have c65b0 : (t1247 == t1234) = false := beq_eq_false_iff_ne.mpr c65
            have c65b1 : (t1247 != t1234) = true := bne_iff_ne.mpr c65
            exact absurd H (by simp)
         ·replace c54 := Bool.eq_false_iff.mpr c54
          subst c54
          have H1 : (some false) = some true := by rw [if_neg (show ¬ (false = true) by decide)] at H; exact H
          clear H
          have H := H1
          clear H1
          exact absurd H (by simp)
        ·rw [if_neg c50] at H
         have c50b0 : (t1236 == t1234) = false := beq_eq_false_iff_ne.mpr c50
         have c50b1 : (t1236 != t1234) = true := bne_iff_ne.mpr c50
         exact absurd H (by simp)
   ·replace c15 := Bool.eq_false_iff.mpr c15
    subst c15
    have H1 : (some false) = some true := by rw [if_neg (show ¬ (false = true) by decide)] at H; exact H
    clear H
    have H := H1
    clear H1
    exact absurd H (by simp)
  ·replace c12 := Bool.eq_false_iff.mpr c12
   subst c12
   have H1 : (some false) = some true := by rw [if_neg (show ¬ (false = true) by decide)] at H; exact H
   clear H
   have H := H1
   clear H1
   exact absurd H (by simp)

/-- The pure statement of laws_FnExactStratumOf. -/
def laws_FnExactStratumOf.Pure : Prop := ∀ (l0_0 : List Int) (l0_1 : List Int), l0_0.length ≤ maxLen → (∀ x ∈ l0_0, (Lit.int .i64 x).wf = true) → l0_1.length ≤ maxLen → (∀ x ∈ l0_1, (Lit.int .i64 x).wf = true) → ∃ k, laws_FnExactStratumOf.f k l0_0 l0_1 = some true
theorem laws_FnExactStratumOf.walk (P : laws_FnExactStratumOf.Pure) (a0_0 : Option Addr) (len0_0 cap0_0 : Nat) (z0_0 : List Int) (a0_1 : Option Addr) (len0_1 cap0_1 : Nat) (z0_1 : List Int) (w : World) (w0_0 : ((a0_0 = none ∧ len0_0 = 0 ∧ cap0_0 = 0 ∧ z0_0 = []) ∨ ∃ x, a0_0 = some x ∧ len0_0 ≤ cap0_0 ∧ cap0_0 ≤ maxLen ∧ z0_0.length = cap0_0 ∧ (∀ i, i < z0_0.length → w.cell? (x.add i) = some (.int .i64 (z0_0.getD i 0))) ∧ ∀ n ∈ z0_0, (Lit.int .i64 n).wf = true)) (w0_1 : ((a0_1 = none ∧ len0_1 = 0 ∧ cap0_1 = 0 ∧ z0_1 = []) ∨ ∃ x, a0_1 = some x ∧ len0_1 ≤ cap0_1 ∧ cap0_1 ≤ maxLen ∧ z0_1.length = cap0_1 ∧ (∀ i, i < z0_1.length → w.cell? (x.add i) = some (.int .i64 (z0_1.getD i 0))) ∧ ∀ n ∈ z0_1, (Lit.int .i64 n).wf = true)) :
  Calls Try.prog 11 #[.agg #[.slice a0_0 len0_0 cap0_0, .slice a0_1 len0_1 cap0_1]] w fun e w' => e = .returned (.bool true) ∧ Below w.heap.size w w' := by
 obtain ⟨l0_0, rfl, hr0_0, hm0_0, hw0_0, hc0_0⟩ := ReadsInt.ofRowC w0_0
 obtain ⟨l0_1, rfl, hr0_1, hm0_1, hw0_1, hc0_1⟩ := ReadsInt.ofRowC w0_1
 obtain ⟨k, h⟩ := P l0_0 l0_1 hm0_0 hw0_0 hm0_1 hw0_1
 refine (laws_FnExactStratumOf.calls_true k _ _ l0_0 _ _ l0_1 w (Kd.C_of_reads (d := (0 : Int)) (h1 := fun _ => rfl) hr0_0) hc0_0 (Kd.C_of_reads (d := (0 : Int)) (h1 := fun _ => rfl) hr0_1) hc0_1 h).mono ?_
 rintro e w' ⟨rfl, hd⟩
 exact ⟨rfl, hd⟩

end Go.Proofs.Ytlohmpgbjgidpad.P
