-- MADE by this project's printer (wip/mk) out of the translation; Lean checks it.
import Derived.Test.YtlohmpgbjgidpadPx0
import Derived.Test.YtlohmpgbjgidpadPx2
import Derived.Test.YtlohmpgbjgidpadPx16
import Derived.Test.YtlohmpgbjgidpadPx28
import Derived.Test.YtlohmpgbjgidpadPx32
import Derived.Test.YtlohmpgbjgidpadPx57
import Derived.Test.YtlohmpgbjgidpadPx77
import Derived.Test.YtlohmpgbjgidpadPx83
namespace Go.Proofs.Ytlohmpgbjgidpad.P
open Go.RowKit Go.Proofs.YtlohmpgbjgidpadW.PrintWords Go.Proofs.YtlohmpgbjgidpadW.PrintLast Go.Proofs.YtlohmpgbjgidpadW.PrintMore
attribute [local go_sem] max2_int min2_int max_two min_two max_three min_three max_four min_four   -- for this text's walks alone
set_option linter.unusedVariables false
set_option linter.unusedSimpArgs false

/-! ### laws_FnExactCanonOf: function 7 -/
mutual
def laws_FnExactCanonOf.j0 : Nat → Bool → Bool → Bool → List Int → List Int → List Int → List Int → List Int → List Int → List Int → List Int → Option (Bool)
 | 0, _, _, _, _, _, _, _, _, _, _, _ => none
 | k + 1, x5, x8, x40, x873000, x873001, x888000, x888001, x895000, x895001, x903000, x903001 => if x40 = true then (some false) else ((laws_toSurface.f k x873000 x873001).bind fun bt904 => ((laws_eqSurface.f k x895000 x895001 bt904.1 bt904.2).bind fun t910 => (if t910 = true then ((laws_markSurface.f k x895000 x895001 1).bind fun bt911 => (if bt911.1 < 0 then (laws_FnExactCanonOf.j1 k x5 true x873000 x873001 x888000 x888001 x903000 x903001) else ((laws_eqSurface.f k x903000 x903001 x888000 x888001).bind fun t914 => (if t914 = true then (laws_FnExactCanonOf.j1 k x5 (x8 != x5) x873000 x873001 x888000 x888001 x903000 x903001) else (laws_FnExactCanonOf.j1 k x5 true x873000 x873001 x888000 x888001 x903000 x903001))))) else (some false))))
def laws_FnExactCanonOf.j1 : Nat → Bool → Bool → List Int → List Int → List Int → List Int → List Int → List Int → Option (Bool)
 | 0, _, _, _, _, _, _, _, _ => none
 | k + 1, x5, x61, x873000, x873001, x888000, x888001, x903000, x903001 => if x61 = true then (some false) else ((laws_markSurface.f k x903000 x903001 1).bind fun bt915 => ((laws_heldSurface.f k bt915.2.1 bt915.2.2 1).bind fun t918 => (if t918 < 0 then (some false) else (if t918 = bt915.1 then ((laws_toSurface.f k x873000 x873001).bind fun bt919 => ((impl_CanonOf.f k bt919.1 bt919.2).bind fun bt925 => ((laws_eqSurface.f k bt925.1 bt925.2.1 x888000 x888001).bind fun t933 => (if t933 = true then (laws_FnExactCanonOf.j2 k bt915.1 (bt925.2.2 != x5) bt915.2.1 bt915.2.2) else (laws_FnExactCanonOf.j2 k bt915.1 true bt915.2.1 bt915.2.2))))) else (some false)))))
def laws_FnExactCanonOf.j2 : Nat → Int → Bool → List Int → List Int → Option (Bool)
 | 0, _, _, _, _ => none
 | k + 1, x10, x87, x903000, x903001 => if x87 = true then (some false) else ((laws_heldSurface.f k x903000 x903001 1).bind fun t934 => (if t934 < 0 then (some false) else (if t934 = x10 then (some true) else (some false))))
end
def laws_FnExactCanonOf.f (k : Nat) (l0_0 : List Int) (l0_1 : List Int) : Option (Bool) := (laws_szSurface.f l0_0 l0_1 1048576).bind fun t873 => (if t873 < 0 then (some true) else ((laws_toSurface.f k l0_0 l0_1).bind fun bt874 => ((spec_CanonOf.f k bt874.1 bt874.2).bind fun bt880 => ((laws_toSurface.f k l0_0 l0_1).bind fun bt888 => ((impl_CanonOf.f k bt888.1 bt888.2).bind fun bt895 => ((laws_eqSurface.f k bt895.1 bt895.2.1 bt880.1 bt880.2.1).bind fun t903 => (if t903 = true then (laws_FnExactCanonOf.j0 k bt880.2.2 bt895.2.2 (bt895.2.2 != bt880.2.2) l0_0 l0_1 bt880.1 bt880.2.1 bt888.1 bt888.2 bt895.1 bt895.2.1) else (laws_FnExactCanonOf.j0 k bt880.2.2 bt895.2.2 true l0_0 l0_1 bt880.1 bt880.2.1 bt888.1 bt888.2 bt895.1 bt895.2.1))))))))
theorem laws_FnExactCanonOf.mono_l : ∀ k, (∀ y0 y1 y2 y3 y4 y5 y6 y7 y8 y9 y10, LeO (laws_FnExactCanonOf.j0 k y0 y1 y2 y3 y4 y5 y6 y7 y8 y9 y10) (laws_FnExactCanonOf.j0 (k + 1) y0 y1 y2 y3 y4 y5 y6 y7 y8 y9 y10)) ∧ (∀ y0 y1 y2 y3 y4 y5 y6 y7, LeO (laws_FnExactCanonOf.j1 k y0 y1 y2 y3 y4 y5 y6 y7) (laws_FnExactCanonOf.j1 (k + 1) y0 y1 y2 y3 y4 y5 y6 y7)) ∧ (∀ y0 y1 y2 y3, LeO (laws_FnExactCanonOf.j2 k y0 y1 y2 y3) (laws_FnExactCanonOf.j2 (k + 1) y0 y1 y2 y3))
 | 0 => ⟨fun _ _ _ _ _ _ _ _ _ _ _ r h => by simp [laws_FnExactCanonOf.j0] at h, fun _ _ _ _ _ _ _ _ r h => by simp [laws_FnExactCanonOf.j1] at h, fun _ _ _ _ r h => by simp [laws_FnExactCanonOf.j2] at h⟩
 | k + 1 => by
  obtain ⟨ih0, ih1, ih2⟩ := laws_FnExactCanonOf.mono_l k
  refine ⟨?_, ?_, ?_⟩
  ·intro y0 y1 y2 y3 y4 y5 y6 y7 y8 y9 y10
   unfold laws_FnExactCanonOf.j0
   repeat' first
   | (with_reducible exact ih0 _ _ _ _ _ _ _ _ _ _ _)
   | (with_reducible exact ih1 _ _ _ _ _ _ _ _)
   | (with_reducible exact ih2 _ _ _ _)
   | (with_reducible exact impl_CanonOf.mono _ _ _)
   | (with_reducible exact laws_eqSurface.mono _ _ _ _ _)
   | (with_reducible exact laws_heldSurface.mono _ _ _ _)
   | (with_reducible exact laws_markSurface.mono _ _ _ _)
   | (with_reducible exact laws_toSurface.mono _ _ _)
   | (with_reducible exact spec_CanonOf.mono _ _ _)
   | (with_reducible exact LeO.refl _)
   | (with_reducible exact LeO.none _)
   | (with_reducible refine LeO.ite ?_ ?_)
   | (with_reducible refine LeO.bind ?_ (fun _ => ?_))
   | exact ih0 _ _ _ _ _ _ _ _ _ _ _
   | exact ih1 _ _ _ _ _ _ _ _
   | exact ih2 _ _ _ _
   | exact impl_CanonOf.mono _ _ _
   | exact laws_eqSurface.mono _ _ _ _ _
   | exact laws_heldSurface.mono _ _ _ _
   | exact laws_markSurface.mono _ _ _ _
   | exact laws_toSurface.mono _ _ _
   | exact spec_CanonOf.mono _ _ _
   | exact LeO.none _
   | refine LeO.ite ?_ ?_
   | refine LeO.bind ?_ (fun _ => ?_)
  ·intro y0 y1 y2 y3 y4 y5 y6 y7
   unfold laws_FnExactCanonOf.j1
   repeat' first
   | (with_reducible exact ih0 _ _ _ _ _ _ _ _ _ _ _)
   | (with_reducible exact ih1 _ _ _ _ _ _ _ _)
   | (with_reducible exact ih2 _ _ _ _)
   | (with_reducible exact impl_CanonOf.mono _ _ _)
   | (with_reducible exact laws_eqSurface.mono _ _ _ _ _)
   | (with_reducible exact laws_heldSurface.mono _ _ _ _)
   | (with_reducible exact laws_markSurface.mono _ _ _ _)
   | (with_reducible exact laws_toSurface.mono _ _ _)
   | (with_reducible exact spec_CanonOf.mono _ _ _)
   | (with_reducible exact LeO.refl _)
   | (with_reducible exact LeO.none _)
   | (with_reducible refine LeO.ite ?_ ?_)
   | (with_reducible refine LeO.bind ?_ (fun _ => ?_))
   | exact ih0 _ _ _ _ _ _ _ _ _ _ _
   | exact ih1 _ _ _ _ _ _ _ _
   | exact ih2 _ _ _ _
   | exact impl_CanonOf.mono _ _ _
   | exact laws_eqSurface.mono _ _ _ _ _
   | exact laws_heldSurface.mono _ _ _ _
   | exact laws_markSurface.mono _ _ _ _
   | exact laws_toSurface.mono _ _ _
   | exact spec_CanonOf.mono _ _ _
   | exact LeO.none _
   | refine LeO.ite ?_ ?_
   | refine LeO.bind ?_ (fun _ => ?_)
  ·intro y0 y1 y2 y3
   unfold laws_FnExactCanonOf.j2
   repeat' first
   | (with_reducible exact ih0 _ _ _ _ _ _ _ _ _ _ _)
   | (with_reducible exact ih1 _ _ _ _ _ _ _ _)
   | (with_reducible exact ih2 _ _ _ _)
   | (with_reducible exact impl_CanonOf.mono _ _ _)
   | (with_reducible exact laws_eqSurface.mono _ _ _ _ _)
   | (with_reducible exact laws_heldSurface.mono _ _ _ _)
   | (with_reducible exact laws_markSurface.mono _ _ _ _)
   | (with_reducible exact laws_toSurface.mono _ _ _)
   | (with_reducible exact spec_CanonOf.mono _ _ _)
   | (with_reducible exact LeO.refl _)
   | (with_reducible exact LeO.none _)
   | (with_reducible refine LeO.ite ?_ ?_)
   | (with_reducible refine LeO.bind ?_ (fun _ => ?_))
   | exact ih0 _ _ _ _ _ _ _ _ _ _ _
   | exact ih1 _ _ _ _ _ _ _ _
   | exact ih2 _ _ _ _
   | exact impl_CanonOf.mono _ _ _
   | exact laws_eqSurface.mono _ _ _ _ _
   | exact laws_heldSurface.mono _ _ _ _
   | exact laws_markSurface.mono _ _ _ _
   | exact laws_toSurface.mono _ _ _
   | exact spec_CanonOf.mono _ _ _
   | exact LeO.none _
   | refine LeO.ite ?_ ?_
   | refine LeO.bind ?_ (fun _ => ?_)
theorem laws_FnExactCanonOf.mono : ∀ a0 a1 k, LeO (laws_FnExactCanonOf.f k a0 a1) (laws_FnExactCanonOf.f (k + 1) a0 a1) := by
 intro a0 a1 k
 obtain ⟨ih0, ih1, ih2⟩ := laws_FnExactCanonOf.mono_l k
 unfold laws_FnExactCanonOf.f
 repeat' first
   | (with_reducible exact ih0 _ _ _ _ _ _ _ _ _ _ _)
   | (with_reducible exact ih1 _ _ _ _ _ _ _ _)
   | (with_reducible exact ih2 _ _ _ _)
   | (with_reducible exact impl_CanonOf.mono _ _ _)
   | (with_reducible exact laws_eqSurface.mono _ _ _ _ _)
   | (with_reducible exact laws_heldSurface.mono _ _ _ _)
   | (with_reducible exact laws_markSurface.mono _ _ _ _)
   | (with_reducible exact laws_toSurface.mono _ _ _)
   | (with_reducible exact spec_CanonOf.mono _ _ _)
   | (with_reducible exact LeO.refl _)
   | (with_reducible exact LeO.none _)
   | (with_reducible refine LeO.ite ?_ ?_)
   | (with_reducible refine LeO.bind ?_ (fun _ => ?_))
   | exact ih0 _ _ _ _ _ _ _ _ _ _ _
   | exact ih1 _ _ _ _ _ _ _ _
   | exact ih2 _ _ _ _
   | exact impl_CanonOf.mono _ _ _
   | exact laws_eqSurface.mono _ _ _ _ _
   | exact laws_heldSurface.mono _ _ _ _
   | exact laws_markSurface.mono _ _ _ _
   | exact laws_toSurface.mono _ _ _
   | exact spec_CanonOf.mono _ _ _
   | exact LeO.none _
   | refine LeO.ite ?_ ?_
   | refine LeO.bind ?_ (fun _ => ?_)
set_option maxHeartbeats 8000000 in
set_option maxRecDepth 100000 in
theorem laws_FnExactCanonOf.calls_true (k : Nat) (A0_0 : Option Addr) (c0_0 : Nat) (l0_0 : List Int) (A0_1 : Option Addr) (c0_1 : Nat) (l0_1 : List Int) (w : World) (hr0_0 : Kd.C (Kd.int .i64) w A0_0 l0_0.length l0_0) (hc0_0 : l0_0.length ≤ c0_0) (hr0_1 : Kd.C (Kd.int .i64) w A0_1 l0_1.length l0_1) (hc0_1 : l0_1.length ≤ c0_1) (h : laws_FnExactCanonOf.f k l0_0 l0_1 = some true) :
  Calls Try.prog 7 #[.agg #[.slice A0_0 l0_0.length c0_0, .slice A0_1 l0_1.length c0_1]] w fun e w' => e = .returned (.bool true) ∧ Below w.heap.size w w' := by
 have hu24 := Try.underlying24
 have hu27 := Try.underlying27
 have HR0_0 := Aside0.mk hr0_0
 have HC0_0 := Aside0.mk hc0_0
 clear hr0_0 hc0_0
 have HR0_1 := Aside0.mk hr0_1
 have HC0_1 := Aside0.mk hc0_1
 clear hr0_1 hc0_1
 have HB := Aside0.mk (Below.refl w.heap.size w)
 have H : ((laws_szSurface.f l0_0 l0_1 1048576).bind fun t873 => (if t873 < 0 then (some true) else ((laws_toSurface.f k l0_0 l0_1).bind fun bt874 => ((spec_CanonOf.f k bt874.1 bt874.2).bind fun bt880 => ((laws_toSurface.f k l0_0 l0_1).bind fun bt888 => ((impl_CanonOf.f k bt888.1 bt888.2).bind fun bt895 => ((laws_eqSurface.f k bt895.1 bt895.2.1 bt880.1 bt880.2.1).bind fun t903 => (if t903 = true then (laws_FnExactCanonOf.j0 k bt880.2.2 bt895.2.2 (bt895.2.2 != bt880.2.2) l0_0 l0_1 bt880.1 bt880.2.1 bt888.1 bt888.2 bt895.1 bt895.2.1) else (laws_FnExactCanonOf.j0 k bt880.2.2 bt895.2.2 true l0_0 l0_1 bt880.1 bt880.2.1 bt888.1 bt888.2 bt895.1 bt895.2.1))))))))) = some true := h
 clear h
 replace H := Option.bind_eq_some_iff.mp H
 obtain ⟨t873, A20, H⟩ := H
 replace H : (if t873 < 0 then (some true) else ((laws_toSurface.f k l0_0 l0_1).bind fun bt874 => ((spec_CanonOf.f k bt874.1 bt874.2).bind fun bt880 => ((laws_toSurface.f k l0_0 l0_1).bind fun bt888 => ((impl_CanonOf.f k bt888.1 bt888.2).bind fun bt895 => ((laws_eqSurface.f k bt895.1 bt895.2.1 bt880.1 bt880.2.1).bind fun t903 => (if t903 = true then (laws_FnExactCanonOf.j0 k bt880.2.2 bt895.2.2 (bt895.2.2 != bt880.2.2) l0_0 l0_1 bt880.1 bt880.2.1 bt888.1 bt888.2 bt895.1 bt895.2.1) else (laws_FnExactCanonOf.j0 k bt880.2.2 bt895.2.2 true l0_0 l0_1 bt880.1 bt880.2.1 bt888.1 bt888.2 bt895.1 bt895.2.1)))))))) = some true := H
 have A2 := Aside0.mk A20
 clear A20
 by_cases c3 : t873 < 0
 ·rw [if_pos c3] at H
  have c3b0 : decide (t873 < 0) = true := decide_eq_true c3
  clear c3
  go_enter Try.func7, Try.ntmps7
  go_wp2_with (first | ((with_reducible refine gate_dst (N := 1) rfl ?_); refine box_event ?hg (N := 1) ?hd (cs := #[.slice A0_0 l0_0.length c0_0, .slice A0_1 l0_1.length c0_1]) (t := 24) ?hr ?_; (case hd => rfl); (case hg => rfl); (case hr => first | (go_simp; done) | (go_simp; rfl)); intro gb872 hg w4 hbox hb; have n0_ := Aside0.mk (below_step (by repeat (first | (with_reducible first | exact HB.out | apply below_alloc | apply pw_below_drewN | apply below_drew1) | exact HB.out)) hb); have n1_ := Aside0.mk (hbox); have n2_ := Aside0.mk ((by rw [hg]; exact (below_size (by repeat (first | (with_reducible first | exact HB.out | apply below_alloc | apply pw_below_drewN | apply below_drew1) | exact HB.out))) : w.heap.size ≤ gb872)); have n3_ := Aside0.mk ((by rw [hg]; exact (below_size (by repeat (first | (with_reducible first | exact HB.out | apply below_alloc | apply pw_below_drewN | apply below_drew1) | exact HB.out))) : w.heap.size ≤ gb872)); clear HB; have HB := n0_; have BK872 := n1_; have GW872 := n2_; have GE872 := n3_; clear n0_ n1_ n2_ n3_; clear hb hbox hg; have hcz5_0 : w4.cell? ⟨gb872, 0, none⟩ = some (.slice A0_0 l0_0.length c0_0) := (blk_cell BK872.out 0).trans rfl; have hcz5_1 : w4.cell? ⟨gb872, 1, none⟩ = some (.slice A0_1 l0_1.length c0_1) := (blk_cell BK872.out 1).trans rfl; have hfz5_0 := blk_frozen BK872.out 0; have hfz5_1 := blk_frozen BK872.out 1) | ((with_reducible refine gate_callee (f := 12) rfl ?_); refine goesL_ (some 16) rfl rfl Try.func12 (by kernel_rfl) rfl #[.agg #[.slice A0_0 l0_0.length c0_0, .slice A0_1 l0_1.length c0_1], .int .i64 1048576] rfl (by (try simp only [List.map_toArray, List.map_cons, List.map_nil]); first | done | rfl | (simp only [List.length_drop, List.length_take]; rfl)) ?_; (with_reducible refine (laws_szSurface.calls _ _ l0_0 _ _ l0_1 1048576 t873 _ ?side1 ?side2 ?side3 ?side4 A2.out).mono ?_); (case side1 => repeat (first | exact (Kd.C_below HR0_0.out HB.out) | (with_reducible refine Kd.C_alloc ?_ _) | (with_reducible refine Kd.C_drewN ?_ _) | (with_reducible refine Kd.C_drew ?_))); (case side2 => exact HC0_0.out); (case side3 => repeat (first | exact (Kd.C_below HR0_1.out HB.out) | (with_reducible refine Kd.C_alloc ?_ _) | (with_reducible refine Kd.C_drewN ?_ _) | (with_reducible refine Kd.C_drew ?_))); (case side4 => exact HC0_1.out); rintro e w6 ⟨rfl, hb⟩; refine ⟨_, rfl, ?_⟩; have n0_ := Aside0.mk (blk_below (g := gb872) (o := .cells #[.slice A0_0 l0_0.length c0_0, .slice A0_1 l0_1.length c0_1] 24 (0, 0)) (by (with_reducible repeat (first | refine blk_drewN ?_ _ | refine blk_drew ?_ | refine blk_alloc ?_ _)); exact BK872.out) hb); have n1_ := Aside0.mk (below_step (by repeat (first | (with_reducible first | exact HB.out | apply below_alloc | apply pw_below_drewN | apply below_drew1 | refine below_set ?_ GE872.out) | exact HB.out)) hb); clear BK872; clear HB; have BK872 := n0_; have HB := n1_; clear n0_ n1_; (try clear hb); (try clear hb2); (try clear hk); (try clear hi)))
  go_ret
  exact ⟨by first | rfl | (simp [errW_none, errW_some] <;> rfl) | (simp [*, errW_none, errW_some] <;> rfl), by repeat (first | (with_reducible first | exact HB.out | apply below_alloc | apply pw_below_drewN | apply below_drew1 | refine below_set ?_ GE872.out) | exact HB.out)⟩
 ·rw [if_neg c3] at H
  have c3b0 : decide (t873 < 0) = false := decide_eq_false c3
  clear c3
  replace H := Option.bind_eq_some_iff.mp H
  obtain ⟨⟨t874, t877⟩, A70, H⟩ := H
  replace H : ((spec_CanonOf.f k t874 t877).bind fun bt880 => ((laws_toSurface.f k l0_0 l0_1).bind fun bt888 => ((impl_CanonOf.f k bt888.1 bt888.2).bind fun bt895 => ((laws_eqSurface.f k bt895.1 bt895.2.1 bt880.1 bt880.2.1).bind fun t903 => (if t903 = true then (laws_FnExactCanonOf.j0 k bt880.2.2 bt895.2.2 (bt895.2.2 != bt880.2.2) l0_0 l0_1 bt880.1 bt880.2.1 bt888.1 bt888.2 bt895.1 bt895.2.1) else (laws_FnExactCanonOf.j0 k bt880.2.2 bt895.2.2 true l0_0 l0_1 bt880.1 bt880.2.1 bt888.1 bt888.2 bt895.1 bt895.2.1)))))) = some true := H
  have A7 := Aside0.mk A70
  clear A70
  replace H := Option.bind_eq_some_iff.mp H
  obtain ⟨⟨t880, t883, t886⟩, A80, H⟩ := H
  replace H : ((laws_toSurface.f k l0_0 l0_1).bind fun bt888 => ((impl_CanonOf.f k bt888.1 bt888.2).bind fun bt895 => ((laws_eqSurface.f k bt895.1 bt895.2.1 t880 t883).bind fun t903 => (if t903 = true then (laws_FnExactCanonOf.j0 k t886 bt895.2.2 (bt895.2.2 != t886) l0_0 l0_1 t880 t883 bt888.1 bt888.2 bt895.1 bt895.2.1) else (laws_FnExactCanonOf.j0 k t886 bt895.2.2 true l0_0 l0_1 t880 t883 bt888.1 bt888.2 bt895.1 bt895.2.1))))) = some true := H
  have A8 := Aside0.mk A80
  clear A80
  replace H := Option.bind_eq_some_iff.mp H
  obtain ⟨⟨t888, t891⟩, A90, H⟩ := H
  replace H : ((impl_CanonOf.f k t888 t891).bind fun bt895 => ((laws_eqSurface.f k bt895.1 bt895.2.1 t880 t883).bind fun t903 => (if t903 = true then (laws_FnExactCanonOf.j0 k t886 bt895.2.2 (bt895.2.2 != t886) l0_0 l0_1 t880 t883 t888 t891 bt895.1 bt895.2.1) else (laws_FnExactCanonOf.j0 k t886 bt895.2.2 true l0_0 l0_1 t880 t883 t888 t891 bt895.1 bt895.2.1)))) = some true := H
  have A9 := Aside0.mk A90
  clear A90
  replace H := Option.bind_eq_some_iff.mp H
  obtain ⟨⟨t895, t898, t901⟩, A100, H⟩ := H
  replace H : ((laws_eqSurface.f k t895 t898 t880 t883).bind fun t903 => (if t903 = true then (laws_FnExactCanonOf.j0 k t886 t901 (t901 != t886) l0_0 l0_1 t880 t883 t888 t891 t895 t898) else (laws_FnExactCanonOf.j0 k t886 t901 true l0_0 l0_1 t880 t883 t888 t891 t895 t898))) = some true := H
  have A10 := Aside0.mk A100
  clear A100
  have HC11 := Aside0.mk H
  clear H
  go_enter Try.func7, Try.ntmps7
  go_upto_region 8 with (first | ((with_reducible refine gate_dst (N := 1) rfl ?_); refine box_event ?hg (N := 1) ?hd (cs := #[.slice A0_0 l0_0.length c0_0, .slice A0_1 l0_1.length c0_1]) (t := 24) ?hr ?_; (case hd => rfl); (case hg => rfl); (case hr => first | (go_simp; done) | (go_simp; rfl)); intro gb872 hg w12 hbox hb; have n0_ := Aside0.mk (below_step (by repeat (first | (with_reducible first | exact HB.out | apply below_alloc | apply pw_below_drewN | apply below_drew1) | exact HB.out)) hb); have n1_ := Aside0.mk (hbox); have n2_ := Aside0.mk ((by rw [hg]; exact (below_size (by repeat (first | (with_reducible first | exact HB.out | apply below_alloc | apply pw_below_drewN | apply below_drew1) | exact HB.out))) : w.heap.size ≤ gb872)); have n3_ := Aside0.mk ((by rw [hg]; exact (below_size (by repeat (first | (with_reducible first | exact HB.out | apply below_alloc | apply pw_below_drewN | apply below_drew1) | exact HB.out))) : w.heap.size ≤ gb872)); clear HB; have HB := n0_; have BK872 := n1_; have GW872 := n2_; have GE872 := n3_; clear n0_ n1_ n2_ n3_; clear hb hbox hg; have hcz13_0 : w12.cell? ⟨gb872, 0, none⟩ = some (.slice A0_0 l0_0.length c0_0) := (blk_cell BK872.out 0).trans rfl; have hcz13_1 : w12.cell? ⟨gb872, 1, none⟩ = some (.slice A0_1 l0_1.length c0_1) := (blk_cell BK872.out 1).trans rfl; have hfz13_0 := blk_frozen BK872.out 0; have hfz13_1 := blk_frozen BK872.out 1) | ((with_reducible refine gate_callee (f := 12) rfl ?_); refine goesL_ (some 16) rfl rfl Try.func12 (by kernel_rfl) rfl #[.agg #[.slice A0_0 l0_0.length c0_0, .slice A0_1 l0_1.length c0_1], .int .i64 1048576] rfl (by (try simp only [List.map_toArray, List.map_cons, List.map_nil]); first | done | rfl | (simp only [List.length_drop, List.length_take]; rfl)) ?_; (with_reducible refine (laws_szSurface.calls _ _ l0_0 _ _ l0_1 1048576 t873 _ ?side1 ?side2 ?side3 ?side4 A2.out).mono ?_); (case side1 => repeat (first | exact (Kd.C_below HR0_0.out HB.out) | (with_reducible refine Kd.C_alloc ?_ _) | (with_reducible refine Kd.C_drewN ?_ _) | (with_reducible refine Kd.C_drew ?_))); (case side2 => exact HC0_0.out); (case side3 => repeat (first | exact (Kd.C_below HR0_1.out HB.out) | (with_reducible refine Kd.C_alloc ?_ _) | (with_reducible refine Kd.C_drewN ?_ _) | (with_reducible refine Kd.C_drew ?_))); (case side4 => exact HC0_1.out); rintro e w14 ⟨rfl, hb⟩; refine ⟨_, rfl, ?_⟩; have n0_ := Aside0.mk (blk_below (g := gb872) (o := .cells #[.slice A0_0 l0_0.length c0_0, .slice A0_1 l0_1.length c0_1] 24 (0, 0)) (by (with_reducible repeat (first | refine blk_drewN ?_ _ | refine blk_drew ?_ | refine blk_alloc ?_ _)); exact BK872.out) hb); have n1_ := Aside0.mk (below_step (by repeat (first | (with_reducible first | exact HB.out | apply below_alloc | apply pw_below_drewN | apply below_drew1 | refine below_set ?_ GE872.out) | exact HB.out)) hb); clear BK872; clear HB; have BK872 := n0_; have HB := n1_; clear n0_ n1_; (try clear hb); (try clear hb2); (try clear hk); (try clear hi); have hcz15_0 : w14.cell? ⟨gb872, 0, none⟩ = some (.slice A0_0 l0_0.length c0_0) := (blk_cell BK872.out 0).trans rfl; have hcz15_1 : w14.cell? ⟨gb872, 1, none⟩ = some (.slice A0_1 l0_1.length c0_1) := (blk_cell BK872.out 1).trans rfl; have hfz15_0 := blk_frozen BK872.out 0; have hfz15_1 := blk_frozen BK872.out 1) | ((with_reducible refine gate_callee (f := 14) rfl ?_); refine goesL_ (some 21) rfl rfl Try.func14 (by kernel_rfl) rfl #[.agg #[.slice A0_0 l0_0.length c0_0, .slice A0_1 l0_1.length c0_1]] rfl (by (try simp only [List.map_toArray, List.map_cons, List.map_nil]); first | done | rfl | (simp only [List.length_drop, List.length_take]; rfl)) ?_; (with_reducible refine (laws_toSurface.calls k _ _ l0_0 _ _ l0_1 t874 t877 _ ?side1 ?side2 ?side3 ?side4 A7.out).mono ?_); (case side1 => repeat (first | exact (Kd.C_below HR0_0.out HB.out) | (with_reducible refine Kd.C_alloc ?_ _) | (with_reducible refine Kd.C_drewN ?_ _) | (with_reducible refine Kd.C_drew ?_))); (case side2 => exact HC0_0.out); (case side3 => repeat (first | exact (Kd.C_below HR0_1.out HB.out) | (with_reducible refine Kd.C_alloc ?_ _) | (with_reducible refine Kd.C_drewN ?_ _) | (with_reducible refine Kd.C_drew ?_))); (case side4 => exact HC0_1.out); rintro e w16 ⟨v875, v878, rfl, ho0, ho1, hb⟩; refine ⟨_, rfl, ?_⟩; have n0_ := Aside0.mk (Kd.R_lower ho0 (below_size (by repeat (first | (with_reducible first | exact HB.out | apply below_alloc | apply pw_below_drewN | apply below_drew1 | refine below_set ?_ GE872.out) | exact HB.out)))); have n1_ := Aside0.mk (Kd.R_lower ho1 (below_size (by repeat (first | (with_reducible first | exact HB.out | apply below_alloc | apply pw_below_drewN | apply below_drew1 | refine below_set ?_ GE872.out) | exact HB.out)))); have n2_ := Aside0.mk (blk_below (g := gb872) (o := .cells #[.slice A0_0 l0_0.length c0_0, .slice A0_1 l0_1.length c0_1] 24 (0, 0)) (by (with_reducible repeat (first | refine blk_drewN ?_ _ | refine blk_drew ?_ | refine blk_alloc ?_ _)); exact BK872.out) hb); have n3_ := Aside0.mk (below_step (by repeat (first | (with_reducible first | exact HB.out | apply below_alloc | apply pw_below_drewN | apply below_drew1 | refine below_set ?_ GE872.out) | exact HB.out)) hb); clear BK872; clear HB; have HO876 := n0_; have HO879 := n1_; have BK872 := n2_; have HB := n3_; clear n0_ n1_ n2_ n3_; (try clear hb); (try clear hb2); (try clear hk); (try clear hi); (try clear ho0); (try clear ho1); obtain ⟨Ao17, co17, eo17⟩ := Kd.R_slice HO876.out; subst eo17; obtain ⟨Ao18, co18, eo18⟩ := Kd.R_slice HO879.out; subst eo18) | ((with_reducible refine gate_callee (f := 28) rfl ?_); refine goesL_ (some 22) rfl rfl Try.func28 (by kernel_rfl) rfl #[.agg #[.slice Ao17 t874.length co17, .slice Ao18 t877.length co18]] rfl (by (try simp only [List.map_toArray, List.map_cons, List.map_nil]); first | done | rfl | (simp only [List.length_drop, List.length_take]; rfl)) ?_; (with_reducible refine (spec_CanonOf.calls k _ _ t874 _ _ t877 t880 t883 t886 _ ?side1 ?side2 ?side3 ?side4 A8.out).mono ?_); (case side1 => repeat (first | exact (Kd.R_reads' HO876.out).2.2 | (with_reducible refine Kd.C_alloc ?_ _) | (with_reducible refine Kd.C_drewN ?_ _) | (with_reducible refine Kd.C_drew ?_))); (case side2 => exact (Kd.R_reads' HO876.out).2.1); (case side3 => repeat (first | exact (Kd.R_reads' HO879.out).2.2 | (with_reducible refine Kd.C_alloc ?_ _) | (with_reducible refine Kd.C_drewN ?_ _) | (with_reducible refine Kd.C_drew ?_))); (case side4 => exact (Kd.R_reads' HO879.out).2.1); rintro e w19 ⟨v881, v884, rfl, ho0, ho1, hb⟩; refine ⟨_, rfl, ?_⟩; have n0_ := Aside0.mk (Kd.R_mono (Kd.R_told (Kd.R_told (Kd.R_old (by (with_reducible repeat (first | apply Kd.R_alloc | apply Kd.R_drewN | apply Kd.R_drew)); exact HO876.out) hb) (Kd.R_base ho0)) (Kd.R_base ho1)) (fun _ h_ => h_.1)); have n1_ := Aside0.mk (Kd.R_mono (Kd.R_told (Kd.R_told (Kd.R_old (by (with_reducible repeat (first | apply Kd.R_alloc | apply Kd.R_drewN | apply Kd.R_drew)); exact HO879.out) hb) (Kd.R_base ho0)) (Kd.R_base ho1)) (fun _ h_ => h_.1)); have n2_ := Aside0.mk (Kd.R_lower (Kd.R_new' (Kd.R_new' ho0 (Kd.R_lt (by (with_reducible repeat (first | apply Kd.R_alloc | apply Kd.R_drewN | apply Kd.R_drew)); exact HO876.out))) (Kd.R_lt (by (with_reducible repeat (first | apply Kd.R_alloc | apply Kd.R_drewN | apply Kd.R_drew)); exact HO879.out))) (below_size (by repeat (first | (with_reducible first | exact HB.out | apply below_alloc | apply pw_below_drewN | apply below_drew1 | refine below_set ?_ GE872.out) | exact HB.out)))); have n3_ := Aside0.mk (Kd.R_lower (Kd.R_new' (Kd.R_new' ho1 (Kd.R_lt (by (with_reducible repeat (first | apply Kd.R_alloc | apply Kd.R_drewN | apply Kd.R_drew)); exact HO876.out))) (Kd.R_lt (by (with_reducible repeat (first | apply Kd.R_alloc | apply Kd.R_drewN | apply Kd.R_drew)); exact HO879.out))) (below_size (by repeat (first | (with_reducible first | exact HB.out | apply below_alloc | apply pw_below_drewN | apply below_drew1 | refine below_set ?_ GE872.out) | exact HB.out)))); have n4_ := Aside0.mk (blk_below (g := gb872) (o := .cells #[.slice A0_0 l0_0.length c0_0, .slice A0_1 l0_1.length c0_1] 24 (0, 0)) (by (with_reducible repeat (first | refine blk_drewN ?_ _ | refine blk_drew ?_ | refine blk_alloc ?_ _)); exact BK872.out) hb); have n5_ := Aside0.mk (below_step (by repeat (first | (with_reducible first | exact HB.out | apply below_alloc | apply pw_below_drewN | apply below_drew1 | refine below_set ?_ GE872.out) | exact HB.out)) hb); clear HO876; clear HO879; clear BK872; clear HB; have HO876 := n0_; have HO879 := n1_; have HO882 := n2_; have HO885 := n3_; have BK872 := n4_; have HB := n5_; clear n0_ n1_ n2_ n3_ n4_ n5_; (try clear hb); (try clear hb2); (try clear hk); (try clear hi); (try clear ho0); (try clear ho1)) | ((with_reducible refine gate_dst (N := 4) rfl ?_); refine box_event ?hg (N := 4) ?hd (cs := #[.slice none 0 0, .slice none 0 0]) (t := 27) ?hr ?_; (case hd => rfl); (case hg => rfl); (case hr => first | (go_simp; done) | (go_simp; rfl)); intro gb887 hg w20 hbox hb; have n0_ := Aside0.mk (Kd.R_below (by (with_reducible repeat (first | apply Kd.R_alloc | apply Kd.R_drewN | apply Kd.R_drew)); exact HO876.out) hb); have n1_ := Aside0.mk (Kd.R_below (by (with_reducible repeat (first | apply Kd.R_alloc | apply Kd.R_drewN | apply Kd.R_drew)); exact HO879.out) hb); have n2_ := Aside0.mk (Kd.R_below (by (with_reducible repeat (first | apply Kd.R_alloc | apply Kd.R_drewN | apply Kd.R_drew)); exact HO882.out) hb); have n3_ := Aside0.mk (Kd.R_below (by (with_reducible repeat (first | apply Kd.R_alloc | apply Kd.R_drewN | apply Kd.R_drew)); exact HO885.out) hb); have n4_ := Aside0.mk (blk_below (g := gb872) (o := .cells #[.slice A0_0 l0_0.length c0_0, .slice A0_1 l0_1.length c0_1] 24 (0, 0)) (by (with_reducible repeat (first | refine blk_drewN ?_ _ | refine blk_drew ?_ | refine blk_alloc ?_ _)); exact BK872.out) hb); have n5_ := Aside0.mk (below_step (by repeat (first | (with_reducible first | exact HB.out | apply below_alloc | apply pw_below_drewN | apply below_drew1 | refine below_set ?_ GE872.out) | exact HB.out)) hb); have n6_ := Aside0.mk (hbox); have n7_ := Aside0.mk ((by rw [hg]; exact (below_size (by repeat (first | (with_reducible first | exact HB.out | apply below_alloc | apply pw_below_drewN | apply below_drew1 | refine below_set ?_ GE872.out) | exact HB.out))) : w.heap.size ≤ gb887)); have n8_ := Aside0.mk ((by rw [hg]; exact (below_size (by repeat (first | (with_reducible first | exact HB.out | apply below_alloc | apply pw_below_drewN | apply below_drew1 | refine below_set ?_ GE872.out) | exact HB.out))) : w.heap.size ≤ gb887)); have n9_ := Aside0.mk ((by rw [hg]; exact Nat.ne_of_lt (blk_lt (g := gb872) (o := .cells #[.slice A0_0 l0_0.length c0_0, .slice A0_1 l0_1.length c0_1] 24 (0, 0)) (by (with_reducible repeat (first | refine blk_drewN ?_ _ | refine blk_drew ?_ | refine blk_alloc ?_ _)); exact BK872.out)) : gb872 ≠ gb887)); have n10_ := Aside0.mk ((by rw [hg]; exact Nat.ne_of_gt (blk_lt (g := gb872) (o := .cells #[.slice A0_0 l0_0.length c0_0, .slice A0_1 l0_1.length c0_1] 24 (0, 0)) (by (with_reducible repeat (first | refine blk_drewN ?_ _ | refine blk_drew ?_ | refine blk_alloc ?_ _)); exact BK872.out)) : gb887 ≠ gb872)); clear HO876; clear HO879; clear HO882; clear HO885; clear BK872; clear HB; have HO876 := n0_; have HO879 := n1_; have HO882 := n2_; have HO885 := n3_; have BK872 := n4_; have HB := n5_; have BK887 := n6_; have GW887 := n7_; have GE887 := n8_; have NB872_887 := n9_; have NB887_872 := n10_; clear n0_ n1_ n2_ n3_ n4_ n5_ n6_ n7_ n8_ n9_ n10_; clear hb hbox hg; obtain ⟨Ao21, co21, eo21⟩ := Kd.R_slice HO882.out; subst eo21; have hnb22 := NB887_872.out; have hnc22 := NB872_887.out; have hcz23_0 : w20.cell? ⟨gb887, 0, none⟩ = some (.slice none 0 0) := (blk_cell BK887.out 0).trans rfl; have hcz23_1 : w20.cell? ⟨gb887, 1, none⟩ = some (.slice none 0 0) := (blk_cell BK887.out 1).trans rfl; have hfz23_0 := blk_frozen BK887.out 0; have hfz23_1 := blk_frozen BK887.out 1; obtain ⟨Ao24, co24, eo24⟩ := Kd.R_slice HO885.out; subst eo24; have hcz25_0 : w20.cell? ⟨gb872, 0, none⟩ = some (.slice A0_0 l0_0.length c0_0) := (blk_cell BK872.out 0).trans rfl; have hcz25_1 : w20.cell? ⟨gb872, 1, none⟩ = some (.slice A0_1 l0_1.length c0_1) := (blk_cell BK872.out 1).trans rfl; have hfz25_0 := blk_frozen BK872.out 0; have hfz25_1 := blk_frozen BK872.out 1) | ((with_reducible refine gate_callee (f := 14) rfl ?_); refine goesL_ (some 26) rfl rfl Try.func14 (by kernel_rfl) rfl #[.agg #[.slice A0_0 l0_0.length c0_0, .slice A0_1 l0_1.length c0_1]] rfl (by (try simp only [List.map_toArray, List.map_cons, List.map_nil]); first | done | rfl | (simp only [List.length_drop, List.length_take]; rfl)) ?_; (with_reducible refine (laws_toSurface.calls k _ _ l0_0 _ _ l0_1 t888 t891 _ ?side1 ?side2 ?side3 ?side4 A9.out).mono ?_); (case side1 => exact Kd.C_below HR0_0.out (by repeat (first | (with_reducible first | exact HB.out | apply below_alloc | apply pw_below_drewN | apply below_drew1 | refine below_set ?_ GE872.out | refine below_set ?_ GE887.out) | exact HB.out))); (case side2 => exact HC0_0.out); (case side3 => exact Kd.C_below HR0_1.out (by repeat (first | (with_reducible first | exact HB.out | apply below_alloc | apply pw_below_drewN | apply below_drew1 | refine below_set ?_ GE872.out | refine below_set ?_ GE887.out) | exact HB.out))); (case side4 => exact HC0_1.out); rintro e w26 ⟨v889, v892, rfl, ho0, ho1, hb⟩; refine ⟨_, rfl, ?_⟩; have n0_ := Aside0.mk (Kd.R_mono (Kd.R_told (Kd.R_told (Kd.R_old (by (with_reducible repeat (first | apply Kd.R_alloc | apply Kd.R_drewN | apply Kd.R_drew)); exact (Kd.R_mono (Kd.R_far (p := ⟨gb887, 1, none⟩) (Kd.R_far (p := ⟨gb887, 0, none⟩) (Kd.R_types HO876.out BK887.out (by decide)) (fun _ hk => hk.2) (.slice Ao21 t880.length co21)) (fun _ hk => hk.2) (.slice Ao24 t883.length co24)) (fun _ h_ => h_.1))) hb) (Kd.R_base ho0)) (Kd.R_base ho1)) (fun _ h_ => h_.1)); have n1_ := Aside0.mk (Kd.R_mono (Kd.R_told (Kd.R_told (Kd.R_old (by (with_reducible repeat (first | apply Kd.R_alloc | apply Kd.R_drewN | apply Kd.R_drew)); exact (Kd.R_mono (Kd.R_far (p := ⟨gb887, 1, none⟩) (Kd.R_far (p := ⟨gb887, 0, none⟩) (Kd.R_types HO879.out BK887.out (by decide)) (fun _ hk => hk.2) (.slice Ao21 t880.length co21)) (fun _ hk => hk.2) (.slice Ao24 t883.length co24)) (fun _ h_ => h_.1))) hb) (Kd.R_base ho0)) (Kd.R_base ho1)) (fun _ h_ => h_.1)); have n2_ := Aside0.mk (Kd.R_mono (Kd.R_told (Kd.R_told (Kd.R_old (by (with_reducible repeat (first | apply Kd.R_alloc | apply Kd.R_drewN | apply Kd.R_drew)); exact (Kd.R_mono (Kd.R_far (p := ⟨gb887, 1, none⟩) (Kd.R_far (p := ⟨gb887, 0, none⟩) (Kd.R_types HO882.out BK887.out (by decide)) (fun _ hk => hk.2) (.slice Ao21 t880.length co21)) (fun _ hk => hk.2) (.slice Ao24 t883.length co24)) (fun _ h_ => h_.1))) hb) (Kd.R_base ho0)) (Kd.R_base ho1)) (fun _ h_ => h_.1)); have n3_ := Aside0.mk (Kd.R_mono (Kd.R_told (Kd.R_told (Kd.R_old (by (with_reducible repeat (first | apply Kd.R_alloc | apply Kd.R_drewN | apply Kd.R_drew)); exact (Kd.R_mono (Kd.R_far (p := ⟨gb887, 1, none⟩) (Kd.R_far (p := ⟨gb887, 0, none⟩) (Kd.R_types HO885.out BK887.out (by decide)) (fun _ hk => hk.2) (.slice Ao21 t880.length co21)) (fun _ hk => hk.2) (.slice Ao24 t883.length co24)) (fun _ h_ => h_.1))) hb) (Kd.R_base ho0)) (Kd.R_base ho1)) (fun _ h_ => h_.1)); have n4_ := Aside0.mk (Kd.R_lower (Kd.R_new' (Kd.R_new' (Kd.R_new' (Kd.R_new' ho0 (Kd.R_lt (by (with_reducible repeat (first | apply Kd.R_alloc | apply Kd.R_drewN | apply Kd.R_drew)); exact (Kd.R_mono (Kd.R_far (p := ⟨gb887, 1, none⟩) (Kd.R_far (p := ⟨gb887, 0, none⟩) (Kd.R_types HO876.out BK887.out (by decide)) (fun _ hk => hk.2) (.slice Ao21 t880.length co21)) (fun _ hk => hk.2) (.slice Ao24 t883.length co24)) (fun _ h_ => h_.1))))) (Kd.R_lt (by (with_reducible repeat (first | apply Kd.R_alloc | apply Kd.R_drewN | apply Kd.R_drew)); exact (Kd.R_mono (Kd.R_far (p := ⟨gb887, 1, none⟩) (Kd.R_far (p := ⟨gb887, 0, none⟩) (Kd.R_types HO879.out BK887.out (by decide)) (fun _ hk => hk.2) (.slice Ao21 t880.length co21)) (fun _ hk => hk.2) (.slice Ao24 t883.length co24)) (fun _ h_ => h_.1))))) (Kd.R_lt (by (with_reducible repeat (first | apply Kd.R_alloc | apply Kd.R_drewN | apply Kd.R_drew)); exact (Kd.R_mono (Kd.R_far (p := ⟨gb887, 1, none⟩) (Kd.R_far (p := ⟨gb887, 0, none⟩) (Kd.R_types HO882.out BK887.out (by decide)) (fun _ hk => hk.2) (.slice Ao21 t880.length co21)) (fun _ hk => hk.2) (.slice Ao24 t883.length co24)) (fun _ h_ => h_.1))))) (Kd.R_lt (by (with_reducible repeat (first | apply Kd.R_alloc | apply Kd.R_drewN | apply Kd.R_drew)); exact (Kd.R_mono (Kd.R_far (p := ⟨gb887, 1, none⟩) (Kd.R_far (p := ⟨gb887, 0, none⟩) (Kd.R_types HO885.out BK887.out (by decide)) (fun _ hk => hk.2) (.slice Ao21 t880.length co21)) (fun _ hk => hk.2) (.slice Ao24 t883.length co24)) (fun _ h_ => h_.1))))) (below_size (by repeat (first | (with_reducible first | exact HB.out | apply below_alloc | apply pw_below_drewN | apply below_drew1 | refine below_set ?_ GE872.out | refine below_set ?_ GE887.out) | exact HB.out)))); have n5_ := Aside0.mk (Kd.R_lower (Kd.R_new' (Kd.R_new' (Kd.R_new' (Kd.R_new' ho1 (Kd.R_lt (by (with_reducible repeat (first | apply Kd.R_alloc | apply Kd.R_drewN | apply Kd.R_drew)); exact (Kd.R_mono (Kd.R_far (p := ⟨gb887, 1, none⟩) (Kd.R_far (p := ⟨gb887, 0, none⟩) (Kd.R_types HO876.out BK887.out (by decide)) (fun _ hk => hk.2) (.slice Ao21 t880.length co21)) (fun _ hk => hk.2) (.slice Ao24 t883.length co24)) (fun _ h_ => h_.1))))) (Kd.R_lt (by (with_reducible repeat (first | apply Kd.R_alloc | apply Kd.R_drewN | apply Kd.R_drew)); exact (Kd.R_mono (Kd.R_far (p := ⟨gb887, 1, none⟩) (Kd.R_far (p := ⟨gb887, 0, none⟩) (Kd.R_types HO879.out BK887.out (by decide)) (fun _ hk => hk.2) (.slice Ao21 t880.length co21)) (fun _ hk => hk.2) (.slice Ao24 t883.length co24)) (fun _ h_ => h_.1))))) (Kd.R_lt (by (with_reducible repeat (first | apply Kd.R_alloc | apply Kd.R_drewN | apply Kd.R_drew)); exact (Kd.R_mono (Kd.R_far (p := ⟨gb887, 1, none⟩) (Kd.R_far (p := ⟨gb887, 0, none⟩) (Kd.R_types HO882.out BK887.out (by decide)) (fun _ hk => hk.2) (.slice Ao21 t880.length co21)) (fun _ hk => hk.2) (.slice Ao24 t883.length co24)) (fun _ h_ => h_.1))))) (Kd.R_lt (by (with_reducible repeat (first | apply Kd.R_alloc | apply Kd.R_drewN | apply Kd.R_drew)); exact (Kd.R_mono (Kd.R_far (p := ⟨gb887, 1, none⟩) (Kd.R_far (p := ⟨gb887, 0, none⟩) (Kd.R_types HO885.out BK887.out (by decide)) (fun _ hk => hk.2) (.slice Ao21 t880.length co21)) (fun _ hk => hk.2) (.slice Ao24 t883.length co24)) (fun _ h_ => h_.1))))) (below_size (by repeat (first | (with_reducible first | exact HB.out | apply below_alloc | apply pw_below_drewN | apply below_drew1 | refine below_set ?_ GE872.out | refine below_set ?_ GE887.out) | exact HB.out)))); have n6_ := Aside0.mk (blk_below (g := gb872) (o := .cells #[.slice A0_0 l0_0.length c0_0, .slice A0_1 l0_1.length c0_1] 24 (0, 0)) (by (with_reducible repeat (first | refine blk_drewN ?_ _ | refine blk_drew ?_ | refine blk_alloc ?_ _)); refine blk_far ?_ NB872_887.out _; (with_reducible repeat (first | refine blk_drewN ?_ _ | refine blk_drew ?_ | refine blk_alloc ?_ _)); refine blk_far ?_ NB872_887.out _; (with_reducible repeat (first | refine blk_drewN ?_ _ | refine blk_drew ?_ | refine blk_alloc ?_ _)); exact BK872.out) hb); have n7_ := Aside0.mk (blk_below (g := gb887) (o := .cells #[.slice Ao21 t880.length co21, .slice Ao24 t883.length co24] 27 (0, 0)) (by (with_reducible repeat (first | refine blk_drewN ?_ _ | refine blk_drew ?_ | refine blk_alloc ?_ _)); refine blk_put (cs := #[.slice Ao21 t880.length co21, .slice none 0 0]) ?_ 1 _ rfl; (with_reducible repeat (first | refine blk_drewN ?_ _ | refine blk_drew ?_ | refine blk_alloc ?_ _)); refine blk_put (cs := #[.slice none 0 0, .slice none 0 0]) ?_ 0 _ rfl; (with_reducible repeat (first | refine blk_drewN ?_ _ | refine blk_drew ?_ | refine blk_alloc ?_ _)); exact BK887.out) hb); have n8_ := Aside0.mk (below_step (by repeat (first | (with_reducible first | exact HB.out | apply below_alloc | apply pw_below_drewN | apply below_drew1 | refine below_set ?_ GE872.out | refine below_set ?_ GE887.out) | exact HB.out)) hb); clear HO876; clear HO879; clear HO882; clear HO885; clear BK872; clear BK887; clear HB; have HO876 := n0_; have HO879 := n1_; have HO882 := n2_; have HO885 := n3_; have HO890 := n4_; have HO893 := n5_; have BK872 := n6_; have BK887 := n7_; have HB := n8_; clear n0_ n1_ n2_ n3_ n4_ n5_ n6_ n7_ n8_; (try clear hb); (try clear hb2); (try clear hk); (try clear hi); (try clear ho0); (try clear ho1)) | ((with_reducible refine gate_dst (N := 6) rfl ?_); refine box_event ?hg (N := 6) ?hd (cs := #[.slice none 0 0, .slice none 0 0]) (t := 27) ?hr ?_; (case hd => rfl); (case hg => rfl); (case hr => first | (go_simp; done) | (go_simp; rfl)); intro gb894 hg w27 hbox hb; have n0_ := Aside0.mk (Kd.R_below (by (with_reducible repeat (first | apply Kd.R_alloc | apply Kd.R_drewN | apply Kd.R_drew)); exact HO876.out) hb); have n1_ := Aside0.mk (Kd.R_below (by (with_reducible repeat (first | apply Kd.R_alloc | apply Kd.R_drewN | apply Kd.R_drew)); exact HO879.out) hb); have n2_ := Aside0.mk (Kd.R_below (by (with_reducible repeat (first | apply Kd.R_alloc | apply Kd.R_drewN | apply Kd.R_drew)); exact HO882.out) hb); have n3_ := Aside0.mk (Kd.R_below (by (with_reducible repeat (first | apply Kd.R_alloc | apply Kd.R_drewN | apply Kd.R_drew)); exact HO885.out) hb); have n4_ := Aside0.mk (Kd.R_below (by (with_reducible repeat (first | apply Kd.R_alloc | apply Kd.R_drewN | apply Kd.R_drew)); exact HO890.out) hb); have n5_ := Aside0.mk (Kd.R_below (by (with_reducible repeat (first | apply Kd.R_alloc | apply Kd.R_drewN | apply Kd.R_drew)); exact HO893.out) hb); have n6_ := Aside0.mk (blk_below (g := gb872) (o := .cells #[.slice A0_0 l0_0.length c0_0, .slice A0_1 l0_1.length c0_1] 24 (0, 0)) (by (with_reducible repeat (first | refine blk_drewN ?_ _ | refine blk_drew ?_ | refine blk_alloc ?_ _)); exact BK872.out) hb); have n7_ := Aside0.mk (blk_below (g := gb887) (o := .cells #[.slice Ao21 t880.length co21, .slice Ao24 t883.length co24] 27 (0, 0)) (by (with_reducible repeat (first | refine blk_drewN ?_ _ | refine blk_drew ?_ | refine blk_alloc ?_ _)); exact BK887.out) hb); have n8_ := Aside0.mk (below_step (by repeat (first | (with_reducible first | exact HB.out | apply below_alloc | apply pw_below_drewN | apply below_drew1 | refine below_set ?_ GE872.out | refine below_set ?_ GE887.out) | exact HB.out)) hb); have n9_ := Aside0.mk (hbox); have n10_ := Aside0.mk ((by rw [hg]; exact (below_size (by repeat (first | (with_reducible first | exact HB.out | apply below_alloc | apply pw_below_drewN | apply below_drew1 | refine below_set ?_ GE872.out | refine below_set ?_ GE887.out) | exact HB.out))) : w.heap.size ≤ gb894)); have n11_ := Aside0.mk ((by rw [hg]; exact (below_size (by repeat (first | (with_reducible first | exact HB.out | apply below_alloc | apply pw_below_drewN | apply below_drew1 | refine below_set ?_ GE872.out | refine below_set ?_ GE887.out) | exact HB.out))) : w.heap.size ≤ gb894)); have n12_ := Aside0.mk ((by rw [hg]; exact Nat.ne_of_lt (blk_lt (g := gb872) (o := .cells #[.slice A0_0 l0_0.length c0_0, .slice A0_1 l0_1.length c0_1] 24 (0, 0)) (by (with_reducible repeat (first | refine blk_drewN ?_ _ | refine blk_drew ?_ | refine blk_alloc ?_ _)); exact BK872.out)) : gb872 ≠ gb894)); have n13_ := Aside0.mk ((by rw [hg]; exact Nat.ne_of_gt (blk_lt (g := gb872) (o := .cells #[.slice A0_0 l0_0.length c0_0, .slice A0_1 l0_1.length c0_1] 24 (0, 0)) (by (with_reducible repeat (first | refine blk_drewN ?_ _ | refine blk_drew ?_ | refine blk_alloc ?_ _)); exact BK872.out)) : gb894 ≠ gb872)); have n14_ := Aside0.mk ((by rw [hg]; exact Nat.ne_of_lt (blk_lt (g := gb887) (o := .cells #[.slice Ao21 t880.length co21, .slice Ao24 t883.length co24] 27 (0, 0)) (by (with_reducible repeat (first | refine blk_drewN ?_ _ | refine blk_drew ?_ | refine blk_alloc ?_ _)); exact BK887.out)) : gb887 ≠ gb894)); have n15_ := Aside0.mk ((by rw [hg]; exact Nat.ne_of_gt (blk_lt (g := gb887) (o := .cells #[.slice Ao21 t880.length co21, .slice Ao24 t883.length co24] 27 (0, 0)) (by (with_reducible repeat (first | refine blk_drewN ?_ _ | refine blk_drew ?_ | refine blk_alloc ?_ _)); exact BK887.out)) : gb894 ≠ gb887)); clear HO876; clear HO879; clear HO882; clear HO885; clear HO890; clear HO893; clear BK872; clear BK887; clear HB; have HO876 := n0_; have HO879 := n1_; have HO882 := n2_; have HO885 := n3_; have HO890 := n4_; have HO893 := n5_; have BK872 := n6_; have BK887 := n7_; have HB := n8_; have BK894 := n9_; have GW894 := n10_; have GE894 := n11_; have NB872_894 := n12_; have NB894_872 := n13_; have NB887_894 := n14_; have NB894_887 := n15_; clear n0_ n1_ n2_ n3_ n4_ n5_ n6_ n7_ n8_ n9_ n10_ n11_ n12_ n13_ n14_ n15_; clear hb hbox hg; obtain ⟨Ao28, co28, eo28⟩ := Kd.R_slice HO890.out; subst eo28; have hnb29 := NB894_872.out; have hnc29 := NB872_894.out; have hnb30 := NB894_887.out; have hnc30 := NB887_894.out; have hcz31_0 : w27.cell? ⟨gb894, 0, none⟩ = some (.slice none 0 0) := (blk_cell BK894.out 0).trans rfl; have hcz31_1 : w27.cell? ⟨gb894, 1, none⟩ = some (.slice none 0 0) := (blk_cell BK894.out 1).trans rfl; have hfz31_0 := blk_frozen BK894.out 0; have hfz31_1 := blk_frozen BK894.out 1; obtain ⟨Ao32, co32, eo32⟩ := Kd.R_slice HO893.out; subst eo32) | ((with_reducible refine gate_callee (f := 29) rfl ?_); refine goesL_ (some 29) rfl rfl Try.func29 (by kernel_rfl) rfl #[.agg #[.slice Ao28 t888.length co28, .slice Ao32 t891.length co32]] rfl (by (try simp only [List.map_toArray, List.map_cons, List.map_nil]); first | done | rfl | (simp only [List.length_drop, List.length_take]; rfl)) ?_; (with_reducible refine (impl_CanonOf.calls k _ _ t888 _ _ t891 t895 t898 t901 _ ?side1 ?side2 ?side3 ?side4 A10.out).mono ?_); (case side1 => refine (Kd.R_reads' (e := 3) (base := w.heap.size) (ok := fun k_ => ((((some k_ ≠ (.slice Ao32 t891.length co32 : Value).ownBlock ∧ some k_ ≠ (.slice Ao17 t874.length co17 : Value).ownBlock) ∧ some k_ ≠ (.slice Ao18 t877.length co18 : Value).ownBlock) ∧ some k_ ≠ (.slice Ao21 t880.length co21 : Value).ownBlock) ∧ some k_ ≠ (.slice Ao24 t883.length co24 : Value).ownBlock)) (n := t888.length) (c := co28) ?_).2.2; exact (by (with_reducible repeat (first | apply Kd.R_alloc | apply Kd.R_drewN | apply Kd.R_drew)); exact (Kd.R_mono (Kd.R_far (p := ⟨gb894, 1, none⟩) (Kd.R_far (p := ⟨gb894, 0, none⟩) (Kd.R_types HO890.out BK894.out (by decide)) (fun _ hk => hk.2) (.slice Ao28 t888.length co28)) (fun _ hk => hk.2) (.slice Ao32 t891.length co32)) (fun _ h_ => h_.1)))); (case side2 => exact (Kd.R_reads' HO890.out).2.1); (case side3 => refine (Kd.R_reads' (e := 3) (base := w.heap.size) (ok := fun k_ => ((((some k_ ≠ (.slice Ao28 t888.length co28 : Value).ownBlock ∧ some k_ ≠ (.slice Ao17 t874.length co17 : Value).ownBlock) ∧ some k_ ≠ (.slice Ao18 t877.length co18 : Value).ownBlock) ∧ some k_ ≠ (.slice Ao21 t880.length co21 : Value).ownBlock) ∧ some k_ ≠ (.slice Ao24 t883.length co24 : Value).ownBlock)) (n := t891.length) (c := co32) ?_).2.2; exact (by (with_reducible repeat (first | apply Kd.R_alloc | apply Kd.R_drewN | apply Kd.R_drew)); exact (Kd.R_mono (Kd.R_far (p := ⟨gb894, 1, none⟩) (Kd.R_far (p := ⟨gb894, 0, none⟩) (Kd.R_types HO893.out BK894.out (by decide)) (fun _ hk => hk.2) (.slice Ao28 t888.length co28)) (fun _ hk => hk.2) (.slice Ao32 t891.length co32)) (fun _ h_ => h_.1)))); (case side4 => exact (Kd.R_reads' HO893.out).2.1); rintro e w33 ⟨v896, v899, rfl, ho0, ho1, hb⟩; refine ⟨_, rfl, ?_⟩; have n0_ := Aside0.mk (Kd.R_mono (Kd.R_told (Kd.R_told (Kd.R_old (by (with_reducible repeat (first | apply Kd.R_alloc | apply Kd.R_drewN | apply Kd.R_drew)); exact (Kd.R_mono (Kd.R_far (p := ⟨gb894, 1, none⟩) (Kd.R_far (p := ⟨gb894, 0, none⟩) (Kd.R_types HO876.out BK894.out (by decide)) (fun _ hk => hk.2) (.slice Ao28 t888.length co28)) (fun _ hk => hk.2) (.slice Ao32 t891.length co32)) (fun _ h_ => h_.1))) hb) (Kd.R_base ho0)) (Kd.R_base ho1)) (fun _ h_ => h_.1)); have n1_ := Aside0.mk (Kd.R_mono (Kd.R_told (Kd.R_told (Kd.R_old (by (with_reducible repeat (first | apply Kd.R_alloc | apply Kd.R_drewN | apply Kd.R_drew)); exact (Kd.R_mono (Kd.R_far (p := ⟨gb894, 1, none⟩) (Kd.R_far (p := ⟨gb894, 0, none⟩) (Kd.R_types HO879.out BK894.out (by decide)) (fun _ hk => hk.2) (.slice Ao28 t888.length co28)) (fun _ hk => hk.2) (.slice Ao32 t891.length co32)) (fun _ h_ => h_.1))) hb) (Kd.R_base ho0)) (Kd.R_base ho1)) (fun _ h_ => h_.1)); have n2_ := Aside0.mk (Kd.R_mono (Kd.R_told (Kd.R_told (Kd.R_old (by (with_reducible repeat (first | apply Kd.R_alloc | apply Kd.R_drewN | apply Kd.R_drew)); exact (Kd.R_mono (Kd.R_far (p := ⟨gb894, 1, none⟩) (Kd.R_far (p := ⟨gb894, 0, none⟩) (Kd.R_types HO882.out BK894.out (by decide)) (fun _ hk => hk.2) (.slice Ao28 t888.length co28)) (fun _ hk => hk.2) (.slice Ao32 t891.length co32)) (fun _ h_ => h_.1))) hb) (Kd.R_base ho0)) (Kd.R_base ho1)) (fun _ h_ => h_.1)); have n3_ := Aside0.mk (Kd.R_mono (Kd.R_told (Kd.R_told (Kd.R_old (by (with_reducible repeat (first | apply Kd.R_alloc | apply Kd.R_drewN | apply Kd.R_drew)); exact (Kd.R_mono (Kd.R_far (p := ⟨gb894, 1, none⟩) (Kd.R_far (p := ⟨gb894, 0, none⟩) (Kd.R_types HO885.out BK894.out (by decide)) (fun _ hk => hk.2) (.slice Ao28 t888.length co28)) (fun _ hk => hk.2) (.slice Ao32 t891.length co32)) (fun _ h_ => h_.1))) hb) (Kd.R_base ho0)) (Kd.R_base ho1)) (fun _ h_ => h_.1)); have n4_ := Aside0.mk (Kd.R_mono (Kd.R_told (Kd.R_told (Kd.R_old (by (with_reducible repeat (first | apply Kd.R_alloc | apply Kd.R_drewN | apply Kd.R_drew)); exact (Kd.R_mono (Kd.R_far (p := ⟨gb894, 1, none⟩) (Kd.R_far (p := ⟨gb894, 0, none⟩) (Kd.R_types HO890.out BK894.out (by decide)) (fun _ hk => hk.2) (.slice Ao28 t888.length co28)) (fun _ hk => hk.2) (.slice Ao32 t891.length co32)) (fun _ h_ => h_.1))) hb) (Kd.R_base ho0)) (Kd.R_base ho1)) (fun _ h_ => h_.1)); have n5_ := Aside0.mk (Kd.R_mono (Kd.R_told (Kd.R_told (Kd.R_old (by (with_reducible repeat (first | apply Kd.R_alloc | apply Kd.R_drewN | apply Kd.R_drew)); exact (Kd.R_mono (Kd.R_far (p := ⟨gb894, 1, none⟩) (Kd.R_far (p := ⟨gb894, 0, none⟩) (Kd.R_types HO893.out BK894.out (by decide)) (fun _ hk => hk.2) (.slice Ao28 t888.length co28)) (fun _ hk => hk.2) (.slice Ao32 t891.length co32)) (fun _ h_ => h_.1))) hb) (Kd.R_base ho0)) (Kd.R_base ho1)) (fun _ h_ => h_.1)); have n6_ := Aside0.mk (Kd.R_lower (Kd.R_new' (Kd.R_new' (Kd.R_new' (Kd.R_new' (Kd.R_new' (Kd.R_new' ho0 (Kd.R_lt (by (with_reducible repeat (first | apply Kd.R_alloc | apply Kd.R_drewN | apply Kd.R_drew)); exact (Kd.R_mono (Kd.R_far (p := ⟨gb894, 1, none⟩) (Kd.R_far (p := ⟨gb894, 0, none⟩) (Kd.R_types HO876.out BK894.out (by decide)) (fun _ hk => hk.2) (.slice Ao28 t888.length co28)) (fun _ hk => hk.2) (.slice Ao32 t891.length co32)) (fun _ h_ => h_.1))))) (Kd.R_lt (by (with_reducible repeat (first | apply Kd.R_alloc | apply Kd.R_drewN | apply Kd.R_drew)); exact (Kd.R_mono (Kd.R_far (p := ⟨gb894, 1, none⟩) (Kd.R_far (p := ⟨gb894, 0, none⟩) (Kd.R_types HO879.out BK894.out (by decide)) (fun _ hk => hk.2) (.slice Ao28 t888.length co28)) (fun _ hk => hk.2) (.slice Ao32 t891.length co32)) (fun _ h_ => h_.1))))) (Kd.R_lt (by (with_reducible repeat (first | apply Kd.R_alloc | apply Kd.R_drewN | apply Kd.R_drew)); exact (Kd.R_mono (Kd.R_far (p := ⟨gb894, 1, none⟩) (Kd.R_far (p := ⟨gb894, 0, none⟩) (Kd.R_types HO882.out BK894.out (by decide)) (fun _ hk => hk.2) (.slice Ao28 t888.length co28)) (fun _ hk => hk.2) (.slice Ao32 t891.length co32)) (fun _ h_ => h_.1))))) (Kd.R_lt (by (with_reducible repeat (first | apply Kd.R_alloc | apply Kd.R_drewN | apply Kd.R_drew)); exact (Kd.R_mono (Kd.R_far (p := ⟨gb894, 1, none⟩) (Kd.R_far (p := ⟨gb894, 0, none⟩) (Kd.R_types HO885.out BK894.out (by decide)) (fun _ hk => hk.2) (.slice Ao28 t888.length co28)) (fun _ hk => hk.2) (.slice Ao32 t891.length co32)) (fun _ h_ => h_.1))))) (Kd.R_lt (by (with_reducible repeat (first | apply Kd.R_alloc | apply Kd.R_drewN | apply Kd.R_drew)); exact (Kd.R_mono (Kd.R_far (p := ⟨gb894, 1, none⟩) (Kd.R_far (p := ⟨gb894, 0, none⟩) (Kd.R_types HO890.out BK894.out (by decide)) (fun _ hk => hk.2) (.slice Ao28 t888.length co28)) (fun _ hk => hk.2) (.slice Ao32 t891.length co32)) (fun _ h_ => h_.1))))) (Kd.R_lt (by (with_reducible repeat (first | apply Kd.R_alloc | apply Kd.R_drewN | apply Kd.R_drew)); exact (Kd.R_mono (Kd.R_far (p := ⟨gb894, 1, none⟩) (Kd.R_far (p := ⟨gb894, 0, none⟩) (Kd.R_types HO893.out BK894.out (by decide)) (fun _ hk => hk.2) (.slice Ao28 t888.length co28)) (fun _ hk => hk.2) (.slice Ao32 t891.length co32)) (fun _ h_ => h_.1))))) (below_size (by repeat (first | (with_reducible first | exact HB.out | apply below_alloc | apply pw_below_drewN | apply below_drew1 | refine below_set ?_ GE872.out | refine below_set ?_ GE887.out | refine below_set ?_ GE894.out) | exact HB.out)))); have n7_ := Aside0.mk (Kd.R_lower (Kd.R_new' (Kd.R_new' (Kd.R_new' (Kd.R_new' (Kd.R_new' (Kd.R_new' ho1 (Kd.R_lt (by (with_reducible repeat (first | apply Kd.R_alloc | apply Kd.R_drewN | apply Kd.R_drew)); exact (Kd.R_mono (Kd.R_far (p := ⟨gb894, 1, none⟩) (Kd.R_far (p := ⟨gb894, 0, none⟩) (Kd.R_types HO876.out BK894.out (by decide)) (fun _ hk => hk.2) (.slice Ao28 t888.length co28)) (fun _ hk => hk.2) (.slice Ao32 t891.length co32)) (fun _ h_ => h_.1))))) (Kd.R_lt (by (with_reducible repeat (first | apply Kd.R_alloc | apply Kd.R_drewN | apply Kd.R_drew)); exact (Kd.R_mono (Kd.R_far (p := ⟨gb894, 1, none⟩) (Kd.R_far (p := ⟨gb894, 0, none⟩) (Kd.R_types HO879.out BK894.out (by decide)) (fun _ hk => hk.2) (.slice Ao28 t888.length co28)) (fun _ hk => hk.2) (.slice Ao32 t891.length co32)) (fun _ h_ => h_.1))))) (Kd.R_lt (by (with_reducible repeat (first | apply Kd.R_alloc | apply Kd.R_drewN | apply Kd.R_drew)); exact (Kd.R_mono (Kd.R_far (p := ⟨gb894, 1, none⟩) (Kd.R_far (p := ⟨gb894, 0, none⟩) (Kd.R_types HO882.out BK894.out (by decide)) (fun _ hk => hk.2) (.slice Ao28 t888.length co28)) (fun _ hk => hk.2) (.slice Ao32 t891.length co32)) (fun _ h_ => h_.1))))) (Kd.R_lt (by (with_reducible repeat (first | apply Kd.R_alloc | apply Kd.R_drewN | apply Kd.R_drew)); exact (Kd.R_mono (Kd.R_far (p := ⟨gb894, 1, none⟩) (Kd.R_far (p := ⟨gb894, 0, none⟩) (Kd.R_types HO885.out BK894.out (by decide)) (fun _ hk => hk.2) (.slice Ao28 t888.length co28)) (fun _ hk => hk.2) (.slice Ao32 t891.length co32)) (fun _ h_ => h_.1))))) (Kd.R_lt (by (with_reducible repeat (first | apply Kd.R_alloc | apply Kd.R_drewN | apply Kd.R_drew)); exact (Kd.R_mono (Kd.R_far (p := ⟨gb894, 1, none⟩) (Kd.R_far (p := ⟨gb894, 0, none⟩) (Kd.R_types HO890.out BK894.out (by decide)) (fun _ hk => hk.2) (.slice Ao28 t888.length co28)) (fun _ hk => hk.2) (.slice Ao32 t891.length co32)) (fun _ h_ => h_.1))))) (Kd.R_lt (by (with_reducible repeat (first | apply Kd.R_alloc | apply Kd.R_drewN | apply Kd.R_drew)); exact (Kd.R_mono (Kd.R_far (p := ⟨gb894, 1, none⟩) (Kd.R_far (p := ⟨gb894, 0, none⟩) (Kd.R_types HO893.out BK894.out (by decide)) (fun _ hk => hk.2) (.slice Ao28 t888.length co28)) (fun _ hk => hk.2) (.slice Ao32 t891.length co32)) (fun _ h_ => h_.1))))) (below_size (by repeat (first | (with_reducible first | exact HB.out | apply below_alloc | apply pw_below_drewN | apply below_drew1 | refine below_set ?_ GE872.out | refine below_set ?_ GE887.out | refine below_set ?_ GE894.out) | exact HB.out)))); have n8_ := Aside0.mk (blk_below (g := gb872) (o := .cells #[.slice A0_0 l0_0.length c0_0, .slice A0_1 l0_1.length c0_1] 24 (0, 0)) (by (with_reducible repeat (first | refine blk_drewN ?_ _ | refine blk_drew ?_ | refine blk_alloc ?_ _)); refine blk_far ?_ NB872_894.out _; (with_reducible repeat (first | refine blk_drewN ?_ _ | refine blk_drew ?_ | refine blk_alloc ?_ _)); refine blk_far ?_ NB872_894.out _; (with_reducible repeat (first | refine blk_drewN ?_ _ | refine blk_drew ?_ | refine blk_alloc ?_ _)); exact BK872.out) hb); have n9_ := Aside0.mk (blk_below (g := gb887) (o := .cells #[.slice Ao21 t880.length co21, .slice Ao24 t883.length co24] 27 (0, 0)) (by (with_reducible repeat (first | refine blk_drewN ?_ _ | refine blk_drew ?_ | refine blk_alloc ?_ _)); refine blk_far ?_ NB887_894.out _; (with_reducible repeat (first | refine blk_drewN ?_ _ | refine blk_drew ?_ | refine blk_alloc ?_ _)); refine blk_far ?_ NB887_894.out _; (with_reducible repeat (first | refine blk_drewN ?_ _ | refine blk_drew ?_ | refine blk_alloc ?_ _)); exact BK887.out) hb); have n10_ := Aside0.mk (blk_below (g := gb894) (o := .cells #[.slice Ao28 t888.length co28, .slice Ao32 t891.length co32] 27 (0, 0)) (by (with_reducible repeat (first | refine blk_drewN ?_ _ | refine blk_drew ?_ | refine blk_alloc ?_ _)); refine blk_put (cs := #[.slice Ao28 t888.length co28, .slice none 0 0]) ?_ 1 _ rfl; (with_reducible repeat (first | refine blk_drewN ?_ _ | refine blk_drew ?_ | refine blk_alloc ?_ _)); refine blk_put (cs := #[.slice none 0 0, .slice none 0 0]) ?_ 0 _ rfl; (with_reducible repeat (first | refine blk_drewN ?_ _ | refine blk_drew ?_ | refine blk_alloc ?_ _)); exact BK894.out) hb); have n11_ := Aside0.mk (below_step (by repeat (first | (with_reducible first | exact HB.out | apply below_alloc | apply pw_below_drewN | apply below_drew1 | refine below_set ?_ GE872.out | refine below_set ?_ GE887.out | refine below_set ?_ GE894.out) | exact HB.out)) hb); clear HO876; clear HO879; clear HO882; clear HO885; clear HO890; clear HO893; clear BK872; clear BK887; clear BK894; clear HB; have HO876 := n0_; have HO879 := n1_; have HO882 := n2_; have HO885 := n3_; have HO890 := n4_; have HO893 := n5_; have HO897 := n6_; have HO900 := n7_; have BK872 := n8_; have BK887 := n9_; have BK894 := n10_; have HB := n11_; clear n0_ n1_ n2_ n3_ n4_ n5_ n6_ n7_ n8_ n9_ n10_ n11_; (try clear hb); (try clear hb2); (try clear hk); (try clear hi); (try clear ho0); (try clear ho1)) | ((with_reducible refine gate_dst (N := 7) rfl ?_); refine box_event ?hg (N := 7) ?hd (cs := #[.slice none 0 0, .slice none 0 0]) (t := 27) ?hr ?_; (case hd => rfl); (case hg => rfl); (case hr => first | (go_simp; done) | (go_simp; rfl)); intro gb902 hg w34 hbox hb; have n0_ := Aside0.mk (Kd.R_below (by (with_reducible repeat (first | apply Kd.R_alloc | apply Kd.R_drewN | apply Kd.R_drew)); exact HO876.out) hb); have n1_ := Aside0.mk (Kd.R_below (by (with_reducible repeat (first | apply Kd.R_alloc | apply Kd.R_drewN | apply Kd.R_drew)); exact HO879.out) hb); have n2_ := Aside0.mk (Kd.R_below (by (with_reducible repeat (first | apply Kd.R_alloc | apply Kd.R_drewN | apply Kd.R_drew)); exact HO882.out) hb); have n3_ := Aside0.mk (Kd.R_below (by (with_reducible repeat (first | apply Kd.R_alloc | apply Kd.R_drewN | apply Kd.R_drew)); exact HO885.out) hb); have n4_ := Aside0.mk (Kd.R_below (by (with_reducible repeat (first | apply Kd.R_alloc | apply Kd.R_drewN | apply Kd.R_drew)); exact HO890.out) hb); have n5_ := Aside0.mk (Kd.R_below (by (with_reducible repeat (first | apply Kd.R_alloc | apply Kd.R_drewN | apply Kd.R_drew)); exact HO893.out) hb); have n6_ := Aside0.mk (Kd.R_below (by (with_reducible repeat (first | apply Kd.R_alloc | apply Kd.R_drewN | apply Kd.R_drew)); exact HO897.out) hb); have n7_ := Aside0.mk (Kd.R_below (by (with_reducible repeat (first | apply Kd.R_alloc | apply Kd.R_drewN | apply Kd.R_drew)); exact HO900.out) hb); have n8_ := Aside0.mk (blk_below (g := gb872) (o := .cells #[.slice A0_0 l0_0.length c0_0, .slice A0_1 l0_1.length c0_1] 24 (0, 0)) (by (with_reducible repeat (first | refine blk_drewN ?_ _ | refine blk_drew ?_ | refine blk_alloc ?_ _)); exact BK872.out) hb); have n9_ := Aside0.mk (blk_below (g := gb887) (o := .cells #[.slice Ao21 t880.length co21, .slice Ao24 t883.length co24] 27 (0, 0)) (by (with_reducible repeat (first | refine blk_drewN ?_ _ | refine blk_drew ?_ | refine blk_alloc ?_ _)); exact BK887.out) hb); have n10_ := Aside0.mk (blk_below (g := gb894) (o := .cells #[.slice Ao28 t888.length co28, .slice Ao32 t891.length co32] 27 (0, 0)) (by (with_reducible repeat (first | refine blk_drewN ?_ _ | refine blk_drew ?_ | refine blk_alloc ?_ _)); exact BK894.out) hb); have n11_ := Aside0.mk (below_step (by repeat (first | (with_reducible first | exact HB.out | apply below_alloc | apply pw_below_drewN | apply below_drew1 | refine below_set ?_ GE872.out | refine below_set ?_ GE887.out | refine below_set ?_ GE894.out) | exact HB.out)) hb); have n12_ := Aside0.mk (hbox); have n13_ := Aside0.mk ((by rw [hg]; exact (below_size (by repeat (first | (with_reducible first | exact HB.out | apply below_alloc | apply pw_below_drewN | apply below_drew1 | refine below_set ?_ GE872.out | refine below_set ?_ GE887.out | refine below_set ?_ GE894.out) | exact HB.out))) : w.heap.size ≤ gb902)); have n14_ := Aside0.mk ((by rw [hg]; exact (below_size (by repeat (first | (with_reducible first | exact HB.out | apply below_alloc | apply pw_below_drewN | apply below_drew1 | refine below_set ?_ GE872.out | refine below_set ?_ GE887.out | refine below_set ?_ GE894.out) | exact HB.out))) : w.heap.size ≤ gb902)); have n15_ := Aside0.mk ((by rw [hg]; exact Nat.ne_of_lt (blk_lt (g := gb872) (o := .cells #[.slice A0_0 l0_0.length c0_0, .slice A0_1 l0_1.length c0_1] 24 (0, 0)) (by (with_reducible repeat (first | refine blk_drewN ?_ _ | refine blk_drew ?_ | refine blk_alloc ?_ _)); exact BK872.out)) : gb872 ≠ gb902)); have n16_ := Aside0.mk ((by rw [hg]; exact Nat.ne_of_gt (blk_lt (g := gb872) (o := .cells #[.slice A0_0 l0_0.length c0_0, .slice A0_1 l0_1.length c0_1] 24 (0, 0)) (by (with_reducible repeat (first | refine blk_drewN ?_ _ | refine blk_drew ?_ | refine blk_alloc ?_ _)); exact BK872.out)) : gb902 ≠ gb872)); have n17_ := Aside0.mk ((by rw [hg]; exact Nat.ne_of_lt (blk_lt (g := gb887) (o := .cells #[.slice Ao21 t880.length co21, .slice Ao24 t883.length co24] 27 (0, 0)) (by (with_reducible repeat (first | refine blk_drewN ?_ _ | refine blk_drew ?_ | refine blk_alloc ?_ _)); exact BK887.out)) : gb887 ≠ gb902)); have n18_ := Aside0.mk ((by rw [hg]; exact Nat.ne_of_gt (blk_lt (g := gb887) (o := .cells #[.slice Ao21 t880.length co21, .slice Ao24 t883.length co24] 27 (0, 0)) (by (with_reducible repeat (first | refine blk_drewN ?_ _ | refine blk_drew ?_ | refine blk_alloc ?_ _)); exact BK887.out)) : gb902 ≠ gb887)); have n19_ := Aside0.mk ((by rw [hg]; exact Nat.ne_of_lt (blk_lt (g := gb894) (o := .cells #[.slice Ao28 t888.length co28, .slice Ao32 t891.length co32] 27 (0, 0)) (by (with_reducible repeat (first | refine blk_drewN ?_ _ | refine blk_drew ?_ | refine blk_alloc ?_ _)); exact BK894.out)) : gb894 ≠ gb902)); have n20_ := Aside0.mk ((by rw [hg]; exact Nat.ne_of_gt (blk_lt (g := gb894) (o := .cells #[.slice Ao28 t888.length co28, .slice Ao32 t891.length co32] 27 (0, 0)) (by (with_reducible repeat (first | refine blk_drewN ?_ _ | refine blk_drew ?_ | refine blk_alloc ?_ _)); exact BK894.out)) : gb902 ≠ gb894)); clear HO876; clear HO879; clear HO882; clear HO885; clear HO890; clear HO893; clear HO897; clear HO900; clear BK872; clear BK887; clear BK894; clear HB; have HO876 := n0_; have HO879 := n1_; have HO882 := n2_; have HO885 := n3_; have HO890 := n4_; have HO893 := n5_; have HO897 := n6_; have HO900 := n7_; have BK872 := n8_; have BK887 := n9_; have BK894 := n10_; have HB := n11_; have BK902 := n12_; have GW902 := n13_; have GE902 := n14_; have NB872_902 := n15_; have NB902_872 := n16_; have NB887_902 := n17_; have NB902_887 := n18_; have NB894_902 := n19_; have NB902_894 := n20_; clear n0_ n1_ n2_ n3_ n4_ n5_ n6_ n7_ n8_ n9_ n10_ n11_ n12_ n13_ n14_ n15_ n16_ n17_ n18_ n19_ n20_; clear hb hbox hg; obtain ⟨Ao35, co35, eo35⟩ := Kd.R_slice HO897.out; subst eo35; have hnb36 := NB902_872.out; have hnc36 := NB872_902.out; have hnb37 := NB902_887.out; have hnc37 := NB887_902.out; have hnb38 := NB902_894.out; have hnc38 := NB894_902.out; have hcz39_0 : w34.cell? ⟨gb902, 0, none⟩ = some (.slice none 0 0) := (blk_cell BK902.out 0).trans rfl; have hcz39_1 : w34.cell? ⟨gb902, 1, none⟩ = some (.slice none 0 0) := (blk_cell BK902.out 1).trans rfl; have hfz39_0 := blk_frozen BK902.out 0; have hfz39_1 := blk_frozen BK902.out 1; obtain ⟨Ao40, co40, eo40⟩ := Kd.R_slice HO900.out; subst eo40))
  (try simp only [Act.put, List.setIfInBounds_toArray, List.set_cons_zero, List.set_cons_succ])
  go_cut [40] (fun v40 wc => ∃ (kq : Nat) (x40_10 : Bool), v40 = .bool x40_10 ∧ Aside0 (laws_FnExactCanonOf.j0 kq t886 t901 x40_10 l0_0 l0_1 t880 t883 t888 t891 t895 t898 = some true) ∧ Aside0 (kq ≤ k) ∧ Aside0 (Kd.R (Kd.int .i64) 3 wc w.heap.size (fun k_ => some k_ ≠ ((.slice Ao24 t883.length co24) : Value).ownBlock ∧ some k_ ≠ ((.slice Ao28 t888.length co28) : Value).ownBlock ∧ some k_ ≠ ((.slice Ao32 t891.length co32) : Value).ownBlock ∧ some k_ ≠ ((.slice Ao35 t895.length co35) : Value).ownBlock ∧ some k_ ≠ ((.slice Ao40 t898.length co40) : Value).ownBlock) (.slice Ao21 t880.length co21) t880) ∧ Aside0 (Kd.R (Kd.int .i64) 3 wc w.heap.size (fun k_ => some k_ ≠ ((.slice Ao21 t880.length co21) : Value).ownBlock ∧ some k_ ≠ ((.slice Ao28 t888.length co28) : Value).ownBlock ∧ some k_ ≠ ((.slice Ao32 t891.length co32) : Value).ownBlock ∧ some k_ ≠ ((.slice Ao35 t895.length co35) : Value).ownBlock ∧ some k_ ≠ ((.slice Ao40 t898.length co40) : Value).ownBlock) (.slice Ao24 t883.length co24) t883) ∧ Aside0 (Kd.R (Kd.int .i64) 3 wc w.heap.size (fun k_ => some k_ ≠ ((.slice Ao21 t880.length co21) : Value).ownBlock ∧ some k_ ≠ ((.slice Ao24 t883.length co24) : Value).ownBlock ∧ some k_ ≠ ((.slice Ao32 t891.length co32) : Value).ownBlock ∧ some k_ ≠ ((.slice Ao35 t895.length co35) : Value).ownBlock ∧ some k_ ≠ ((.slice Ao40 t898.length co40) : Value).ownBlock) (.slice Ao28 t888.length co28) t888) ∧ Aside0 (Kd.R (Kd.int .i64) 3 wc w.heap.size (fun k_ => some k_ ≠ ((.slice Ao21 t880.length co21) : Value).ownBlock ∧ some k_ ≠ ((.slice Ao24 t883.length co24) : Value).ownBlock ∧ some k_ ≠ ((.slice Ao28 t888.length co28) : Value).ownBlock ∧ some k_ ≠ ((.slice Ao35 t895.length co35) : Value).ownBlock ∧ some k_ ≠ ((.slice Ao40 t898.length co40) : Value).ownBlock) (.slice Ao32 t891.length co32) t891) ∧ Aside0 (Kd.R (Kd.int .i64) 3 wc w.heap.size (fun k_ => some k_ ≠ ((.slice Ao21 t880.length co21) : Value).ownBlock ∧ some k_ ≠ ((.slice Ao24 t883.length co24) : Value).ownBlock ∧ some k_ ≠ ((.slice Ao28 t888.length co28) : Value).ownBlock ∧ some k_ ≠ ((.slice Ao32 t891.length co32) : Value).ownBlock ∧ some k_ ≠ ((.slice Ao40 t898.length co40) : Value).ownBlock) (.slice Ao35 t895.length co35) t895) ∧ Aside0 (Kd.R (Kd.int .i64) 3 wc w.heap.size (fun k_ => some k_ ≠ ((.slice Ao21 t880.length co21) : Value).ownBlock ∧ some k_ ≠ ((.slice Ao24 t883.length co24) : Value).ownBlock ∧ some k_ ≠ ((.slice Ao28 t888.length co28) : Value).ownBlock ∧ some k_ ≠ ((.slice Ao32 t891.length co32) : Value).ownBlock ∧ some k_ ≠ ((.slice Ao35 t895.length co35) : Value).ownBlock) (.slice Ao40 t898.length co40) t898) ∧ Aside0 (wc.heap[gb872]? = some (.cells #[(.slice A0_0 l0_0.length c0_0), (.slice A0_1 l0_1.length c0_1)] 24 (0, 0))) ∧ Aside0 (wc.heap[gb887]? = some (.cells #[(.slice Ao21 t880.length co21), (.slice Ao24 t883.length co24)] 27 (0, 0))) ∧ Aside0 (wc.heap[gb894]? = some (.cells #[(.slice Ao28 t888.length co28), (.slice Ao32 t891.length co32)] 27 (0, 0))) ∧ Aside0 (wc.heap[gb902]? = some (.cells #[(.slice Ao35 t895.length co35), (.slice Ao40 t898.length co40)] 27 (0, 0))) ∧ Aside0 (Below w.heap.size w wc))
  case first =>
   have H := HC11.out
   clear HC11
   replace H := Option.bind_eq_some_iff.mp H
   obtain ⟨t903, A410, H⟩ := H
   replace H : (if t903 = true then (laws_FnExactCanonOf.j0 k t886 t901 (t901 != t886) l0_0 l0_1 t880 t883 t888 t891 t895 t898) else (laws_FnExactCanonOf.j0 k t886 t901 true l0_0 l0_1 t880 t883 t888 t891 t895 t898)) = some true := H
   have A41 := Aside0.mk A410
   clear A410
   by_cases c42 : t903 = true
   ·subst c42
    have H1 : (laws_FnExactCanonOf.j0 k t886 t901 (t901 != t886) l0_0 l0_1 t880 t883 t888 t891 t895 t898) = some true := by rw [if_pos rfl] at H; exact H
    clear H
    have H := H1
    clear H1
    have H' := Aside0.mk H
    clear H
    have hnb43 := NB902_872.out
    have hnc43 := NB872_902.out
    have hnb44 := NB902_887.out
    have hnc44 := NB887_902.out
    have hnb45 := NB902_894.out
    have hnc45 := NB894_902.out
    have hcz46_0 : w34.cell? ⟨gb902, 0, none⟩ = some (.slice none 0 0) := (blk_cell BK902.out 0).trans rfl
    have hcz46_1 : w34.cell? ⟨gb902, 1, none⟩ = some (.slice none 0 0) := (blk_cell BK902.out 1).trans rfl
    have hfz46_0 := blk_frozen BK902.out 0
    have hfz46_1 := blk_frozen BK902.out 1
    have hnb47 := NB887_872.out
    have hnc47 := NB872_887.out
    have hnb48 := NB887_894.out
    have hnc48 := NB894_887.out
    have hcz49_0 : w34.cell? ⟨gb887, 0, none⟩ = some (.slice Ao21 t880.length co21) := (blk_cell BK887.out 0).trans rfl
    have hcz49_1 : w34.cell? ⟨gb887, 1, none⟩ = some (.slice Ao24 t883.length co24) := (blk_cell BK887.out 1).trans rfl
    have hfz49_0 := blk_frozen BK887.out 0
    have hfz49_1 := blk_frozen BK887.out 1
    go_wp2_with (first | ((with_reducible refine gate_callee (f := 16) rfl ?_); refine goesL_ (some 34) rfl rfl Try.func16 (by kernel_rfl) rfl #[.agg #[.slice Ao35 t895.length co35, .slice Ao40 t898.length co40], .agg #[.slice Ao21 t880.length co21, .slice Ao24 t883.length co24]] rfl (by (try simp only [List.map_toArray, List.map_cons, List.map_nil]); first | done | rfl | (simp only [List.length_drop, List.length_take]; rfl)) ?_; (with_reducible refine (laws_eqSurface.calls k _ _ t895 _ _ t898 _ _ t880 _ _ t883 true _ ?side1 ?side2 ?side3 ?side4 ?side5 ?side6 ?side7 ?side8 A41.out).mono ?_); (case side1 => refine (Kd.R_reads' (e := 3) (base := w.heap.size) (ok := fun k_ => ((((((some k_ ≠ (.slice Ao40 t898.length co40 : Value).ownBlock ∧ some k_ ≠ (.slice Ao17 t874.length co17 : Value).ownBlock) ∧ some k_ ≠ (.slice Ao18 t877.length co18 : Value).ownBlock) ∧ some k_ ≠ (.slice Ao21 t880.length co21 : Value).ownBlock) ∧ some k_ ≠ (.slice Ao24 t883.length co24 : Value).ownBlock) ∧ some k_ ≠ (.slice Ao28 t888.length co28 : Value).ownBlock) ∧ some k_ ≠ (.slice Ao32 t891.length co32 : Value).ownBlock)) (n := t895.length) (c := co35) ?_).2.2; exact (by (with_reducible repeat (first | apply Kd.R_alloc | apply Kd.R_drewN | apply Kd.R_drew)); exact (Kd.R_mono (Kd.R_far (p := ⟨gb902, 1, none⟩) (Kd.R_far (p := ⟨gb902, 0, none⟩) (Kd.R_types HO897.out BK902.out (by decide)) (fun _ hk => hk.2) (.slice Ao35 t895.length co35)) (fun _ hk => hk.2) (.slice Ao40 t898.length co40)) (fun _ h_ => h_.1)))); (case side2 => exact (Kd.R_reads' HO897.out).2.1); (case side3 => refine (Kd.R_reads' (e := 3) (base := w.heap.size) (ok := fun k_ => ((((((some k_ ≠ (.slice Ao35 t895.length co35 : Value).ownBlock ∧ some k_ ≠ (.slice Ao17 t874.length co17 : Value).ownBlock) ∧ some k_ ≠ (.slice Ao18 t877.length co18 : Value).ownBlock) ∧ some k_ ≠ (.slice Ao21 t880.length co21 : Value).ownBlock) ∧ some k_ ≠ (.slice Ao24 t883.length co24 : Value).ownBlock) ∧ some k_ ≠ (.slice Ao28 t888.length co28 : Value).ownBlock) ∧ some k_ ≠ (.slice Ao32 t891.length co32 : Value).ownBlock)) (n := t898.length) (c := co40) ?_).2.2; exact (by (with_reducible repeat (first | apply Kd.R_alloc | apply Kd.R_drewN | apply Kd.R_drew)); exact (Kd.R_mono (Kd.R_far (p := ⟨gb902, 1, none⟩) (Kd.R_far (p := ⟨gb902, 0, none⟩) (Kd.R_types HO900.out BK902.out (by decide)) (fun _ hk => hk.2) (.slice Ao35 t895.length co35)) (fun _ hk => hk.2) (.slice Ao40 t898.length co40)) (fun _ h_ => h_.1)))); (case side4 => exact (Kd.R_reads' HO900.out).2.1); (case side5 => refine (Kd.R_reads' (e := 3) (base := w.heap.size) (ok := fun k_ => ((((((some k_ ≠ (.slice Ao24 t883.length co24 : Value).ownBlock ∧ some k_ ≠ (.slice Ao17 t874.length co17 : Value).ownBlock) ∧ some k_ ≠ (.slice Ao18 t877.length co18 : Value).ownBlock) ∧ some k_ ≠ (.slice Ao28 t888.length co28 : Value).ownBlock) ∧ some k_ ≠ (.slice Ao32 t891.length co32 : Value).ownBlock) ∧ some k_ ≠ (.slice Ao35 t895.length co35 : Value).ownBlock) ∧ some k_ ≠ (.slice Ao40 t898.length co40 : Value).ownBlock)) (n := t880.length) (c := co21) ?_).2.2; exact (by (with_reducible repeat (first | apply Kd.R_alloc | apply Kd.R_drewN | apply Kd.R_drew)); exact (Kd.R_mono (Kd.R_far (p := ⟨gb902, 1, none⟩) (Kd.R_far (p := ⟨gb902, 0, none⟩) (Kd.R_types HO882.out BK902.out (by decide)) (fun _ hk => hk.2) (.slice Ao35 t895.length co35)) (fun _ hk => hk.2) (.slice Ao40 t898.length co40)) (fun _ h_ => h_.1)))); (case side6 => exact (Kd.R_reads' HO882.out).2.1); (case side7 => refine (Kd.R_reads' (e := 3) (base := w.heap.size) (ok := fun k_ => ((((((some k_ ≠ (.slice Ao21 t880.length co21 : Value).ownBlock ∧ some k_ ≠ (.slice Ao17 t874.length co17 : Value).ownBlock) ∧ some k_ ≠ (.slice Ao18 t877.length co18 : Value).ownBlock) ∧ some k_ ≠ (.slice Ao28 t888.length co28 : Value).ownBlock) ∧ some k_ ≠ (.slice Ao32 t891.length co32 : Value).ownBlock) ∧ some k_ ≠ (.slice Ao35 t895.length co35 : Value).ownBlock) ∧ some k_ ≠ (.slice Ao40 t898.length co40 : Value).ownBlock)) (n := t883.length) (c := co24) ?_).2.2; exact (by (with_reducible repeat (first | apply Kd.R_alloc | apply Kd.R_drewN | apply Kd.R_drew)); exact (Kd.R_mono (Kd.R_far (p := ⟨gb902, 1, none⟩) (Kd.R_far (p := ⟨gb902, 0, none⟩) (Kd.R_types HO885.out BK902.out (by decide)) (fun _ hk => hk.2) (.slice Ao35 t895.length co35)) (fun _ hk => hk.2) (.slice Ao40 t898.length co40)) (fun _ h_ => h_.1)))); (case side8 => exact (Kd.R_reads' HO885.out).2.1); rintro e w50 ⟨rfl, hb⟩; refine ⟨_, rfl, ?_⟩; have n0_ := Aside0.mk (Kd.R_below (by (with_reducible repeat (first | apply Kd.R_alloc | apply Kd.R_drewN | apply Kd.R_drew)); exact (Kd.R_mono (Kd.R_far (p := ⟨gb902, 1, none⟩) (Kd.R_far (p := ⟨gb902, 0, none⟩) (Kd.R_types HO876.out BK902.out (by decide)) (fun _ hk => hk.2) (.slice Ao35 t895.length co35)) (fun _ hk => hk.2) (.slice Ao40 t898.length co40)) (fun _ h_ => h_.1))) hb); have n1_ := Aside0.mk (Kd.R_below (by (with_reducible repeat (first | apply Kd.R_alloc | apply Kd.R_drewN | apply Kd.R_drew)); exact (Kd.R_mono (Kd.R_far (p := ⟨gb902, 1, none⟩) (Kd.R_far (p := ⟨gb902, 0, none⟩) (Kd.R_types HO879.out BK902.out (by decide)) (fun _ hk => hk.2) (.slice Ao35 t895.length co35)) (fun _ hk => hk.2) (.slice Ao40 t898.length co40)) (fun _ h_ => h_.1))) hb); have n2_ := Aside0.mk (Kd.R_below (by (with_reducible repeat (first | apply Kd.R_alloc | apply Kd.R_drewN | apply Kd.R_drew)); exact (Kd.R_mono (Kd.R_far (p := ⟨gb902, 1, none⟩) (Kd.R_far (p := ⟨gb902, 0, none⟩) (Kd.R_types HO882.out BK902.out (by decide)) (fun _ hk => hk.2) (.slice Ao35 t895.length co35)) (fun _ hk => hk.2) (.slice Ao40 t898.length co40)) (fun _ h_ => h_.1))) hb); have n3_ := Aside0.mk (Kd.R_below (by (with_reducible repeat (first | apply Kd.R_alloc | apply Kd.R_drewN | apply Kd.R_drew)); exact (Kd.R_mono (Kd.R_far (p := ⟨gb902, 1, none⟩) (Kd.R_far (p := ⟨gb902, 0, none⟩) (Kd.R_types HO885.out BK902.out (by decide)) (fun _ hk => hk.2) (.slice Ao35 t895.length co35)) (fun _ hk => hk.2) (.slice Ao40 t898.length co40)) (fun _ h_ => h_.1))) hb); have n4_ := Aside0.mk (Kd.R_below (by (with_reducible repeat (first | apply Kd.R_alloc | apply Kd.R_drewN | apply Kd.R_drew)); exact (Kd.R_mono (Kd.R_far (p := ⟨gb902, 1, none⟩) (Kd.R_far (p := ⟨gb902, 0, none⟩) (Kd.R_types HO890.out BK902.out (by decide)) (fun _ hk => hk.2) (.slice Ao35 t895.length co35)) (fun _ hk => hk.2) (.slice Ao40 t898.length co40)) (fun _ h_ => h_.1))) hb); have n5_ := Aside0.mk (Kd.R_below (by (with_reducible repeat (first | apply Kd.R_alloc | apply Kd.R_drewN | apply Kd.R_drew)); exact (Kd.R_mono (Kd.R_far (p := ⟨gb902, 1, none⟩) (Kd.R_far (p := ⟨gb902, 0, none⟩) (Kd.R_types HO893.out BK902.out (by decide)) (fun _ hk => hk.2) (.slice Ao35 t895.length co35)) (fun _ hk => hk.2) (.slice Ao40 t898.length co40)) (fun _ h_ => h_.1))) hb); have n6_ := Aside0.mk (Kd.R_below (by (with_reducible repeat (first | apply Kd.R_alloc | apply Kd.R_drewN | apply Kd.R_drew)); exact (Kd.R_mono (Kd.R_far (p := ⟨gb902, 1, none⟩) (Kd.R_far (p := ⟨gb902, 0, none⟩) (Kd.R_types HO897.out BK902.out (by decide)) (fun _ hk => hk.2) (.slice Ao35 t895.length co35)) (fun _ hk => hk.2) (.slice Ao40 t898.length co40)) (fun _ h_ => h_.1))) hb); have n7_ := Aside0.mk (Kd.R_below (by (with_reducible repeat (first | apply Kd.R_alloc | apply Kd.R_drewN | apply Kd.R_drew)); exact (Kd.R_mono (Kd.R_far (p := ⟨gb902, 1, none⟩) (Kd.R_far (p := ⟨gb902, 0, none⟩) (Kd.R_types HO900.out BK902.out (by decide)) (fun _ hk => hk.2) (.slice Ao35 t895.length co35)) (fun _ hk => hk.2) (.slice Ao40 t898.length co40)) (fun _ h_ => h_.1))) hb); have n8_ := Aside0.mk (blk_below (g := gb872) (o := .cells #[.slice A0_0 l0_0.length c0_0, .slice A0_1 l0_1.length c0_1] 24 (0, 0)) (by (with_reducible repeat (first | refine blk_drewN ?_ _ | refine blk_drew ?_ | refine blk_alloc ?_ _)); refine blk_far ?_ NB872_902.out _; (with_reducible repeat (first | refine blk_drewN ?_ _ | refine blk_drew ?_ | refine blk_alloc ?_ _)); refine blk_far ?_ NB872_902.out _; (with_reducible repeat (first | refine blk_drewN ?_ _ | refine blk_drew ?_ | refine blk_alloc ?_ _)); exact BK872.out) hb); have n9_ := Aside0.mk (blk_below (g := gb887) (o := .cells #[.slice Ao21 t880.length co21, .slice Ao24 t883.length co24] 27 (0, 0)) (by (with_reducible repeat (first | refine blk_drewN ?_ _ | refine blk_drew ?_ | refine blk_alloc ?_ _)); refine blk_far ?_ NB887_902.out _; (with_reducible repeat (first | refine blk_drewN ?_ _ | refine blk_drew ?_ | refine blk_alloc ?_ _)); refine blk_far ?_ NB887_902.out _; (with_reducible repeat (first | refine blk_drewN ?_ _ | refine blk_drew ?_ | refine blk_alloc ?_ _)); exact BK887.out) hb); have n10_ := Aside0.mk (blk_below (g := gb894) (o := .cells #[.slice Ao28 t888.length co28, .slice Ao32 t891.length co32] 27 (0, 0)) (by (with_reducible repeat (first | refine blk_drewN ?_ _ | refine blk_drew ?_ | refine blk_alloc ?_ _)); refine blk_far ?_ NB894_902.out _; (with_reducible repeat (first | refine blk_drewN ?_ _ | refine blk_drew ?_ | refine blk_alloc ?_ _)); refine blk_far ?_ NB894_902.out _; (with_reducible repeat (first | refine blk_drewN ?_ _ | refine blk_drew ?_ | refine blk_alloc ?_ _)); exact BK894.out) hb); have n11_ := Aside0.mk (blk_below (g := gb902) (o := .cells #[.slice Ao35 t895.length co35, .slice Ao40 t898.length co40] 27 (0, 0)) (by (with_reducible repeat (first | refine blk_drewN ?_ _ | refine blk_drew ?_ | refine blk_alloc ?_ _)); refine blk_put (cs := #[.slice Ao35 t895.length co35, .slice none 0 0]) ?_ 1 _ rfl; (with_reducible repeat (first | refine blk_drewN ?_ _ | refine blk_drew ?_ | refine blk_alloc ?_ _)); refine blk_put (cs := #[.slice none 0 0, .slice none 0 0]) ?_ 0 _ rfl; (with_reducible repeat (first | refine blk_drewN ?_ _ | refine blk_drew ?_ | refine blk_alloc ?_ _)); exact BK902.out) hb); have n12_ := Aside0.mk (below_step (by repeat (first | (with_reducible first | exact HB.out | apply below_alloc | apply pw_below_drewN | apply below_drew1 | refine below_set ?_ GE872.out | refine below_set ?_ GE887.out | refine below_set ?_ GE894.out | refine below_set ?_ GE902.out) | exact HB.out)) hb); clear HO876; clear HO879; clear HO882; clear HO885; clear HO890; clear HO893; clear HO897; clear HO900; clear BK872; clear BK887; clear BK894; clear BK902; clear HB; have HO876 := n0_; have HO879 := n1_; have HO882 := n2_; have HO885 := n3_; have HO890 := n4_; have HO893 := n5_; have HO897 := n6_; have HO900 := n7_; have BK872 := n8_; have BK887 := n9_; have BK894 := n10_; have BK902 := n11_; have HB := n12_; clear n0_ n1_ n2_ n3_ n4_ n5_ n6_ n7_ n8_ n9_ n10_ n11_ n12_; (try clear hb); (try clear hb2); (try clear hk); (try clear hi)))
    go_meet
    case rel => exact ⟨_, ((t901 != t886)), (by first | rfl | (simp; done) | (simp [*]; done)), H', ⟨by first | omega | exact Nat.le_refl _⟩, ⟨by (with_reducible repeat (first | apply Kd.R_alloc | apply Kd.R_drewN | apply Kd.R_drew)); exact Kd.R_mono HO882.out (fun _ hk => ⟨hk.1.1.1.1.1.1, ⟨hk.1.1.1.2, ⟨hk.1.1.2, ⟨hk.1.2, hk.2⟩⟩⟩⟩)⟩, ⟨by (with_reducible repeat (first | apply Kd.R_alloc | apply Kd.R_drewN | apply Kd.R_drew)); exact Kd.R_mono HO885.out (fun _ hk => ⟨hk.1.1.1.1.1.1, ⟨hk.1.1.1.2, ⟨hk.1.1.2, ⟨hk.1.2, hk.2⟩⟩⟩⟩)⟩, ⟨by (with_reducible repeat (first | apply Kd.R_alloc | apply Kd.R_drewN | apply Kd.R_drew)); exact Kd.R_mono HO890.out (fun _ hk => ⟨hk.1.1.1.2, ⟨hk.1.1.2, ⟨hk.1.1.1.1.1.1, ⟨hk.1.2, hk.2⟩⟩⟩⟩)⟩, ⟨by (with_reducible repeat (first | apply Kd.R_alloc | apply Kd.R_drewN | apply Kd.R_drew)); exact Kd.R_mono HO893.out (fun _ hk => ⟨hk.1.1.1.2, ⟨hk.1.1.2, ⟨hk.1.1.1.1.1.1, ⟨hk.1.2, hk.2⟩⟩⟩⟩)⟩, ⟨by (with_reducible repeat (first | apply Kd.R_alloc | apply Kd.R_drewN | apply Kd.R_drew)); exact Kd.R_mono HO897.out (fun _ hk => ⟨hk.1.1.1.2, ⟨hk.1.1.2, ⟨hk.1.2, ⟨hk.2, hk.1.1.1.1.1.1⟩⟩⟩⟩)⟩, ⟨by (with_reducible repeat (first | apply Kd.R_alloc | apply Kd.R_drewN | apply Kd.R_drew)); exact Kd.R_mono HO900.out (fun _ hk => ⟨hk.1.1.1.2, ⟨hk.1.1.2, ⟨hk.1.2, ⟨hk.2, hk.1.1.1.1.1.1⟩⟩⟩⟩)⟩, ⟨by (with_reducible repeat (first | refine blk_drewN ?_ _ | refine blk_drew ?_ | refine blk_alloc ?_ _)); exact BK872.out⟩, ⟨by (with_reducible repeat (first | refine blk_drewN ?_ _ | refine blk_drew ?_ | refine blk_alloc ?_ _)); exact BK887.out⟩, ⟨by (with_reducible repeat (first | refine blk_drewN ?_ _ | refine blk_drew ?_ | refine blk_alloc ?_ _)); exact BK894.out⟩, ⟨by (with_reducible repeat (first | refine blk_drewN ?_ _ | refine blk_drew ?_ | refine blk_alloc ?_ _)); exact BK902.out⟩, ⟨by repeat (first | (with_reducible first | exact HB.out | apply below_alloc | apply pw_below_drewN | apply below_drew1 | refine below_set ?_ GE872.out | refine below_set ?_ GE887.out | refine below_set ?_ GE894.out | refine below_set ?_ GE902.out) | exact HB.out)⟩⟩
   ·replace c42 := Bool.eq_false_iff.mpr c42
    subst c42
    have H1 : (laws_FnExactCanonOf.j0 k t886 t901 true l0_0 l0_1 t880 t883 t888 t891 t895 t898) = some true := by rw [if_neg (show ¬ (false = true) by decide)] at H; exact H
    clear H
    have H := H1
    clear H1
    exact absurd H (by cases k <;> simp [laws_FnExactCanonOf.j0])
  case rest =>
   clear HC11
   try clear c1
   try clear c2
   try clear p2
   try clear c3
   try clear c3b0
   try clear c4
   try clear c5
   try clear c7
   try clear c12
   try clear c14
   try clear c16
   try clear c22
   try clear c28
   try clear c29
   try clear c30
   try clear c36
   try clear c37
   try clear c38
   try clear c42
   try clear c43
   try clear c44
   try clear c45
   try clear c47
   try clear c48
   try clear c51
   try clear c52
   try clear c53
   try clear c55
   try clear c56
   try clear hcz13_0
   try clear hcz13_1
   try clear hcz15_0
   try clear hcz15_1
   try clear hcz23_0
   try clear hcz23_1
   try clear hcz25_0
   try clear hcz25_1
   try clear hcz31_0
   try clear hcz31_1
   try clear hcz39_0
   try clear hcz39_1
   try clear hcz46_0
   try clear hcz46_1
   try clear hcz49_0
   try clear hcz49_1
   try clear hcz54_0
   try clear hcz54_1
   try clear hcz57_0
   try clear hcz57_1
   try clear hcz5_0
   try clear hcz5_1
   try clear hfz13_0
   try clear hfz13_1
   try clear hfz15_0
   try clear hfz15_1
   try clear hfz23_0
   try clear hfz23_1
   try clear hfz25_0
   try clear hfz25_1
   try clear hfz31_0
   try clear hfz31_1
   try clear hfz39_0
   try clear hfz39_1
   try clear hfz46_0
   try clear hfz46_1
   try clear hfz49_0
   try clear hfz49_1
   try clear hfz54_0
   try clear hfz54_1
   try clear hfz57_0
   try clear hfz57_1
   try clear hfz5_0
   try clear hfz5_1
   obtain ⟨kq, x40_10, rfl, HA, HJ10, HO_888000, HO_888001, HO_895000, HO_895001, HO_903000, HO_903001, BK872, BK887, BK894, BK902, HB⟩ := hcut
   cases kq with
   | zero => exact absurd HA.out (by simp [laws_FnExactCanonOf.j0])
   | succ kj10 =>
    have H := HA.out
    clear HA
    simp only [laws_FnExactCanonOf.j0] at H
    by_cases c59 : x40_10 = true
    ·subst c59
     have H1 : (some false) = some true := by rw [if_pos rfl] at H; exact H
     clear H
     have H := H1
     clear H1
     exact absurd H (by simp)
    ·replace c59 := Bool.eq_false_iff.mpr c59
     subst c59
     have H1 : ((laws_toSurface.f kj10 l0_0 l0_1).bind fun bt904 => ((laws_eqSurface.f kj10 t888 t891 bt904.1 bt904.2).bind fun t910 => (if t910 = true then ((laws_markSurface.f kj10 t888 t891 1).bind fun bt911 => (if bt911.1 < 0 then (laws_FnExactCanonOf.j1 kj10 t886 true l0_0 l0_1 t880 t883 t895 t898) else ((laws_eqSurface.f kj10 t895 t898 t880 t883).bind fun t914 => (if t914 = true then (laws_FnExactCanonOf.j1 kj10 t886 (t901 != t886) l0_0 l0_1 t880 t883 t895 t898) else (laws_FnExactCanonOf.j1 kj10 t886 true l0_0 l0_1 t880 t883 t895 t898))))) else (some false)))) = some true := by rw [if_neg (show ¬ (false = true) by decide)] at H; exact H
     clear H
     have H := H1
     clear H1
     replace H := Option.bind_eq_some_iff.mp H
     obtain ⟨⟨t904, t907⟩, A600, H⟩ := H
     replace H : ((laws_eqSurface.f kj10 t888 t891 t904 t907).bind fun t910 => (if t910 = true then ((laws_markSurface.f kj10 t888 t891 1).bind fun bt911 => (if bt911.1 < 0 then (laws_FnExactCanonOf.j1 kj10 t886 true l0_0 l0_1 t880 t883 t895 t898) else ((laws_eqSurface.f kj10 t895 t898 t880 t883).bind fun t914 => (if t914 = true then (laws_FnExactCanonOf.j1 kj10 t886 (t901 != t886) l0_0 l0_1 t880 t883 t895 t898) else (laws_FnExactCanonOf.j1 kj10 t886 true l0_0 l0_1 t880 t883 t895 t898))))) else (some false))) = some true := H
     have A60 := Aside0.mk A600
     clear A600
     replace H := Option.bind_eq_some_iff.mp H
     obtain ⟨t910, A610, H⟩ := H
     replace H : (if t910 = true then ((laws_markSurface.f kj10 t888 t891 1).bind fun bt911 => (if bt911.1 < 0 then (laws_FnExactCanonOf.j1 kj10 t886 true l0_0 l0_1 t880 t883 t895 t898) else ((laws_eqSurface.f kj10 t895 t898 t880 t883).bind fun t914 => (if t914 = true then (laws_FnExactCanonOf.j1 kj10 t886 (t901 != t886) l0_0 l0_1 t880 t883 t895 t898) else (laws_FnExactCanonOf.j1 kj10 t886 true l0_0 l0_1 t880 t883 t895 t898))))) else (some false)) = some true := H
     have A61 := Aside0.mk A610
     clear A610
     by_cases c62 : t910 = true
     ·subst c62
      have H1 : ((laws_markSurface.f kj10 t888 t891 1).bind fun bt911 => (if bt911.1 < 0 then (laws_FnExactCanonOf.j1 kj10 t886 true l0_0 l0_1 t880 t883 t895 t898) else ((laws_eqSurface.f kj10 t895 t898 t880 t883).bind fun t914 => (if t914 = true then (laws_FnExactCanonOf.j1 kj10 t886 (t901 != t886) l0_0 l0_1 t880 t883 t895 t898) else (laws_FnExactCanonOf.j1 kj10 t886 true l0_0 l0_1 t880 t883 t895 t898))))) = some true := by rw [if_pos rfl] at H; exact H
      clear H
      have H := H1
      clear H1
      replace H := Option.bind_eq_some_iff.mp H
      obtain ⟨⟨t911, t912, t913⟩, A630, H⟩ := H
      replace H : (if t911 < 0 then (laws_FnExactCanonOf.j1 kj10 t886 true l0_0 l0_1 t880 t883 t895 t898) else ((laws_eqSurface.f kj10 t895 t898 t880 t883).bind fun t914 => (if t914 = true then (laws_FnExactCanonOf.j1 kj10 t886 (t901 != t886) l0_0 l0_1 t880 t883 t895 t898) else (laws_FnExactCanonOf.j1 kj10 t886 true l0_0 l0_1 t880 t883 t895 t898)))) = some true := H
      have A63 := Aside0.mk A630
      clear A630
      have HC64 := Aside0.mk H
      clear H
      try go_wp2
      have n0_ := Aside0.mk (Kd.R_drew HO_888000.out)
      have n1_ := Aside0.mk (Kd.R_drew HO_888001.out)
      have n2_ := Aside0.mk (Kd.R_drew HO_895000.out)
      have n3_ := Aside0.mk (Kd.R_drew HO_895001.out)
      have n4_ := Aside0.mk (Kd.R_drew HO_903000.out)
      have n5_ := Aside0.mk (Kd.R_drew HO_903001.out)
      have n6_ := Aside0.mk (blk_drew BK872.out)
      have n7_ := Aside0.mk (blk_drew BK887.out)
      have n8_ := Aside0.mk (blk_drew BK894.out)
      have n9_ := Aside0.mk (blk_drew BK902.out)
      have n10_ := Aside0.mk (below_drew1 HB.out)
      clear HO_888000 HO_888001 HO_895000 HO_895001 HO_903000 HO_903001 BK872 BK887 BK894 BK902 HB
      have HO_888000 := n0_
      have HO_888001 := n1_
      have HO_895000 := n2_
      have HO_895001 := n3_
      have HO_903000 := n4_
      have HO_903001 := n5_
      have BK872 := n6_
      have BK887 := n7_
      have BK894 := n8_
      have BK902 := n9_
      have HB := n10_
      clear n0_ n1_ n2_ n3_ n4_ n5_ n6_ n7_ n8_ n9_ n10_
      refine start_ (n := 5) (S := fun w' => w'.cell? ⟨gb894, 0, none⟩ = some (.slice Ao28 t888.length co28) ∧ w'.cell? ⟨gb894, 1, none⟩ = some (.slice Ao32 t891.length co32) ∧ w'.cell? ⟨gb872, 0, none⟩ = some (.slice A0_0 l0_0.length c0_0) ∧ w'.cell? ⟨gb872, 1, none⟩ = some (.slice A0_1 l0_1.length c0_1)) (ds := []) #[false, false, false, false, false] (by kernel_rfl) rfl rfl ⟨(blk_cell BK894.out 0).trans rfl, (blk_cell BK894.out 1).trans rfl, (blk_cell BK872.out 0).trans rfl, (blk_cell BK872.out 1).trans rfl⟩ (fun hHeld => ?_)
      generalize wc.drew = w65 at HO_888000 HO_888001 HO_895000 HO_895001 HO_903000 HO_903001 BK872 BK887 BK894 BK902 HB hHeld ⊢
      refine take_ (i := 0) (N := some 41) (v := ?_) (a' := ?_) #[true, false, false, false, false] rfl rfl (by kernel_rfl) (fun _ _ _ h => h) (Or.inl ⟨by rfl, ?_⟩) hHeld ?_ ?_
      rotate_left
      ·rintro w' ⟨s0, s1, s2, s3⟩
       go_simp
       with_reducible rfl
      rotate_left
      ·simp only [Act.put, List.setIfInBounds_toArray, List.set_cons_zero, List.set_cons_succ, i64_w, i32_w]
       rfl
      refine take_ (i := 1) (N := some 42) (v := ?_) (a' := ?_) #[true, true, false, false, false] rfl rfl (by kernel_rfl) (fun _ _ _ h => h) (Or.inl ⟨by rfl, ?_⟩) hHeld ?_ ?_
      rotate_left
      ·rintro w' ⟨s0, s1, s2, s3⟩
       go_simp
       with_reducible rfl
      rotate_left
      ·simp only [Act.put, List.setIfInBounds_toArray, List.set_cons_zero, List.set_cons_succ, i64_w, i32_w]
       rfl
      refine one_ (i := 2) (N := some 43) #[true, true, true, false, false] rfl rfl (by kernel_rfl) (by decide) (fun K hK => ?_)
      refine goes_ Try.func14 (by kernel_rfl) rfl #[.agg #[.slice A0_0 l0_0.length c0_0, .slice A0_1 l0_1.length c0_1]] (by rfl) rfl rfl (by (try simp only [List.map_toArray, List.map_cons, List.map_nil]); first | done | rfl | (simp only [List.length_drop, List.length_take]; rfl)) ?_
      with_reducible refine (laws_toSurface.calls kj10 _ _ l0_0 _ _ l0_1 t904 t907 _ ?side1 ?side2 ?side3 ?side4 A60.out).mono ?_
      (case side1 => repeat (first | exact (Kd.C_below HR0_0.out HB.out) | (with_reducible refine Kd.C_alloc ?_ _) | (with_reducible refine Kd.C_drewN ?_ _) | (with_reducible refine Kd.C_drew ?_)))
      (case side2 => exact HC0_0.out)
      (case side3 => repeat (first | exact (Kd.C_below HR0_1.out HB.out) | (with_reducible refine Kd.C_alloc ?_ _) | (with_reducible refine Kd.C_drewN ?_ _) | (with_reducible refine Kd.C_drew ?_)))
      (case side4 => exact HC0_1.out)
      rintro e w66 ⟨v905, v908, rfl, ho0, ho1, hb⟩
      refine ⟨_, rfl, ?_⟩
      have n0_ := Aside0.mk (Kd.R_mono (Kd.R_told (Kd.R_told (Kd.R_old (by (with_reducible repeat (first | apply Kd.R_alloc | apply Kd.R_drewN | apply Kd.R_drew)); exact HO_888000.out) hb) (Kd.R_base ho0)) (Kd.R_base ho1)) (fun _ h_ => h_.1))
      have n1_ := Aside0.mk (Kd.R_mono (Kd.R_told (Kd.R_told (Kd.R_old (by (with_reducible repeat (first | apply Kd.R_alloc | apply Kd.R_drewN | apply Kd.R_drew)); exact HO_888001.out) hb) (Kd.R_base ho0)) (Kd.R_base ho1)) (fun _ h_ => h_.1))
      have n2_ := Aside0.mk (Kd.R_mono (Kd.R_told (Kd.R_told (Kd.R_old (by (with_reducible repeat (first | apply Kd.R_alloc | apply Kd.R_drewN | apply Kd.R_drew)); exact HO_895000.out) hb) (Kd.R_base ho0)) (Kd.R_base ho1)) (fun _ h_ => h_.1))
      have n3_ := Aside0.mk (Kd.R_mono (Kd.R_told (Kd.R_told (Kd.R_old (by (with_reducible repeat (first | apply Kd.R_alloc | apply Kd.R_drewN | apply Kd.R_drew)); exact HO_895001.out) hb) (Kd.R_base ho0)) (Kd.R_base ho1)) (fun _ h_ => h_.1))
      have n4_ := Aside0.mk (Kd.R_mono (Kd.R_told (Kd.R_told (Kd.R_old (by (with_reducible repeat (first | apply Kd.R_alloc | apply Kd.R_drewN | apply Kd.R_drew)); exact HO_903000.out) hb) (Kd.R_base ho0)) (Kd.R_base ho1)) (fun _ h_ => h_.1))
      have n5_ := Aside0.mk (Kd.R_mono (Kd.R_told (Kd.R_told (Kd.R_old (by (with_reducible repeat (first | apply Kd.R_alloc | apply Kd.R_drewN | apply Kd.R_drew)); exact HO_903001.out) hb) (Kd.R_base ho0)) (Kd.R_base ho1)) (fun _ h_ => h_.1))
      have n6_ := Aside0.mk (Kd.R_lower (Kd.R_new' (Kd.R_new' (Kd.R_new' (Kd.R_new' (Kd.R_new' (Kd.R_new' ho0 (Kd.R_lt (by (with_reducible repeat (first | apply Kd.R_alloc | apply Kd.R_drewN | apply Kd.R_drew)); exact HO_888000.out))) (Kd.R_lt (by (with_reducible repeat (first | apply Kd.R_alloc | apply Kd.R_drewN | apply Kd.R_drew)); exact HO_888001.out))) (Kd.R_lt (by (with_reducible repeat (first | apply Kd.R_alloc | apply Kd.R_drewN | apply Kd.R_drew)); exact HO_895000.out))) (Kd.R_lt (by (with_reducible repeat (first | apply Kd.R_alloc | apply Kd.R_drewN | apply Kd.R_drew)); exact HO_895001.out))) (Kd.R_lt (by (with_reducible repeat (first | apply Kd.R_alloc | apply Kd.R_drewN | apply Kd.R_drew)); exact HO_903000.out))) (Kd.R_lt (by (with_reducible repeat (first | apply Kd.R_alloc | apply Kd.R_drewN | apply Kd.R_drew)); exact HO_903001.out))) (below_size (by repeat (first | (with_reducible first | exact HB.out | apply below_alloc | apply pw_below_drewN | apply below_drew1 | refine below_set ?_ GE872.out | refine below_set ?_ GE887.out | refine below_set ?_ GE894.out | refine below_set ?_ GE902.out) | exact HB.out))))
      have n7_ := Aside0.mk (Kd.R_lower (Kd.R_new' (Kd.R_new' (Kd.R_new' (Kd.R_new' (Kd.R_new' (Kd.R_new' ho1 (Kd.R_lt (by (with_reducible repeat (first | apply Kd.R_alloc | apply Kd.R_drewN | apply Kd.R_drew)); exact HO_888000.out))) (Kd.R_lt (by (with_reducible repeat (first | apply Kd.R_alloc | apply Kd.R_drewN | apply Kd.R_drew)); exact HO_888001.out))) (Kd.R_lt (by (with_reducible repeat (first | apply Kd.R_alloc | apply Kd.R_drewN | apply Kd.R_drew)); exact HO_895000.out))) (Kd.R_lt (by (with_reducible repeat (first | apply Kd.R_alloc | apply Kd.R_drewN | apply Kd.R_drew)); exact HO_895001.out))) (Kd.R_lt (by (with_reducible repeat (first | apply Kd.R_alloc | apply Kd.R_drewN | apply Kd.R_drew)); exact HO_903000.out))) (Kd.R_lt (by (with_reducible repeat (first | apply Kd.R_alloc | apply Kd.R_drewN | apply Kd.R_drew)); exact HO_903001.out))) (below_size (by repeat (first | (with_reducible first | exact HB.out | apply below_alloc | apply pw_below_drewN | apply below_drew1 | refine below_set ?_ GE872.out | refine below_set ?_ GE887.out | refine below_set ?_ GE894.out | refine below_set ?_ GE902.out) | exact HB.out))))
      have n8_ := Aside0.mk (blk_below (g := gb872) (o := .cells #[.slice A0_0 l0_0.length c0_0, .slice A0_1 l0_1.length c0_1] 24 (0, 0)) (by (with_reducible repeat (first | refine blk_drewN ?_ _ | refine blk_drew ?_ | refine blk_alloc ?_ _)); exact BK872.out) hb)
      have n9_ := Aside0.mk (blk_below (g := gb887) (o := .cells #[.slice Ao21 t880.length co21, .slice Ao24 t883.length co24] 27 (0, 0)) (by (with_reducible repeat (first | refine blk_drewN ?_ _ | refine blk_drew ?_ | refine blk_alloc ?_ _)); exact BK887.out) hb)
      have n10_ := Aside0.mk (blk_below (g := gb894) (o := .cells #[.slice Ao28 t888.length co28, .slice Ao32 t891.length co32] 27 (0, 0)) (by (with_reducible repeat (first | refine blk_drewN ?_ _ | refine blk_drew ?_ | refine blk_alloc ?_ _)); exact BK894.out) hb)
      have n11_ := Aside0.mk (blk_below (g := gb902) (o := .cells #[.slice Ao35 t895.length co35, .slice Ao40 t898.length co40] 27 (0, 0)) (by (with_reducible repeat (first | refine blk_drewN ?_ _ | refine blk_drew ?_ | refine blk_alloc ?_ _)); exact BK902.out) hb)
      have n12_ := Aside0.mk (below_step (by repeat (first | (with_reducible first | exact HB.out | apply below_alloc | apply pw_below_drewN | apply below_drew1 | refine below_set ?_ GE872.out | refine below_set ?_ GE887.out | refine below_set ?_ GE894.out | refine below_set ?_ GE902.out) | exact HB.out)) hb)
      clear HO_888000 HO_888001 HO_895000 HO_895001 HO_903000 HO_903001 BK872 BK887 BK894 BK902 HB
      have HO_888000 := n0_
      have HO_888001 := n1_
      have HO_895000 := n2_
      have HO_895001 := n3_
      have HO_903000 := n4_
      have HO_903001 := n5_
      have HO906 := n6_
      have HO909 := n7_
      have BK872 := n8_
      have BK887 := n9_
      have BK894 := n10_
      have BK902 := n11_
      have HB := n12_
      clear n0_ n1_ n2_ n3_ n4_ n5_ n6_ n7_ n8_ n9_ n10_ n11_ n12_
      (try clear hb)
      (try clear hb2)
      (try clear hk)
      (try clear hi)
      (try clear ho0)
      (try clear ho1)
      obtain ⟨Ao67, co67, eo67⟩ := Kd.R_slice HO906.out
      (first | subst eo67 | (injection eo67 with f1_ f2_ f3_; have f4_ := f1_.symm; have f5_ := f3_.symm; clear f1_ f2_ f3_; subst f4_; subst f5_))
      obtain ⟨Ao68, co68, eo68⟩ := Kd.R_slice HO909.out
      (first | subst eo68 | (injection eo68 with f1_ f2_ f3_; have f4_ := f1_.symm; have f5_ := f3_.symm; clear f1_ f2_ f3_; subst f4_; subst f5_))
      refine hK.out _ _ ⟨(blk_cell BK894.out 0).trans rfl, (blk_cell BK894.out 1).trans rfl, (blk_cell BK872.out 0).trans rfl, (blk_cell BK872.out 1).trans rfl⟩ (fun hHeld => ?_)
      clear hK K
      refine norm_ (a' := ?_) ?_ ?_
      rotate_left
      ·show Act.put _ (some 43) _ = _
       simp only [Act.put, List.setIfInBounds_toArray, List.set_cons_zero, List.set_cons_succ, i64_w, i32_w]
       rfl
      refine one_ (i := 3) (N := some 44) #[true, true, true, true, false] rfl rfl (by kernel_rfl) (by decide) (fun K hK => ?_)
      refine goes_ Try.func16 (by kernel_rfl) rfl #[.agg #[.slice Ao28 t888.length co28, .slice Ao32 t891.length co32], .agg #[.slice Ao67 t904.length co67, .slice Ao68 t907.length co68]] (by rfl) rfl rfl (by (try simp only [List.map_toArray, List.map_cons, List.map_nil]); first | done | rfl | (simp only [List.length_drop, List.length_take]; rfl)) ?_
      with_reducible refine (laws_eqSurface.calls kj10 _ _ t888 _ _ t891 _ _ t904 _ _ t907 true _ ?side1 ?side2 ?side3 ?side4 ?side5 ?side6 ?side7 ?side8 A61.out).mono ?_
      (case side1 => repeat (first | exact (Kd.R_reads' HO_895000.out).2.2 | (with_reducible refine Kd.C_alloc ?_ _) | (with_reducible refine Kd.C_drewN ?_ _) | (with_reducible refine Kd.C_drew ?_)))
      (case side2 => exact (Kd.R_reads' HO_895000.out).2.1)
      (case side3 => repeat (first | exact (Kd.R_reads' HO_895001.out).2.2 | (with_reducible refine Kd.C_alloc ?_ _) | (with_reducible refine Kd.C_drewN ?_ _) | (with_reducible refine Kd.C_drew ?_)))
      (case side4 => exact (Kd.R_reads' HO_895001.out).2.1)
      (case side5 => repeat (first | exact (Kd.R_reads' HO906.out).2.2 | (with_reducible refine Kd.C_alloc ?_ _) | (with_reducible refine Kd.C_drewN ?_ _) | (with_reducible refine Kd.C_drew ?_)))
      (case side6 => exact (Kd.R_reads' HO906.out).2.1)
      (case side7 => repeat (first | exact (Kd.R_reads' HO909.out).2.2 | (with_reducible refine Kd.C_alloc ?_ _) | (with_reducible refine Kd.C_drewN ?_ _) | (with_reducible refine Kd.C_drew ?_)))
      (case side8 => exact (Kd.R_reads' HO909.out).2.1)
      rintro e w69 ⟨rfl, hb⟩
      refine ⟨_, rfl, ?_⟩
      have n0_ := Aside0.mk (Kd.R_below (by (with_reducible repeat (first | apply Kd.R_alloc | apply Kd.R_drewN | apply Kd.R_drew)); exact HO_888000.out) hb)
      have n1_ := Aside0.mk (Kd.R_below (by (with_reducible repeat (first | apply Kd.R_alloc | apply Kd.R_drewN | apply Kd.R_drew)); exact HO_888001.out) hb)
      have n2_ := Aside0.mk (Kd.R_below (by (with_reducible repeat (first | apply Kd.R_alloc | apply Kd.R_drewN | apply Kd.R_drew)); exact HO_895000.out) hb)
      have n3_ := Aside0.mk (Kd.R_below (by (with_reducible repeat (first | apply Kd.R_alloc | apply Kd.R_drewN | apply Kd.R_drew)); exact HO_895001.out) hb)
      have n4_ := Aside0.mk (Kd.R_below (by (with_reducible repeat (first | apply Kd.R_alloc | apply Kd.R_drewN | apply Kd.R_drew)); exact HO_903000.out) hb)
      have n5_ := Aside0.mk (Kd.R_below (by (with_reducible repeat (first | apply Kd.R_alloc | apply Kd.R_drewN | apply Kd.R_drew)); exact HO_903001.out) hb)
      have n6_ := Aside0.mk (Kd.R_below (by (with_reducible repeat (first | apply Kd.R_alloc | apply Kd.R_drewN | apply Kd.R_drew)); exact HO906.out) hb)
      have n7_ := Aside0.mk (Kd.R_below (by (with_reducible repeat (first | apply Kd.R_alloc | apply Kd.R_drewN | apply Kd.R_drew)); exact HO909.out) hb)
      have n8_ := Aside0.mk (blk_below (g := gb872) (o := .cells #[.slice A0_0 l0_0.length c0_0, .slice A0_1 l0_1.length c0_1] 24 (0, 0)) (by (with_reducible repeat (first | refine blk_drewN ?_ _ | refine blk_drew ?_ | refine blk_alloc ?_ _)); exact BK872.out) hb)
      have n9_ := Aside0.mk (blk_below (g := gb887) (o := .cells #[.slice Ao21 t880.length co21, .slice Ao24 t883.length co24] 27 (0, 0)) (by (with_reducible repeat (first | refine blk_drewN ?_ _ | refine blk_drew ?_ | refine blk_alloc ?_ _)); exact BK887.out) hb)
      have n10_ := Aside0.mk (blk_below (g := gb894) (o := .cells #[.slice Ao28 t888.length co28, .slice Ao32 t891.length co32] 27 (0, 0)) (by (with_reducible repeat (first | refine blk_drewN ?_ _ | refine blk_drew ?_ | refine blk_alloc ?_ _)); exact BK894.out) hb)
      have n11_ := Aside0.mk (blk_below (g := gb902) (o := .cells #[.slice Ao35 t895.length co35, .slice Ao40 t898.length co40] 27 (0, 0)) (by (with_reducible repeat (first | refine blk_drewN ?_ _ | refine blk_drew ?_ | refine blk_alloc ?_ _)); exact BK902.out) hb)
      have n12_ := Aside0.mk (below_step (by repeat (first | (with_reducible first | exact HB.out | apply below_alloc | apply pw_below_drewN | apply below_drew1 | refine below_set ?_ GE872.out | refine below_set ?_ GE887.out | refine below_set ?_ GE894.out | refine below_set ?_ GE902.out) | exact HB.out)) hb)
      clear HO_888000 HO_888001 HO_895000 HO_895001 HO_903000 HO_903001 HO906 HO909 BK872 BK887 BK894 BK902 HB
      have HO_888000 := n0_
      have HO_888001 := n1_
      have HO_895000 := n2_
      have HO_895001 := n3_
      have HO_903000 := n4_
      have HO_903001 := n5_
      have HO906 := n6_
      have HO909 := n7_
      have BK872 := n8_
      have BK887 := n9_
      have BK894 := n10_
      have BK902 := n11_
      have HB := n12_
      clear n0_ n1_ n2_ n3_ n4_ n5_ n6_ n7_ n8_ n9_ n10_ n11_ n12_
      (try clear hb)
      (try clear hb2)
      (try clear hk)
      (try clear hi)
      refine hK.out _ _ ⟨(blk_cell BK894.out 0).trans rfl, (blk_cell BK894.out 1).trans rfl, (blk_cell BK872.out 0).trans rfl, (blk_cell BK872.out 1).trans rfl⟩ (fun hHeld => ?_)
      clear hK K
      refine norm_ (a' := ?_) ?_ ?_
      rotate_left
      ·show Act.put _ (some 44) _ = _
       simp only [Act.put, List.setIfInBounds_toArray, List.set_cons_zero, List.set_cons_succ, i64_w, i32_w]
       rfl
      refine pure_ (i := 4) (N := some 45) (v := ?_) (a' := ?_) #[true, true, true, true, true] rfl rfl (by kernel_rfl) (fun _ _ _ h => h) (Or.inl ⟨by rfl, ?_⟩) ?_ ?_
      rotate_left
      ·intro w'
       go_simp
       with_reducible rfl
      rotate_left
      ·simp only [Act.put, List.setIfInBounds_toArray, List.set_cons_zero, List.set_cons_succ, i64_w, i32_w]
       rfl
      refine done_ (by kernel_rfl) ?_
      have hnb70 := NB894_872.out
      have hnc70 := NB872_894.out
      have hnb71 := NB894_887.out
      have hnc71 := NB887_894.out
      have hnb72 := NB894_902.out
      have hnc72 := NB902_894.out
      have hcz73_0 : w69.cell? ⟨gb894, 0, none⟩ = some (.slice Ao28 t888.length co28) := (blk_cell BK894.out 0).trans rfl
      have hcz73_1 : w69.cell? ⟨gb894, 1, none⟩ = some (.slice Ao32 t891.length co32) := (blk_cell BK894.out 1).trans rfl
      have hfz73_0 := blk_frozen BK894.out 0
      have hfz73_1 := blk_frozen BK894.out 1
      go_upto_region 14 with (first | ((with_reducible refine gate_callee (f := 20) rfl ?_); refine goesL_ (some 48) rfl rfl Try.func20 (by kernel_rfl) rfl #[.agg #[.slice Ao28 t888.length co28, .slice Ao32 t891.length co32], .int .i64 1] rfl (by (try simp only [List.map_toArray, List.map_cons, List.map_nil]); first | done | rfl | (simp only [List.length_drop, List.length_take]; rfl)) ?_; (with_reducible refine (laws_markSurface.calls kj10 (fun k_ => some k_ = (.slice Ao28 t888.length co28 : Value).ownBlock) (.slice Ao28 t888.length co28) t888 (fun k_ => some k_ = (.slice Ao32 t891.length co32 : Value).ownBlock) (.slice Ao32 t891.length co32) t891 1 t911 t912 t913 w _ ?side1 ?side2 ?side3 ?side4 ?side5 A63.out).mono ?_); (case side1 => repeat (first | (with_reducible first | exact HB.out | apply below_alloc | apply pw_below_drewN | apply below_drew1 | refine below_set ?_ GE872.out | refine below_set ?_ GE887.out | refine below_set ?_ GE894.out | refine below_set ?_ GE902.out) | exact HB.out)); (case side2 => exact Kd.R_tight rfl HO_895000.out); (case side3 => exact fun k_ e_ => (HO_895000.out.1 k_ e_.symm).1.1.2.2.1); (case side4 => exact Kd.R_tight rfl HO_895001.out); (case side5 => exact fun k_ e_ => (HO_895001.out.1 k_ e_.symm).1.1.2.2.1); rintro e w74 ⟨rfl, hy0, hy1, hb, hkp⟩; refine ⟨_, rfl, ?_⟩; have n0_ := Aside0.mk (Kd.R_mono (ok' := fun k_ => some k_ ≠ (.slice Ao24 t883.length co24 : Value).ownBlock ∧ some k_ ≠ (.slice Ao28 t888.length co28 : Value).ownBlock ∧ some k_ ≠ (.slice Ao32 t891.length co32 : Value).ownBlock ∧ some k_ ≠ (.slice Ao35 t895.length co35 : Value).ownBlock ∧ some k_ ≠ (.slice Ao40 t898.length co40 : Value).ownBlock ∧ some k_ ≠ (.slice Ao67 t904.length co67 : Value).ownBlock ∧ some k_ ≠ (.slice Ao68 t907.length co68 : Value).ownBlock) (Kd.R_keptB (HO_888000.out) hkp (fun k_ hk_ hs_ => Or.elim hs_ (fun e_ => (hk_.1.1.2.1) e_) (fun e_ => (hk_.1.1.2.2.1) e_))) (fun k_ hk_ => ⟨hk_.1.1.1.1, hk_.1.1.1.2.1, hk_.1.1.1.2.2.1, hk_.1.1.1.2.2.2.1, hk_.1.1.1.2.2.2.2, hk_.1.1.2, hk_.1.2⟩)); have n1_ := Aside0.mk (Kd.R_mono (ok' := fun k_ => some k_ ≠ (.slice Ao21 t880.length co21 : Value).ownBlock ∧ some k_ ≠ (.slice Ao28 t888.length co28 : Value).ownBlock ∧ some k_ ≠ (.slice Ao32 t891.length co32 : Value).ownBlock ∧ some k_ ≠ (.slice Ao35 t895.length co35 : Value).ownBlock ∧ some k_ ≠ (.slice Ao40 t898.length co40 : Value).ownBlock ∧ some k_ ≠ (.slice Ao67 t904.length co67 : Value).ownBlock ∧ some k_ ≠ (.slice Ao68 t907.length co68 : Value).ownBlock) (Kd.R_keptB (HO_888001.out) hkp (fun k_ hk_ hs_ => Or.elim hs_ (fun e_ => (hk_.1.1.2.1) e_) (fun e_ => (hk_.1.1.2.2.1) e_))) (fun k_ hk_ => ⟨hk_.1.1.1.1, hk_.1.1.1.2.1, hk_.1.1.1.2.2.1, hk_.1.1.1.2.2.2.1, hk_.1.1.1.2.2.2.2, hk_.1.1.2, hk_.1.2⟩)); have n2_ := Aside0.mk (Kd.R_reok rfl hy0 (fun k_ e_ => HO_895000.out.1 k_ e_)); have n3_ := Aside0.mk (Kd.R_reok rfl hy1 (fun k_ e_ => HO_895001.out.1 k_ e_)); have n4_ := Aside0.mk (Kd.R_mono (ok' := fun k_ => some k_ ≠ (.slice Ao21 t880.length co21 : Value).ownBlock ∧ some k_ ≠ (.slice Ao24 t883.length co24 : Value).ownBlock ∧ some k_ ≠ (.slice Ao28 t888.length co28 : Value).ownBlock ∧ some k_ ≠ (.slice Ao32 t891.length co32 : Value).ownBlock ∧ some k_ ≠ (.slice Ao40 t898.length co40 : Value).ownBlock ∧ some k_ ≠ (.slice Ao67 t904.length co67 : Value).ownBlock ∧ some k_ ≠ (.slice Ao68 t907.length co68 : Value).ownBlock) (Kd.R_keptB (HO_903000.out) hkp (fun k_ hk_ hs_ => Or.elim hs_ (fun e_ => (hk_.1.1.2.2.1) e_) (fun e_ => (hk_.1.1.2.2.2.1) e_))) (fun k_ hk_ => ⟨hk_.1.1.1.1, hk_.1.1.1.2.1, hk_.1.1.1.2.2.1, hk_.1.1.1.2.2.2.1, hk_.1.1.1.2.2.2.2, hk_.1.1.2, hk_.1.2⟩)); have n5_ := Aside0.mk (Kd.R_mono (ok' := fun k_ => some k_ ≠ (.slice Ao21 t880.length co21 : Value).ownBlock ∧ some k_ ≠ (.slice Ao24 t883.length co24 : Value).ownBlock ∧ some k_ ≠ (.slice Ao28 t888.length co28 : Value).ownBlock ∧ some k_ ≠ (.slice Ao32 t891.length co32 : Value).ownBlock ∧ some k_ ≠ (.slice Ao35 t895.length co35 : Value).ownBlock ∧ some k_ ≠ (.slice Ao67 t904.length co67 : Value).ownBlock ∧ some k_ ≠ (.slice Ao68 t907.length co68 : Value).ownBlock) (Kd.R_keptB (HO_903001.out) hkp (fun k_ hk_ hs_ => Or.elim hs_ (fun e_ => (hk_.1.1.2.2.1) e_) (fun e_ => (hk_.1.1.2.2.2.1) e_))) (fun k_ hk_ => ⟨hk_.1.1.1.1, hk_.1.1.1.2.1, hk_.1.1.1.2.2.1, hk_.1.1.1.2.2.2.1, hk_.1.1.1.2.2.2.2, hk_.1.1.2, hk_.1.2⟩)); have n6_ := Aside0.mk (blk_kept (by (with_reducible repeat (first | refine blk_drewN ?_ _ | refine blk_drew ?_ | refine blk_alloc ?_ _)); exact BK872.out) hkp (fun hs_ => Or.elim hs_ (fun e_ => (fun e_ => (Kd.R_ne HO_895000.out BK872.out (by decide)) e_) e_) (fun e_ => (fun e_ => (Kd.R_ne HO_895001.out BK872.out (by decide)) e_) e_))); have n7_ := Aside0.mk (blk_kept (by (with_reducible repeat (first | refine blk_drewN ?_ _ | refine blk_drew ?_ | refine blk_alloc ?_ _)); exact BK887.out) hkp (fun hs_ => Or.elim hs_ (fun e_ => (fun e_ => (Kd.R_ne HO_895000.out BK887.out (by decide)) e_) e_) (fun e_ => (fun e_ => (Kd.R_ne HO_895001.out BK887.out (by decide)) e_) e_))); have n8_ := Aside0.mk (blk_kept (by (with_reducible repeat (first | refine blk_drewN ?_ _ | refine blk_drew ?_ | refine blk_alloc ?_ _)); exact BK894.out) hkp (fun hs_ => Or.elim hs_ (fun e_ => (fun e_ => (Kd.R_ne HO_895000.out BK894.out (by decide)) e_) e_) (fun e_ => (fun e_ => (Kd.R_ne HO_895001.out BK894.out (by decide)) e_) e_))); have n9_ := Aside0.mk (blk_kept (by (with_reducible repeat (first | refine blk_drewN ?_ _ | refine blk_drew ?_ | refine blk_alloc ?_ _)); exact BK902.out) hkp (fun hs_ => Or.elim hs_ (fun e_ => (fun e_ => (Kd.R_ne HO_895000.out BK902.out (by decide)) e_) e_) (fun e_ => (fun e_ => (Kd.R_ne HO_895001.out BK902.out (by decide)) e_) e_))); have n10_ := Aside0.mk (Kd.R_mono (ok' := fun k_ => some k_ ≠ (.slice Ao21 t880.length co21 : Value).ownBlock ∧ some k_ ≠ (.slice Ao24 t883.length co24 : Value).ownBlock ∧ some k_ ≠ (.slice Ao28 t888.length co28 : Value).ownBlock ∧ some k_ ≠ (.slice Ao32 t891.length co32 : Value).ownBlock ∧ some k_ ≠ (.slice Ao35 t895.length co35 : Value).ownBlock ∧ some k_ ≠ (.slice Ao40 t898.length co40 : Value).ownBlock ∧ some k_ ≠ (.slice Ao68 t907.length co68 : Value).ownBlock) (Kd.R_keptB (HO906.out) hkp (fun k_ hk_ hs_ => Or.elim hs_ (fun e_ => (hk_.1.1.1.2) e_) (fun e_ => (hk_.1.1.2) e_))) (fun k_ hk_ => ⟨hk_.1.1.1.1.1.1.2, hk_.1.1.1.1.1.2, hk_.1.1.1.1.2, hk_.1.1.1.2, hk_.1.1.2, hk_.1.2, hk_.1.1.1.1.1.1.1⟩)); have n11_ := Aside0.mk (Kd.R_mono (ok' := fun k_ => some k_ ≠ (.slice Ao21 t880.length co21 : Value).ownBlock ∧ some k_ ≠ (.slice Ao24 t883.length co24 : Value).ownBlock ∧ some k_ ≠ (.slice Ao28 t888.length co28 : Value).ownBlock ∧ some k_ ≠ (.slice Ao32 t891.length co32 : Value).ownBlock ∧ some k_ ≠ (.slice Ao35 t895.length co35 : Value).ownBlock ∧ some k_ ≠ (.slice Ao40 t898.length co40 : Value).ownBlock ∧ some k_ ≠ (.slice Ao67 t904.length co67 : Value).ownBlock) (Kd.R_keptB (HO909.out) hkp (fun k_ hk_ hs_ => Or.elim hs_ (fun e_ => (hk_.1.1.1.2) e_) (fun e_ => (hk_.1.1.2) e_))) (fun k_ hk_ => ⟨hk_.1.1.1.1.1.1.2, hk_.1.1.1.1.1.2, hk_.1.1.1.1.2, hk_.1.1.1.2, hk_.1.1.2, hk_.1.2, hk_.1.1.1.1.1.1.1⟩)); have n12_ := Aside0.mk (hb); clear HO_888000; clear HO_888001; clear HO_895000; clear HO_895001; clear HO_903000; clear HO_903001; clear BK872; clear BK887; clear BK894; clear BK902; clear HO906; clear HO909; clear HB; have HO_888000 := n0_; have HO_888001 := n1_; have HO_895000 := n2_; have HO_895001 := n3_; have HO_903000 := n4_; have HO_903001 := n5_; have BK872 := n6_; have BK887 := n7_; have BK894 := n8_; have BK902 := n9_; have HO906 := n10_; have HO909 := n11_; have HB := n12_; clear n0_ n1_ n2_ n3_ n4_ n5_ n6_ n7_ n8_ n9_ n10_ n11_ n12_; (try clear hb); (try clear hkp); (try clear hy0); (try clear hy1)))
      (try simp only [Act.put, List.setIfInBounds_toArray, List.set_cons_zero, List.set_cons_succ])
      go_cut [61] (fun v61 wc => ∃ (kq : Nat) (x61_63 : Bool), v61 = .bool x61_63 ∧ Aside0 (laws_FnExactCanonOf.j1 kq t886 x61_63 l0_0 l0_1 t880 t883 t895 t898 = some true) ∧ Aside0 (kq ≤ kj10) ∧ Aside0 (Kd.R (Kd.int .i64) 3 wc w.heap.size (fun k_ => some k_ ≠ ((.slice Ao24 t883.length co24) : Value).ownBlock ∧ some k_ ≠ ((.slice Ao28 t888.length co28) : Value).ownBlock ∧ some k_ ≠ ((.slice Ao32 t891.length co32) : Value).ownBlock ∧ some k_ ≠ ((.slice Ao35 t895.length co35) : Value).ownBlock ∧ some k_ ≠ ((.slice Ao40 t898.length co40) : Value).ownBlock) (.slice Ao21 t880.length co21) t880) ∧ Aside0 (Kd.R (Kd.int .i64) 3 wc w.heap.size (fun k_ => some k_ ≠ ((.slice Ao21 t880.length co21) : Value).ownBlock ∧ some k_ ≠ ((.slice Ao28 t888.length co28) : Value).ownBlock ∧ some k_ ≠ ((.slice Ao32 t891.length co32) : Value).ownBlock ∧ some k_ ≠ ((.slice Ao35 t895.length co35) : Value).ownBlock ∧ some k_ ≠ ((.slice Ao40 t898.length co40) : Value).ownBlock) (.slice Ao24 t883.length co24) t883) ∧ Aside0 (Kd.R (Kd.int .i64) 3 wc w.heap.size (fun k_ => some k_ ≠ ((.slice Ao21 t880.length co21) : Value).ownBlock ∧ some k_ ≠ ((.slice Ao24 t883.length co24) : Value).ownBlock ∧ some k_ ≠ ((.slice Ao32 t891.length co32) : Value).ownBlock ∧ some k_ ≠ ((.slice Ao35 t895.length co35) : Value).ownBlock ∧ some k_ ≠ ((.slice Ao40 t898.length co40) : Value).ownBlock) (.slice Ao28 t888.length co28) t912) ∧ Aside0 (Kd.R (Kd.int .i64) 3 wc w.heap.size (fun k_ => some k_ ≠ ((.slice Ao21 t880.length co21) : Value).ownBlock ∧ some k_ ≠ ((.slice Ao24 t883.length co24) : Value).ownBlock ∧ some k_ ≠ ((.slice Ao28 t888.length co28) : Value).ownBlock ∧ some k_ ≠ ((.slice Ao35 t895.length co35) : Value).ownBlock ∧ some k_ ≠ ((.slice Ao40 t898.length co40) : Value).ownBlock) (.slice Ao32 t891.length co32) t913) ∧ Aside0 (Kd.R (Kd.int .i64) 3 wc w.heap.size (fun k_ => some k_ ≠ ((.slice Ao21 t880.length co21) : Value).ownBlock ∧ some k_ ≠ ((.slice Ao24 t883.length co24) : Value).ownBlock ∧ some k_ ≠ ((.slice Ao28 t888.length co28) : Value).ownBlock ∧ some k_ ≠ ((.slice Ao32 t891.length co32) : Value).ownBlock ∧ some k_ ≠ ((.slice Ao40 t898.length co40) : Value).ownBlock) (.slice Ao35 t895.length co35) t895) ∧ Aside0 (Kd.R (Kd.int .i64) 3 wc w.heap.size (fun k_ => some k_ ≠ ((.slice Ao21 t880.length co21) : Value).ownBlock ∧ some k_ ≠ ((.slice Ao24 t883.length co24) : Value).ownBlock ∧ some k_ ≠ ((.slice Ao28 t888.length co28) : Value).ownBlock ∧ some k_ ≠ ((.slice Ao32 t891.length co32) : Value).ownBlock ∧ some k_ ≠ ((.slice Ao35 t895.length co35) : Value).ownBlock) (.slice Ao40 t898.length co40) t898) ∧ Aside0 (wc.heap[gb872]? = some (.cells #[(.slice A0_0 l0_0.length c0_0), (.slice A0_1 l0_1.length c0_1)] 24 (0, 0))) ∧ Aside0 (wc.heap[gb887]? = some (.cells #[(.slice Ao21 t880.length co21), (.slice Ao24 t883.length co24)] 27 (0, 0))) ∧ Aside0 (wc.heap[gb894]? = some (.cells #[(.slice Ao28 t888.length co28), (.slice Ao32 t891.length co32)] 27 (0, 0))) ∧ Aside0 (wc.heap[gb902]? = some (.cells #[(.slice Ao35 t895.length co35), (.slice Ao40 t898.length co40)] 27 (0, 0))) ∧ Aside0 (Below w.heap.size w wc))
      case first =>
       have H := HC64.out
       clear HC64
       by_cases c75 : t911 < 0
       ·rw [if_pos c75] at H
        have c75b0 : decide (t911 < 0) = true := decide_eq_true c75
        clear c75
        (first | rw [c75b0] | (simp only [i64_w, i32_w]; rw [c75b0]) | skip)
        exact absurd H (by cases kj10 <;> simp [laws_FnExactCanonOf.j1])
       ·rw [if_neg c75] at H
        have c75b0 : decide (t911 < 0) = false := decide_eq_false c75
        clear c75
        (first | rw [c75b0] | (simp only [i64_w, i32_w]; rw [c75b0]) | skip)
        replace H := Option.bind_eq_some_iff.mp H
        obtain ⟨t914, A760, H⟩ := H
        replace H : (if t914 = true then (laws_FnExactCanonOf.j1 kj10 t886 (t901 != t886) l0_0 l0_1 t880 t883 t895 t898) else (laws_FnExactCanonOf.j1 kj10 t886 true l0_0 l0_1 t880 t883 t895 t898)) = some true := H
        have A76 := Aside0.mk A760
        clear A760
        by_cases c77 : t914 = true
        ·subst c77
         have H1 : (laws_FnExactCanonOf.j1 kj10 t886 (t901 != t886) l0_0 l0_1 t880 t883 t895 t898) = some true := by rw [if_pos rfl] at H; exact H
         clear H
         have H := H1
         clear H1
         have H' := Aside0.mk H
         clear H
         have hnb78 := NB902_872.out
         have hnc78 := NB872_902.out
         have hnb79 := NB902_887.out
         have hnc79 := NB887_902.out
         have hnb80 := NB902_894.out
         have hnc80 := NB894_902.out
         have hcz81_0 : w74.cell? ⟨gb902, 0, none⟩ = some (.slice Ao35 t895.length co35) := (blk_cell BK902.out 0).trans rfl
         have hcz81_1 : w74.cell? ⟨gb902, 1, none⟩ = some (.slice Ao40 t898.length co40) := (blk_cell BK902.out 1).trans rfl
         have hfz81_0 := blk_frozen BK902.out 0
         have hfz81_1 := blk_frozen BK902.out 1
         have hnb82 := NB887_872.out
         have hnc82 := NB872_887.out
         have hnb83 := NB887_894.out
         have hnc83 := NB894_887.out
         have hcz84_0 : w74.cell? ⟨gb887, 0, none⟩ = some (.slice Ao21 t880.length co21) := (blk_cell BK887.out 0).trans rfl
         have hcz84_1 : w74.cell? ⟨gb887, 1, none⟩ = some (.slice Ao24 t883.length co24) := (blk_cell BK887.out 1).trans rfl
         have hfz84_0 := blk_frozen BK887.out 0
         have hfz84_1 := blk_frozen BK887.out 1
         go_wp2_with (first | (go_at_call 16; (with_reducible refine (laws_eqSurface.calls kj10 _ _ t895 _ _ t898 _ _ t880 _ _ t883 true _ ?side1 ?side2 ?side3 ?side4 ?side5 ?side6 ?side7 ?side8 A76.out).mono ?_); (case side1 => repeat (first | exact (Kd.R_reads' HO_903000.out).2.2 | (with_reducible refine Kd.C_alloc ?_ _) | (with_reducible refine Kd.C_drewN ?_ _) | (with_reducible refine Kd.C_drew ?_))); (case side2 => exact (Kd.R_reads' HO_903000.out).2.1); (case side3 => repeat (first | exact (Kd.R_reads' HO_903001.out).2.2 | (with_reducible refine Kd.C_alloc ?_ _) | (with_reducible refine Kd.C_drewN ?_ _) | (with_reducible refine Kd.C_drew ?_))); (case side4 => exact (Kd.R_reads' HO_903001.out).2.1); (case side5 => repeat (first | exact (Kd.R_reads' HO_888000.out).2.2 | (with_reducible refine Kd.C_alloc ?_ _) | (with_reducible refine Kd.C_drewN ?_ _) | (with_reducible refine Kd.C_drew ?_))); (case side6 => exact (Kd.R_reads' HO_888000.out).2.1); (case side7 => repeat (first | exact (Kd.R_reads' HO_888001.out).2.2 | (with_reducible refine Kd.C_alloc ?_ _) | (with_reducible refine Kd.C_drewN ?_ _) | (with_reducible refine Kd.C_drew ?_))); (case side8 => exact (Kd.R_reads' HO_888001.out).2.1); rintro e w85 ⟨rfl, hb⟩; have n0_ := Aside0.mk (Kd.R_below (by (with_reducible repeat (first | apply Kd.R_alloc | apply Kd.R_drewN | apply Kd.R_drew)); exact HO_888000.out) hb); have n1_ := Aside0.mk (Kd.R_below (by (with_reducible repeat (first | apply Kd.R_alloc | apply Kd.R_drewN | apply Kd.R_drew)); exact HO_888001.out) hb); have n2_ := Aside0.mk (Kd.R_below (by (with_reducible repeat (first | apply Kd.R_alloc | apply Kd.R_drewN | apply Kd.R_drew)); exact HO_895000.out) hb); have n3_ := Aside0.mk (Kd.R_below (by (with_reducible repeat (first | apply Kd.R_alloc | apply Kd.R_drewN | apply Kd.R_drew)); exact HO_895001.out) hb); have n4_ := Aside0.mk (Kd.R_below (by (with_reducible repeat (first | apply Kd.R_alloc | apply Kd.R_drewN | apply Kd.R_drew)); exact HO_903000.out) hb); have n5_ := Aside0.mk (Kd.R_below (by (with_reducible repeat (first | apply Kd.R_alloc | apply Kd.R_drewN | apply Kd.R_drew)); exact HO_903001.out) hb); have n6_ := Aside0.mk (Kd.R_below (by (with_reducible repeat (first | apply Kd.R_alloc | apply Kd.R_drewN | apply Kd.R_drew)); exact HO906.out) hb); have n7_ := Aside0.mk (Kd.R_below (by (with_reducible repeat (first | apply Kd.R_alloc | apply Kd.R_drewN | apply Kd.R_drew)); exact HO909.out) hb); have n8_ := Aside0.mk (blk_below (g := gb872) (o := .cells #[.slice A0_0 l0_0.length c0_0, .slice A0_1 l0_1.length c0_1] 24 (0, 0)) (by (with_reducible repeat (first | refine blk_drewN ?_ _ | refine blk_drew ?_ | refine blk_alloc ?_ _)); exact BK872.out) hb); have n9_ := Aside0.mk (blk_below (g := gb887) (o := .cells #[.slice Ao21 t880.length co21, .slice Ao24 t883.length co24] 27 (0, 0)) (by (with_reducible repeat (first | refine blk_drewN ?_ _ | refine blk_drew ?_ | refine blk_alloc ?_ _)); exact BK887.out) hb); have n10_ := Aside0.mk (blk_below (g := gb894) (o := .cells #[.slice Ao28 t888.length co28, .slice Ao32 t891.length co32] 27 (0, 0)) (by (with_reducible repeat (first | refine blk_drewN ?_ _ | refine blk_drew ?_ | refine blk_alloc ?_ _)); exact BK894.out) hb); have n11_ := Aside0.mk (blk_below (g := gb902) (o := .cells #[.slice Ao35 t895.length co35, .slice Ao40 t898.length co40] 27 (0, 0)) (by (with_reducible repeat (first | refine blk_drewN ?_ _ | refine blk_drew ?_ | refine blk_alloc ?_ _)); exact BK902.out) hb); have n12_ := Aside0.mk (below_step (by repeat (first | (with_reducible first | exact HB.out | apply below_alloc | apply pw_below_drewN | apply below_drew1 | refine below_set ?_ GE872.out | refine below_set ?_ GE887.out | refine below_set ?_ GE894.out | refine below_set ?_ GE902.out) | exact HB.out)) hb); clear HO_888000; clear HO_888001; clear HO_895000; clear HO_895001; clear HO_903000; clear HO_903001; clear HO906; clear HO909; clear BK872; clear BK887; clear BK894; clear BK902; clear HB; have HO_888000 := n0_; have HO_888001 := n1_; have HO_895000 := n2_; have HO_895001 := n3_; have HO_903000 := n4_; have HO_903001 := n5_; have HO906 := n6_; have HO909 := n7_; have BK872 := n8_; have BK887 := n9_; have BK894 := n10_; have BK902 := n11_; have HB := n12_; clear n0_ n1_ n2_ n3_ n4_ n5_ n6_ n7_ n8_ n9_ n10_ n11_ n12_; (try clear hb); (try clear hb2); (try clear hk); (try clear hi)))
         go_meet
         case rel => exact ⟨_, ((t901 != t886)), (by first | rfl | (simp; done) | (simp [*]; done)), H', ⟨by have := HJ10.out; first | omega | exact Nat.le_refl _⟩, ⟨by (with_reducible repeat (first | apply Kd.R_alloc | apply Kd.R_drewN | apply Kd.R_drew)); exact Kd.R_mono HO_888000.out (fun _ hk => ⟨hk.1, ⟨hk.2.1, ⟨hk.2.2.1, ⟨hk.2.2.2.1, hk.2.2.2.2.1⟩⟩⟩⟩)⟩, ⟨by (with_reducible repeat (first | apply Kd.R_alloc | apply Kd.R_drewN | apply Kd.R_drew)); exact Kd.R_mono HO_888001.out (fun _ hk => ⟨hk.1, ⟨hk.2.1, ⟨hk.2.2.1, ⟨hk.2.2.2.1, hk.2.2.2.2.1⟩⟩⟩⟩)⟩, ⟨by (with_reducible repeat (first | apply Kd.R_alloc | apply Kd.R_drewN | apply Kd.R_drew)); exact Kd.R_mono HO_895000.out (fun _ hk => ⟨hk.1.1.1, ⟨hk.1.1.2.1, ⟨hk.1.1.2.2.1, ⟨hk.1.1.2.2.2.1, hk.1.1.2.2.2.2⟩⟩⟩⟩)⟩, ⟨by (with_reducible repeat (first | apply Kd.R_alloc | apply Kd.R_drewN | apply Kd.R_drew)); exact Kd.R_mono HO_895001.out (fun _ hk => ⟨hk.1.1.1, ⟨hk.1.1.2.1, ⟨hk.1.1.2.2.1, ⟨hk.1.1.2.2.2.1, hk.1.1.2.2.2.2⟩⟩⟩⟩)⟩, ⟨by (with_reducible repeat (first | apply Kd.R_alloc | apply Kd.R_drewN | apply Kd.R_drew)); exact Kd.R_mono HO_903000.out (fun _ hk => ⟨hk.1, ⟨hk.2.1, ⟨hk.2.2.1, ⟨hk.2.2.2.1, hk.2.2.2.2.1⟩⟩⟩⟩)⟩, ⟨by (with_reducible repeat (first | apply Kd.R_alloc | apply Kd.R_drewN | apply Kd.R_drew)); exact Kd.R_mono HO_903001.out (fun _ hk => ⟨hk.1, ⟨hk.2.1, ⟨hk.2.2.1, ⟨hk.2.2.2.1, hk.2.2.2.2.1⟩⟩⟩⟩)⟩, ⟨by (with_reducible repeat (first | refine blk_drewN ?_ _ | refine blk_drew ?_ | refine blk_alloc ?_ _)); exact BK872.out⟩, ⟨by (with_reducible repeat (first | refine blk_drewN ?_ _ | refine blk_drew ?_ | refine blk_alloc ?_ _)); exact BK887.out⟩, ⟨by (with_reducible repeat (first | refine blk_drewN ?_ _ | refine blk_drew ?_ | refine blk_alloc ?_ _)); exact BK894.out⟩, ⟨by (with_reducible repeat (first | refine blk_drewN ?_ _ | refine blk_drew ?_ | refine blk_alloc ?_ _)); exact BK902.out⟩, ⟨by repeat (first | (with_reducible first | exact HB.out | apply below_alloc | apply pw_below_drewN | apply below_drew1 | refine below_set ?_ GE872.out | refine below_set ?_ GE887.out | refine below_set ?_ GE894.out | refine below_set ?_ GE902.out) | exact HB.out)⟩⟩
        ·replace c77 := Bool.eq_false_iff.mpr c77
         subst c77
         have H1 : (laws_FnExactCanonOf.j1 kj10 t886 true l0_0 l0_1 t880 t883 t895 t898) = some true := by rw [if_neg (show ¬ (false = true) by decide)] at H; exact H
         clear H
         have H := H1
         clear H1
         exact absurd H (by cases kj10 <;> simp [laws_FnExactCanonOf.j1])
      case rest =>
       clear HC64
       try clear c1
       try clear c2
       try clear p2
       try clear c3
       try clear c3b0
       try clear c4
       try clear c5
       try clear c6
       try clear c7
       try clear c8
       try clear c9
       try clear c12
       try clear c14
       try clear c16
       try clear c20
       try clear c22
       try clear c28
       try clear c29
       try clear c30
       try clear c36
       try clear c37
       try clear c38
       try clear c42
       try clear c43
       try clear c44
       try clear c45
       try clear c47
       try clear c48
       try clear c51
       try clear c52
       try clear c53
       try clear c55
       try clear c56
       try clear c59
       try clear c62
       try clear c70
       try clear c71
       try clear c72
       try clear c75
       try clear c75b0
       try clear c77
       try clear c78
       try clear c79
       try clear c80
       try clear c82
       try clear c83
       try clear c86
       try clear c87
       try clear c88
       try clear c90
       try clear c91
       try clear hcz13_0
       try clear hcz13_1
       try clear hcz15_0
       try clear hcz15_1
       try clear hcz23_0
       try clear hcz23_1
       try clear hcz25_0
       try clear hcz25_1
       try clear hcz31_0
       try clear hcz31_1
       try clear hcz39_0
       try clear hcz39_1
       try clear hcz46_0
       try clear hcz46_1
       try clear hcz49_0
       try clear hcz49_1
       try clear hcz54_0
       try clear hcz54_1
       try clear hcz57_0
       try clear hcz57_1
       try clear hcz5_0
       try clear hcz5_1
       try clear hcz73_0
       try clear hcz73_1
       try clear hcz81_0
       try clear hcz81_1
       try clear hcz84_0
       try clear hcz84_1
       try clear hcz89_0
       try clear hcz89_1
       try clear hcz92_0
       try clear hcz92_1
       try clear hfz13_0
       try clear hfz13_1
       try clear hfz15_0
       try clear hfz15_1
       try clear hfz23_0
       try clear hfz23_1
       try clear hfz25_0
       try clear hfz25_1
       try clear hfz31_0
       try clear hfz31_1
       try clear hfz39_0
       try clear hfz39_1
       try clear hfz46_0
       try clear hfz46_1
       try clear hfz49_0
       try clear hfz49_1
       try clear hfz54_0
       try clear hfz54_1
       try clear hfz57_0
       try clear hfz57_1
       try clear hfz5_0
       try clear hfz5_1
       try clear hfz73_0
       try clear hfz73_1
       try clear hfz81_0
       try clear hfz81_1
       try clear hfz84_0
       try clear hfz84_1
       try clear hfz89_0
       try clear hfz89_1
       try clear hfz92_0
       try clear hfz92_1
       try clear p2
       obtain ⟨kq, x61_63, rfl, HA, HJ63, HO_888000, HO_888001, HO_895000, HO_895001, HO_903000, HO_903001, BK872, BK887, BK894, BK902, HB⟩ := hcut
       have hl895000_63 := (Kd.R_reads' HO_895000.out).1
       rw [hl895000_63] at HO_895000
       (try simp only [hl895000_63])
       (try simp only [hl895000_63] at BK872)
       (try simp only [hl895000_63] at BK887)
       (try simp only [hl895000_63] at BK894)
       (try simp only [hl895000_63] at BK902)
       (try simp only [hl895000_63] at HO_888000)
       (try simp only [hl895000_63] at HO_888001)
       (try simp only [hl895000_63] at HO_895001)
       (try simp only [hl895000_63] at HO_903000)
       (try simp only [hl895000_63] at HO_903001)
       have hl895001_63 := (Kd.R_reads' HO_895001.out).1
       rw [hl895001_63] at HO_895001
       (try simp only [hl895001_63])
       (try simp only [hl895001_63] at BK872)
       (try simp only [hl895001_63] at BK887)
       (try simp only [hl895001_63] at BK894)
       (try simp only [hl895001_63] at BK902)
       (try simp only [hl895001_63] at HO_888000)
       (try simp only [hl895001_63] at HO_888001)
       (try simp only [hl895001_63] at HO_895000)
       (try simp only [hl895001_63] at HO_903000)
       (try simp only [hl895001_63] at HO_903001)
       cases kq with
       | zero => exact absurd HA.out (by simp [laws_FnExactCanonOf.j1])
       | succ kj63 =>
        have H := HA.out
        clear HA
        simp only [laws_FnExactCanonOf.j1] at H
        by_cases c94 : x61_63 = true
        ·subst c94
         have H1 : (some false) = some true := by rw [if_pos rfl] at H; exact H
         clear H
         have H := H1
         clear H1
         exact absurd H (by simp)
        ·replace c94 := Bool.eq_false_iff.mpr c94
         subst c94
         have H1 : ((laws_markSurface.f kj63 t895 t898 1).bind fun bt915 => ((laws_heldSurface.f kj63 bt915.2.1 bt915.2.2 1).bind fun t918 => (if t918 < 0 then (some false) else (if t918 = bt915.1 then ((laws_toSurface.f kj63 l0_0 l0_1).bind fun bt919 => ((impl_CanonOf.f kj63 bt919.1 bt919.2).bind fun bt925 => ((laws_eqSurface.f kj63 bt925.1 bt925.2.1 t880 t883).bind fun t933 => (if t933 = true then (laws_FnExactCanonOf.j2 kj63 bt915.1 (bt925.2.2 != t886) bt915.2.1 bt915.2.2) else (laws_FnExactCanonOf.j2 kj63 bt915.1 true bt915.2.1 bt915.2.2))))) else (some false))))) = some true := by rw [if_neg (show ¬ (false = true) by decide)] at H; exact H
         clear H
         have H := H1
         clear H1
         replace H := Option.bind_eq_some_iff.mp H
         obtain ⟨⟨t915, t916, t917⟩, A950, H⟩ := H
         replace H : ((laws_heldSurface.f kj63 t916 t917 1).bind fun t918 => (if t918 < 0 then (some false) else (if t918 = t915 then ((laws_toSurface.f kj63 l0_0 l0_1).bind fun bt919 => ((impl_CanonOf.f kj63 bt919.1 bt919.2).bind fun bt925 => ((laws_eqSurface.f kj63 bt925.1 bt925.2.1 t880 t883).bind fun t933 => (if t933 = true then (laws_FnExactCanonOf.j2 kj63 t915 (bt925.2.2 != t886) t916 t917) else (laws_FnExactCanonOf.j2 kj63 t915 true t916 t917))))) else (some false)))) = some true := H
         have A95 := Aside0.mk A950
         clear A950
         replace H := Option.bind_eq_some_iff.mp H
         obtain ⟨t918, A960, H⟩ := H
         replace H : (if t918 < 0 then (some false) else (if t918 = t915 then ((laws_toSurface.f kj63 l0_0 l0_1).bind fun bt919 => ((impl_CanonOf.f kj63 bt919.1 bt919.2).bind fun bt925 => ((laws_eqSurface.f kj63 bt925.1 bt925.2.1 t880 t883).bind fun t933 => (if t933 = true then (laws_FnExactCanonOf.j2 kj63 t915 (bt925.2.2 != t886) t916 t917) else (laws_FnExactCanonOf.j2 kj63 t915 true t916 t917))))) else (some false))) = some true := H
         have A96 := Aside0.mk A960
         clear A960
         by_cases c97 : t918 < 0
         ·rw [if_pos c97] at H
          have c97b0 : decide (t918 < 0) = true := decide_eq_true c97
          clear c97
          exact absurd H (by simp)
         ·rw [if_neg c97] at H
          have c97b0 : decide (t918 < 0) = false := decide_eq_false c97
          clear c97
          by_cases c105 : t918 = t915
          ·rw [if_pos c105] at H
           have c105b0 : (t918 == t915) = true := beq_iff_eq.mpr c105
           have c105b1 : (t918 != t915) = false := bne_eq_false_iff_eq.mpr c105
           clear c105
           replace H := Option.bind_eq_some_iff.mp H
           obtain ⟨⟨t919, t922⟩, A1060, H⟩ := H
           replace H : ((impl_CanonOf.f kj63 t919 t922).bind fun bt925 => ((laws_eqSurface.f kj63 bt925.1 bt925.2.1 t880 t883).bind fun t933 => (if t933 = true then (laws_FnExactCanonOf.j2 kj63 t915 (bt925.2.2 != t886) t916 t917) else (laws_FnExactCanonOf.j2 kj63 t915 true t916 t917)))) = some true := H
           have A106 := Aside0.mk A1060
           clear A1060
           replace H := Option.bind_eq_some_iff.mp H
           obtain ⟨⟨t925, t928, t931⟩, A1070, H⟩ := H
           replace H : ((laws_eqSurface.f kj63 t925 t928 t880 t883).bind fun t933 => (if t933 = true then (laws_FnExactCanonOf.j2 kj63 t915 (t931 != t886) t916 t917) else (laws_FnExactCanonOf.j2 kj63 t915 true t916 t917))) = some true := H
           have A107 := Aside0.mk A1070
           clear A1070
           have HC108 := Aside0.mk H
           clear H
           have hnb109 := NB902_872.out
           have hnc109 := NB872_902.out
           have hnb110 := NB902_887.out
           have hnc110 := NB887_902.out
           have hnb111 := NB902_894.out
           have hnc111 := NB894_902.out
           have hcz112_0 : wc.cell? ⟨gb902, 0, none⟩ = some (.slice Ao35 t895.length co35) := (blk_cell BK902.out 0).trans rfl
           have hcz112_1 : wc.cell? ⟨gb902, 1, none⟩ = some (.slice Ao40 t898.length co40) := (blk_cell BK902.out 1).trans rfl
           have hfz112_0 := blk_frozen BK902.out 0
           have hfz112_1 := blk_frozen BK902.out 1
           go_upto_region 25 with (first | ((with_reducible refine gate_callee (f := 20) rfl ?_); refine goesL_ (some 64) rfl rfl Try.func20 (by kernel_rfl) rfl #[.agg #[.slice Ao35 t895.length co35, .slice Ao40 t898.length co40], .int .i64 1] rfl (by (try simp only [List.map_toArray, List.map_cons, List.map_nil]); first | done | rfl | (simp only [List.length_drop, List.length_take]; rfl)) ?_; (with_reducible refine (laws_markSurface.calls kj63 (fun k_ => some k_ = (.slice Ao35 t895.length co35 : Value).ownBlock) (.slice Ao35 t895.length co35) t895 (fun k_ => some k_ = (.slice Ao40 t898.length co40 : Value).ownBlock) (.slice Ao40 t898.length co40) t898 1 t915 t916 t917 w _ ?side1 ?side2 ?side3 ?side4 ?side5 A95.out).mono ?_); (case side1 => repeat (first | (with_reducible first | exact HB.out | apply below_alloc | apply pw_below_drewN | apply below_drew1 | refine below_set ?_ GE872.out | refine below_set ?_ GE887.out | refine below_set ?_ GE894.out | refine below_set ?_ GE902.out) | exact HB.out)); (case side2 => exact Kd.R_tight rfl HO_903000.out); (case side3 => exact fun k_ e_ => (HO_903000.out.1 k_ e_.symm).2.2.2.2); (case side4 => exact Kd.R_tight rfl HO_903001.out); (case side5 => exact fun k_ e_ => (HO_903001.out.1 k_ e_.symm).2.2.2.2); rintro e w113 ⟨rfl, hy0, hy1, hb, hkp⟩; refine ⟨_, rfl, ?_⟩; have n0_ := Aside0.mk (Kd.R_mono (ok' := fun k_ => some k_ ≠ (.slice Ao24 t883.length co24 : Value).ownBlock ∧ some k_ ≠ (.slice Ao28 t912.length co28 : Value).ownBlock ∧ some k_ ≠ (.slice Ao32 t913.length co32 : Value).ownBlock ∧ some k_ ≠ (.slice Ao35 t895.length co35 : Value).ownBlock ∧ some k_ ≠ (.slice Ao40 t898.length co40 : Value).ownBlock) (Kd.R_keptB (HO_888000.out) hkp (fun k_ hk_ hs_ => Or.elim hs_ (fun e_ => (hk_.2.2.2.1) e_) (fun e_ => (hk_.2.2.2.2) e_))) (fun k_ hk_ => ⟨hk_.1.1, hk_.1.2.1, hk_.1.2.2.1, hk_.1.2.2.2.1, hk_.1.2.2.2.2⟩)); have n1_ := Aside0.mk (Kd.R_mono (ok' := fun k_ => some k_ ≠ (.slice Ao21 t880.length co21 : Value).ownBlock ∧ some k_ ≠ (.slice Ao28 t912.length co28 : Value).ownBlock ∧ some k_ ≠ (.slice Ao32 t913.length co32 : Value).ownBlock ∧ some k_ ≠ (.slice Ao35 t895.length co35 : Value).ownBlock ∧ some k_ ≠ (.slice Ao40 t898.length co40 : Value).ownBlock) (Kd.R_keptB (HO_888001.out) hkp (fun k_ hk_ hs_ => Or.elim hs_ (fun e_ => (hk_.2.2.2.1) e_) (fun e_ => (hk_.2.2.2.2) e_))) (fun k_ hk_ => ⟨hk_.1.1, hk_.1.2.1, hk_.1.2.2.1, hk_.1.2.2.2.1, hk_.1.2.2.2.2⟩)); have n2_ := Aside0.mk (Kd.R_mono (ok' := fun k_ => some k_ ≠ (.slice Ao21 t880.length co21 : Value).ownBlock ∧ some k_ ≠ (.slice Ao24 t883.length co24 : Value).ownBlock ∧ some k_ ≠ (.slice Ao32 t913.length co32 : Value).ownBlock ∧ some k_ ≠ (.slice Ao35 t895.length co35 : Value).ownBlock ∧ some k_ ≠ (.slice Ao40 t898.length co40 : Value).ownBlock) (Kd.R_keptB (HO_895000.out) hkp (fun k_ hk_ hs_ => Or.elim hs_ (fun e_ => (hk_.2.2.2.1) e_) (fun e_ => (hk_.2.2.2.2) e_))) (fun k_ hk_ => ⟨hk_.1.1, hk_.1.2.1, hk_.1.2.2.1, hk_.1.2.2.2.1, hk_.1.2.2.2.2⟩)); have n3_ := Aside0.mk (Kd.R_mono (ok' := fun k_ => some k_ ≠ (.slice Ao21 t880.length co21 : Value).ownBlock ∧ some k_ ≠ (.slice Ao24 t883.length co24 : Value).ownBlock ∧ some k_ ≠ (.slice Ao28 t912.length co28 : Value).ownBlock ∧ some k_ ≠ (.slice Ao35 t895.length co35 : Value).ownBlock ∧ some k_ ≠ (.slice Ao40 t898.length co40 : Value).ownBlock) (Kd.R_keptB (HO_895001.out) hkp (fun k_ hk_ hs_ => Or.elim hs_ (fun e_ => (hk_.2.2.2.1) e_) (fun e_ => (hk_.2.2.2.2) e_))) (fun k_ hk_ => ⟨hk_.1.1, hk_.1.2.1, hk_.1.2.2.1, hk_.1.2.2.2.1, hk_.1.2.2.2.2⟩)); have n4_ := Aside0.mk (Kd.R_reok rfl hy0 (fun k_ e_ => HO_903000.out.1 k_ e_)); have n5_ := Aside0.mk (Kd.R_reok rfl hy1 (fun k_ e_ => HO_903001.out.1 k_ e_)); have n6_ := Aside0.mk (blk_kept (by (with_reducible repeat (first | refine blk_drewN ?_ _ | refine blk_drew ?_ | refine blk_alloc ?_ _)); exact BK872.out) hkp (fun hs_ => Or.elim hs_ (fun e_ => (fun e_ => (Kd.R_ne HO_903000.out BK872.out (by decide)) e_) e_) (fun e_ => (fun e_ => (Kd.R_ne HO_903001.out BK872.out (by decide)) e_) e_))); have n7_ := Aside0.mk (blk_kept (by (with_reducible repeat (first | refine blk_drewN ?_ _ | refine blk_drew ?_ | refine blk_alloc ?_ _)); exact BK887.out) hkp (fun hs_ => Or.elim hs_ (fun e_ => (fun e_ => (Kd.R_ne HO_903000.out BK887.out (by decide)) e_) e_) (fun e_ => (fun e_ => (Kd.R_ne HO_903001.out BK887.out (by decide)) e_) e_))); have n8_ := Aside0.mk (blk_kept (by (with_reducible repeat (first | refine blk_drewN ?_ _ | refine blk_drew ?_ | refine blk_alloc ?_ _)); exact BK894.out) hkp (fun hs_ => Or.elim hs_ (fun e_ => (fun e_ => (Kd.R_ne HO_903000.out BK894.out (by decide)) e_) e_) (fun e_ => (fun e_ => (Kd.R_ne HO_903001.out BK894.out (by decide)) e_) e_))); have n9_ := Aside0.mk (blk_kept (by (with_reducible repeat (first | refine blk_drewN ?_ _ | refine blk_drew ?_ | refine blk_alloc ?_ _)); exact BK902.out) hkp (fun hs_ => Or.elim hs_ (fun e_ => (fun e_ => (Kd.R_ne HO_903000.out BK902.out (by decide)) e_) e_) (fun e_ => (fun e_ => (Kd.R_ne HO_903001.out BK902.out (by decide)) e_) e_))); have n10_ := Aside0.mk (hb); clear HO_888000; clear HO_888001; clear HO_895000; clear HO_895001; clear HO_903000; clear HO_903001; clear BK872; clear BK887; clear BK894; clear BK902; clear HB; have HO_888000 := n0_; have HO_888001 := n1_; have HO_895000 := n2_; have HO_895001 := n3_; have HO_903000 := n4_; have HO_903001 := n5_; have BK872 := n6_; have BK887 := n7_; have BK894 := n8_; have BK902 := n9_; have HB := n10_; clear n0_ n1_ n2_ n3_ n4_ n5_ n6_ n7_ n8_ n9_ n10_; (try clear hb); (try clear hkp); (try clear hy0); (try clear hy1); have hcz114_0 : w113.cell? ⟨gb902, 0, none⟩ = some (.slice Ao35 t895.length co35) := (blk_cell BK902.out 0).trans rfl; have hcz114_1 : w113.cell? ⟨gb902, 1, none⟩ = some (.slice Ao40 t898.length co40) := (blk_cell BK902.out 1).trans rfl; have hfz114_0 := blk_frozen BK902.out 0; have hfz114_1 := blk_frozen BK902.out 1) | ((with_reducible refine gate_callee (f := 25) rfl ?_); refine goesL_ (some 67) rfl rfl Try.func25 (by kernel_rfl) rfl #[.agg #[.slice Ao35 t916.length co35, .slice Ao40 t917.length co40], .int .i64 1] rfl (by (try simp only [List.map_toArray, List.map_cons, List.map_nil]); first | done | (rw [show t916.length = t895.length from (Kd.R_reads' HO_903000.out).1.symm, show t917.length = t898.length from (Kd.R_reads' HO_903001.out).1.symm] <;> rfl) | rfl | (simp only [List.length_drop, List.length_take]; rfl)) ?_; (with_reducible refine (laws_heldSurface.calls kj63 _ _ t916 _ _ t917 1 t918 _ ?side1 ?side2 ?side3 ?side4 A96.out).mono ?_); (case side1 => repeat (first | exact (Kd.R_reads' HO_903000.out).2.2 | (with_reducible refine Kd.C_alloc ?_ _) | (with_reducible refine Kd.C_drewN ?_ _) | (with_reducible refine Kd.C_drew ?_))); (case side2 => rw [show t916.length = t895.length from (Kd.R_reads' HO_903000.out).1.symm]; exact (Kd.R_reads' HO_903000.out).2.1); (case side3 => repeat (first | exact (Kd.R_reads' HO_903001.out).2.2 | (with_reducible refine Kd.C_alloc ?_ _) | (with_reducible refine Kd.C_drewN ?_ _) | (with_reducible refine Kd.C_drew ?_))); (case side4 => rw [show t917.length = t898.length from (Kd.R_reads' HO_903001.out).1.symm]; exact (Kd.R_reads' HO_903001.out).2.1); rintro e w115 ⟨rfl, hb⟩; refine ⟨_, rfl, ?_⟩; have n0_ := Aside0.mk (Kd.R_below (by (with_reducible repeat (first | apply Kd.R_alloc | apply Kd.R_drewN | apply Kd.R_drew)); exact HO_888000.out) hb); have n1_ := Aside0.mk (Kd.R_below (by (with_reducible repeat (first | apply Kd.R_alloc | apply Kd.R_drewN | apply Kd.R_drew)); exact HO_888001.out) hb); have n2_ := Aside0.mk (Kd.R_below (by (with_reducible repeat (first | apply Kd.R_alloc | apply Kd.R_drewN | apply Kd.R_drew)); exact HO_895000.out) hb); have n3_ := Aside0.mk (Kd.R_below (by (with_reducible repeat (first | apply Kd.R_alloc | apply Kd.R_drewN | apply Kd.R_drew)); exact HO_895001.out) hb); have n4_ := Aside0.mk (Kd.R_below (by (with_reducible repeat (first | apply Kd.R_alloc | apply Kd.R_drewN | apply Kd.R_drew)); exact HO_903000.out) hb); have n5_ := Aside0.mk (Kd.R_below (by (with_reducible repeat (first | apply Kd.R_alloc | apply Kd.R_drewN | apply Kd.R_drew)); exact HO_903001.out) hb); have n6_ := Aside0.mk (blk_below (g := gb872) (o := .cells #[.slice A0_0 l0_0.length c0_0, .slice A0_1 l0_1.length c0_1] 24 (0, 0)) (by (with_reducible repeat (first | refine blk_drewN ?_ _ | refine blk_drew ?_ | refine blk_alloc ?_ _)); exact BK872.out) hb); have n7_ := Aside0.mk (blk_below (g := gb887) (o := .cells #[.slice Ao21 t880.length co21, .slice Ao24 t883.length co24] 27 (0, 0)) (by (with_reducible repeat (first | refine blk_drewN ?_ _ | refine blk_drew ?_ | refine blk_alloc ?_ _)); exact BK887.out) hb); have n8_ := Aside0.mk (blk_below (g := gb894) (o := .cells #[.slice Ao28 t912.length co28, .slice Ao32 t913.length co32] 27 (0, 0)) (by (with_reducible repeat (first | refine blk_drewN ?_ _ | refine blk_drew ?_ | refine blk_alloc ?_ _)); exact BK894.out) hb); have n9_ := Aside0.mk (blk_below (g := gb902) (o := .cells #[.slice Ao35 t895.length co35, .slice Ao40 t898.length co40] 27 (0, 0)) (by (with_reducible repeat (first | refine blk_drewN ?_ _ | refine blk_drew ?_ | refine blk_alloc ?_ _)); exact BK902.out) hb); have n10_ := Aside0.mk (below_step (by repeat (first | (with_reducible first | exact HB.out | apply below_alloc | apply pw_below_drewN | apply below_drew1 | refine below_set ?_ GE872.out | refine below_set ?_ GE887.out | refine below_set ?_ GE894.out | refine below_set ?_ GE902.out) | exact HB.out)) hb); clear HO_888000; clear HO_888001; clear HO_895000; clear HO_895001; clear HO_903000; clear HO_903001; clear BK872; clear BK887; clear BK894; clear BK902; clear HB; have HO_888000 := n0_; have HO_888001 := n1_; have HO_895000 := n2_; have HO_895001 := n3_; have HO_903000 := n4_; have HO_903001 := n5_; have BK872 := n6_; have BK887 := n7_; have BK894 := n8_; have BK902 := n9_; have HB := n10_; clear n0_ n1_ n2_ n3_ n4_ n5_ n6_ n7_ n8_ n9_ n10_; (try clear hb); (try clear hb2); (try clear hk); (try clear hi); have hnb116 := NB872_887.out; have hnc116 := NB887_872.out; have hnb117 := NB872_894.out; have hnc117 := NB894_872.out; have hcz118_0 : w115.cell? ⟨gb872, 0, none⟩ = some (.slice A0_0 l0_0.length c0_0) := (blk_cell BK872.out 0).trans rfl; have hcz118_1 : w115.cell? ⟨gb872, 1, none⟩ = some (.slice A0_1 l0_1.length c0_1) := (blk_cell BK872.out 1).trans rfl; have hfz118_0 := blk_frozen BK872.out 0; have hfz118_1 := blk_frozen BK872.out 1) | ((with_reducible refine gate_callee (f := 14) rfl ?_); refine goesL_ (some 75) rfl rfl Try.func14 (by kernel_rfl) rfl #[.agg #[.slice A0_0 l0_0.length c0_0, .slice A0_1 l0_1.length c0_1]] rfl (by (try simp only [List.map_toArray, List.map_cons, List.map_nil]); first | done | rfl | (simp only [List.length_drop, List.length_take]; rfl)) ?_; (with_reducible refine (laws_toSurface.calls kj63 _ _ l0_0 _ _ l0_1 t919 t922 _ ?side1 ?side2 ?side3 ?side4 A106.out).mono ?_); (case side1 => repeat (first | exact (Kd.C_below HR0_0.out HB.out) | (with_reducible refine Kd.C_alloc ?_ _) | (with_reducible refine Kd.C_drewN ?_ _) | (with_reducible refine Kd.C_drew ?_))); (case side2 => exact HC0_0.out); (case side3 => repeat (first | exact (Kd.C_below HR0_1.out HB.out) | (with_reducible refine Kd.C_alloc ?_ _) | (with_reducible refine Kd.C_drewN ?_ _) | (with_reducible refine Kd.C_drew ?_))); (case side4 => exact HC0_1.out); rintro e w119 ⟨v920, v923, rfl, ho0, ho1, hb⟩; refine ⟨_, rfl, ?_⟩; have n0_ := Aside0.mk (Kd.R_mono (Kd.R_told (Kd.R_told (Kd.R_old (by (with_reducible repeat (first | apply Kd.R_alloc | apply Kd.R_drewN | apply Kd.R_drew)); exact HO_888000.out) hb) (Kd.R_base ho0)) (Kd.R_base ho1)) (fun _ h_ => h_.1)); have n1_ := Aside0.mk (Kd.R_mono (Kd.R_told (Kd.R_told (Kd.R_old (by (with_reducible repeat (first | apply Kd.R_alloc | apply Kd.R_drewN | apply Kd.R_drew)); exact HO_888001.out) hb) (Kd.R_base ho0)) (Kd.R_base ho1)) (fun _ h_ => h_.1)); have n2_ := Aside0.mk (Kd.R_mono (Kd.R_told (Kd.R_told (Kd.R_old (by (with_reducible repeat (first | apply Kd.R_alloc | apply Kd.R_drewN | apply Kd.R_drew)); exact HO_895000.out) hb) (Kd.R_base ho0)) (Kd.R_base ho1)) (fun _ h_ => h_.1)); have n3_ := Aside0.mk (Kd.R_mono (Kd.R_told (Kd.R_told (Kd.R_old (by (with_reducible repeat (first | apply Kd.R_alloc | apply Kd.R_drewN | apply Kd.R_drew)); exact HO_895001.out) hb) (Kd.R_base ho0)) (Kd.R_base ho1)) (fun _ h_ => h_.1)); have n4_ := Aside0.mk (Kd.R_mono (Kd.R_told (Kd.R_told (Kd.R_old (by (with_reducible repeat (first | apply Kd.R_alloc | apply Kd.R_drewN | apply Kd.R_drew)); exact HO_903000.out) hb) (Kd.R_base ho0)) (Kd.R_base ho1)) (fun _ h_ => h_.1)); have n5_ := Aside0.mk (Kd.R_mono (Kd.R_told (Kd.R_told (Kd.R_old (by (with_reducible repeat (first | apply Kd.R_alloc | apply Kd.R_drewN | apply Kd.R_drew)); exact HO_903001.out) hb) (Kd.R_base ho0)) (Kd.R_base ho1)) (fun _ h_ => h_.1)); have n6_ := Aside0.mk (Kd.R_lower (Kd.R_new' (Kd.R_new' (Kd.R_new' (Kd.R_new' (Kd.R_new' (Kd.R_new' ho0 (Kd.R_lt (by (with_reducible repeat (first | apply Kd.R_alloc | apply Kd.R_drewN | apply Kd.R_drew)); exact HO_888000.out))) (Kd.R_lt (by (with_reducible repeat (first | apply Kd.R_alloc | apply Kd.R_drewN | apply Kd.R_drew)); exact HO_888001.out))) (Kd.R_lt (by (with_reducible repeat (first | apply Kd.R_alloc | apply Kd.R_drewN | apply Kd.R_drew)); exact HO_895000.out))) (Kd.R_lt (by (with_reducible repeat (first | apply Kd.R_alloc | apply Kd.R_drewN | apply Kd.R_drew)); exact HO_895001.out))) (Kd.R_lt (by (with_reducible repeat (first | apply Kd.R_alloc | apply Kd.R_drewN | apply Kd.R_drew)); exact HO_903000.out))) (Kd.R_lt (by (with_reducible repeat (first | apply Kd.R_alloc | apply Kd.R_drewN | apply Kd.R_drew)); exact HO_903001.out))) (below_size (by repeat (first | (with_reducible first | exact HB.out | apply below_alloc | apply pw_below_drewN | apply below_drew1 | refine below_set ?_ GE872.out | refine below_set ?_ GE887.out | refine below_set ?_ GE894.out | refine below_set ?_ GE902.out) | exact HB.out)))); have n7_ := Aside0.mk (Kd.R_lower (Kd.R_new' (Kd.R_new' (Kd.R_new' (Kd.R_new' (Kd.R_new' (Kd.R_new' ho1 (Kd.R_lt (by (with_reducible repeat (first | apply Kd.R_alloc | apply Kd.R_drewN | apply Kd.R_drew)); exact HO_888000.out))) (Kd.R_lt (by (with_reducible repeat (first | apply Kd.R_alloc | apply Kd.R_drewN | apply Kd.R_drew)); exact HO_888001.out))) (Kd.R_lt (by (with_reducible repeat (first | apply Kd.R_alloc | apply Kd.R_drewN | apply Kd.R_drew)); exact HO_895000.out))) (Kd.R_lt (by (with_reducible repeat (first | apply Kd.R_alloc | apply Kd.R_drewN | apply Kd.R_drew)); exact HO_895001.out))) (Kd.R_lt (by (with_reducible repeat (first | apply Kd.R_alloc | apply Kd.R_drewN | apply Kd.R_drew)); exact HO_903000.out))) (Kd.R_lt (by (with_reducible repeat (first | apply Kd.R_alloc | apply Kd.R_drewN | apply Kd.R_drew)); exact HO_903001.out))) (below_size (by repeat (first | (with_reducible first | exact HB.out | apply below_alloc | apply pw_below_drewN | apply below_drew1 | refine below_set ?_ GE872.out | refine below_set ?_ GE887.out | refine below_set ?_ GE894.out | refine below_set ?_ GE902.out) | exact HB.out)))); have n8_ := Aside0.mk (blk_below (g := gb872) (o := .cells #[.slice A0_0 l0_0.length c0_0, .slice A0_1 l0_1.length c0_1] 24 (0, 0)) (by (with_reducible repeat (first | refine blk_drewN ?_ _ | refine blk_drew ?_ | refine blk_alloc ?_ _)); exact BK872.out) hb); have n9_ := Aside0.mk (blk_below (g := gb887) (o := .cells #[.slice Ao21 t880.length co21, .slice Ao24 t883.length co24] 27 (0, 0)) (by (with_reducible repeat (first | refine blk_drewN ?_ _ | refine blk_drew ?_ | refine blk_alloc ?_ _)); exact BK887.out) hb); have n10_ := Aside0.mk (blk_below (g := gb894) (o := .cells #[.slice Ao28 t912.length co28, .slice Ao32 t913.length co32] 27 (0, 0)) (by (with_reducible repeat (first | refine blk_drewN ?_ _ | refine blk_drew ?_ | refine blk_alloc ?_ _)); exact BK894.out) hb); have n11_ := Aside0.mk (blk_below (g := gb902) (o := .cells #[.slice Ao35 t895.length co35, .slice Ao40 t898.length co40] 27 (0, 0)) (by (with_reducible repeat (first | refine blk_drewN ?_ _ | refine blk_drew ?_ | refine blk_alloc ?_ _)); exact BK902.out) hb); have n12_ := Aside0.mk (below_step (by repeat (first | (with_reducible first | exact HB.out | apply below_alloc | apply pw_below_drewN | apply below_drew1 | refine below_set ?_ GE872.out | refine below_set ?_ GE887.out | refine below_set ?_ GE894.out | refine below_set ?_ GE902.out) | exact HB.out)) hb); clear HO_888000; clear HO_888001; clear HO_895000; clear HO_895001; clear HO_903000; clear HO_903001; clear BK872; clear BK887; clear BK894; clear BK902; clear HB; have HO_888000 := n0_; have HO_888001 := n1_; have HO_895000 := n2_; have HO_895001 := n3_; have HO_903000 := n4_; have HO_903001 := n5_; have HO921 := n6_; have HO924 := n7_; have BK872 := n8_; have BK887 := n9_; have BK894 := n10_; have BK902 := n11_; have HB := n12_; clear n0_ n1_ n2_ n3_ n4_ n5_ n6_ n7_ n8_ n9_ n10_ n11_ n12_; (try clear hb); (try clear hb2); (try clear hk); (try clear hi); (try clear ho0); (try clear ho1); obtain ⟨Ao120, co120, eo120⟩ := Kd.R_slice HO921.out; subst eo120; obtain ⟨Ao121, co121, eo121⟩ := Kd.R_slice HO924.out; subst eo121) | ((with_reducible refine gate_callee (f := 29) rfl ?_); refine goesL_ (some 76) rfl rfl Try.func29 (by kernel_rfl) rfl #[.agg #[.slice Ao120 t919.length co120, .slice Ao121 t922.length co121]] rfl (by (try simp only [List.map_toArray, List.map_cons, List.map_nil]); first | done | rfl | (simp only [List.length_drop, List.length_take]; rfl)) ?_; (with_reducible refine (impl_CanonOf.calls kj63 _ _ t919 _ _ t922 t925 t928 t931 _ ?side1 ?side2 ?side3 ?side4 A107.out).mono ?_); (case side1 => repeat (first | exact (Kd.R_reads' HO921.out).2.2 | (with_reducible refine Kd.C_alloc ?_ _) | (with_reducible refine Kd.C_drewN ?_ _) | (with_reducible refine Kd.C_drew ?_))); (case side2 => exact (Kd.R_reads' HO921.out).2.1); (case side3 => repeat (first | exact (Kd.R_reads' HO924.out).2.2 | (with_reducible refine Kd.C_alloc ?_ _) | (with_reducible refine Kd.C_drewN ?_ _) | (with_reducible refine Kd.C_drew ?_))); (case side4 => exact (Kd.R_reads' HO924.out).2.1); rintro e w122 ⟨v926, v929, rfl, ho0, ho1, hb⟩; refine ⟨_, rfl, ?_⟩; have n0_ := Aside0.mk (Kd.R_mono (Kd.R_told (Kd.R_told (Kd.R_old (by (with_reducible repeat (first | apply Kd.R_alloc | apply Kd.R_drewN | apply Kd.R_drew)); exact HO_888000.out) hb) (Kd.R_base ho0)) (Kd.R_base ho1)) (fun _ h_ => h_.1)); have n1_ := Aside0.mk (Kd.R_mono (Kd.R_told (Kd.R_told (Kd.R_old (by (with_reducible repeat (first | apply Kd.R_alloc | apply Kd.R_drewN | apply Kd.R_drew)); exact HO_888001.out) hb) (Kd.R_base ho0)) (Kd.R_base ho1)) (fun _ h_ => h_.1)); have n2_ := Aside0.mk (Kd.R_mono (Kd.R_told (Kd.R_told (Kd.R_old (by (with_reducible repeat (first | apply Kd.R_alloc | apply Kd.R_drewN | apply Kd.R_drew)); exact HO_895000.out) hb) (Kd.R_base ho0)) (Kd.R_base ho1)) (fun _ h_ => h_.1)); have n3_ := Aside0.mk (Kd.R_mono (Kd.R_told (Kd.R_told (Kd.R_old (by (with_reducible repeat (first | apply Kd.R_alloc | apply Kd.R_drewN | apply Kd.R_drew)); exact HO_895001.out) hb) (Kd.R_base ho0)) (Kd.R_base ho1)) (fun _ h_ => h_.1)); have n4_ := Aside0.mk (Kd.R_mono (Kd.R_told (Kd.R_told (Kd.R_old (by (with_reducible repeat (first | apply Kd.R_alloc | apply Kd.R_drewN | apply Kd.R_drew)); exact HO_903000.out) hb) (Kd.R_base ho0)) (Kd.R_base ho1)) (fun _ h_ => h_.1)); have n5_ := Aside0.mk (Kd.R_mono (Kd.R_told (Kd.R_told (Kd.R_old (by (with_reducible repeat (first | apply Kd.R_alloc | apply Kd.R_drewN | apply Kd.R_drew)); exact HO_903001.out) hb) (Kd.R_base ho0)) (Kd.R_base ho1)) (fun _ h_ => h_.1)); have n6_ := Aside0.mk (Kd.R_mono (Kd.R_told (Kd.R_told (Kd.R_old (by (with_reducible repeat (first | apply Kd.R_alloc | apply Kd.R_drewN | apply Kd.R_drew)); exact HO921.out) hb) (Kd.R_base ho0)) (Kd.R_base ho1)) (fun _ h_ => h_.1)); have n7_ := Aside0.mk (Kd.R_mono (Kd.R_told (Kd.R_told (Kd.R_old (by (with_reducible repeat (first | apply Kd.R_alloc | apply Kd.R_drewN | apply Kd.R_drew)); exact HO924.out) hb) (Kd.R_base ho0)) (Kd.R_base ho1)) (fun _ h_ => h_.1)); have n8_ := Aside0.mk (Kd.R_lower (Kd.R_new' (Kd.R_new' (Kd.R_new' (Kd.R_new' (Kd.R_new' (Kd.R_new' (Kd.R_new' (Kd.R_new' ho0 (Kd.R_lt (by (with_reducible repeat (first | apply Kd.R_alloc | apply Kd.R_drewN | apply Kd.R_drew)); exact HO_888000.out))) (Kd.R_lt (by (with_reducible repeat (first | apply Kd.R_alloc | apply Kd.R_drewN | apply Kd.R_drew)); exact HO_888001.out))) (Kd.R_lt (by (with_reducible repeat (first | apply Kd.R_alloc | apply Kd.R_drewN | apply Kd.R_drew)); exact HO_895000.out))) (Kd.R_lt (by (with_reducible repeat (first | apply Kd.R_alloc | apply Kd.R_drewN | apply Kd.R_drew)); exact HO_895001.out))) (Kd.R_lt (by (with_reducible repeat (first | apply Kd.R_alloc | apply Kd.R_drewN | apply Kd.R_drew)); exact HO_903000.out))) (Kd.R_lt (by (with_reducible repeat (first | apply Kd.R_alloc | apply Kd.R_drewN | apply Kd.R_drew)); exact HO_903001.out))) (Kd.R_lt (by (with_reducible repeat (first | apply Kd.R_alloc | apply Kd.R_drewN | apply Kd.R_drew)); exact HO921.out))) (Kd.R_lt (by (with_reducible repeat (first | apply Kd.R_alloc | apply Kd.R_drewN | apply Kd.R_drew)); exact HO924.out))) (below_size (by repeat (first | (with_reducible first | exact HB.out | apply below_alloc | apply pw_below_drewN | apply below_drew1 | refine below_set ?_ GE872.out | refine below_set ?_ GE887.out | refine below_set ?_ GE894.out | refine below_set ?_ GE902.out) | exact HB.out)))); have n9_ := Aside0.mk (Kd.R_lower (Kd.R_new' (Kd.R_new' (Kd.R_new' (Kd.R_new' (Kd.R_new' (Kd.R_new' (Kd.R_new' (Kd.R_new' ho1 (Kd.R_lt (by (with_reducible repeat (first | apply Kd.R_alloc | apply Kd.R_drewN | apply Kd.R_drew)); exact HO_888000.out))) (Kd.R_lt (by (with_reducible repeat (first | apply Kd.R_alloc | apply Kd.R_drewN | apply Kd.R_drew)); exact HO_888001.out))) (Kd.R_lt (by (with_reducible repeat (first | apply Kd.R_alloc | apply Kd.R_drewN | apply Kd.R_drew)); exact HO_895000.out))) (Kd.R_lt (by (with_reducible repeat (first | apply Kd.R_alloc | apply Kd.R_drewN | apply Kd.R_drew)); exact HO_895001.out))) (Kd.R_lt (by (with_reducible repeat (first | apply Kd.R_alloc | apply Kd.R_drewN | apply Kd.R_drew)); exact HO_903000.out))) (Kd.R_lt (by (with_reducible repeat (first | apply Kd.R_alloc | apply Kd.R_drewN | apply Kd.R_drew)); exact HO_903001.out))) (Kd.R_lt (by (with_reducible repeat (first | apply Kd.R_alloc | apply Kd.R_drewN | apply Kd.R_drew)); exact HO921.out))) (Kd.R_lt (by (with_reducible repeat (first | apply Kd.R_alloc | apply Kd.R_drewN | apply Kd.R_drew)); exact HO924.out))) (below_size (by repeat (first | (with_reducible first | exact HB.out | apply below_alloc | apply pw_below_drewN | apply below_drew1 | refine below_set ?_ GE872.out | refine below_set ?_ GE887.out | refine below_set ?_ GE894.out | refine below_set ?_ GE902.out) | exact HB.out)))); have n10_ := Aside0.mk (blk_below (g := gb872) (o := .cells #[.slice A0_0 l0_0.length c0_0, .slice A0_1 l0_1.length c0_1] 24 (0, 0)) (by (with_reducible repeat (first | refine blk_drewN ?_ _ | refine blk_drew ?_ | refine blk_alloc ?_ _)); exact BK872.out) hb); have n11_ := Aside0.mk (blk_below (g := gb887) (o := .cells #[.slice Ao21 t880.length co21, .slice Ao24 t883.length co24] 27 (0, 0)) (by (with_reducible repeat (first | refine blk_drewN ?_ _ | refine blk_drew ?_ | refine blk_alloc ?_ _)); exact BK887.out) hb); have n12_ := Aside0.mk (blk_below (g := gb894) (o := .cells #[.slice Ao28 t912.length co28, .slice Ao32 t913.length co32] 27 (0, 0)) (by (with_reducible repeat (first | refine blk_drewN ?_ _ | refine blk_drew ?_ | refine blk_alloc ?_ _)); exact BK894.out) hb); have n13_ := Aside0.mk (blk_below (g := gb902) (o := .cells #[.slice Ao35 t895.length co35, .slice Ao40 t898.length co40] 27 (0, 0)) (by (with_reducible repeat (first | refine blk_drewN ?_ _ | refine blk_drew ?_ | refine blk_alloc ?_ _)); exact BK902.out) hb); have n14_ := Aside0.mk (below_step (by repeat (first | (with_reducible first | exact HB.out | apply below_alloc | apply pw_below_drewN | apply below_drew1 | refine below_set ?_ GE872.out | refine below_set ?_ GE887.out | refine below_set ?_ GE894.out | refine below_set ?_ GE902.out) | exact HB.out)) hb); clear HO_888000; clear HO_888001; clear HO_895000; clear HO_895001; clear HO_903000; clear HO_903001; clear HO921; clear HO924; clear BK872; clear BK887; clear BK894; clear BK902; clear HB; have HO_888000 := n0_; have HO_888001 := n1_; have HO_895000 := n2_; have HO_895001 := n3_; have HO_903000 := n4_; have HO_903001 := n5_; have HO921 := n6_; have HO924 := n7_; have HO927 := n8_; have HO930 := n9_; have BK872 := n10_; have BK887 := n11_; have BK894 := n12_; have BK902 := n13_; have HB := n14_; clear n0_ n1_ n2_ n3_ n4_ n5_ n6_ n7_ n8_ n9_ n10_ n11_ n12_ n13_ n14_; (try clear hb); (try clear hb2); (try clear hk); (try clear hi); (try clear ho0); (try clear ho1)) | ((with_reducible refine gate_dst (N := 12) rfl ?_); refine box_event ?hg (N := 12) ?hd (cs := #[.slice none 0 0, .slice none 0 0]) (t := 27) ?hr ?_; (case hd => rfl); (case hg => rfl); (case hr => first | (go_simp; done) | (go_simp; rfl)); intro gb932 hg w123 hbox hb; have n0_ := Aside0.mk (Kd.R_below (by (with_reducible repeat (first | apply Kd.R_alloc | apply Kd.R_drewN | apply Kd.R_drew)); exact HO_888000.out) hb); have n1_ := Aside0.mk (Kd.R_below (by (with_reducible repeat (first | apply Kd.R_alloc | apply Kd.R_drewN | apply Kd.R_drew)); exact HO_888001.out) hb); have n2_ := Aside0.mk (Kd.R_below (by (with_reducible repeat (first | apply Kd.R_alloc | apply Kd.R_drewN | apply Kd.R_drew)); exact HO_895000.out) hb); have n3_ := Aside0.mk (Kd.R_below (by (with_reducible repeat (first | apply Kd.R_alloc | apply Kd.R_drewN | apply Kd.R_drew)); exact HO_895001.out) hb); have n4_ := Aside0.mk (Kd.R_below (by (with_reducible repeat (first | apply Kd.R_alloc | apply Kd.R_drewN | apply Kd.R_drew)); exact HO_903000.out) hb); have n5_ := Aside0.mk (Kd.R_below (by (with_reducible repeat (first | apply Kd.R_alloc | apply Kd.R_drewN | apply Kd.R_drew)); exact HO_903001.out) hb); have n6_ := Aside0.mk (Kd.R_below (by (with_reducible repeat (first | apply Kd.R_alloc | apply Kd.R_drewN | apply Kd.R_drew)); exact HO921.out) hb); have n7_ := Aside0.mk (Kd.R_below (by (with_reducible repeat (first | apply Kd.R_alloc | apply Kd.R_drewN | apply Kd.R_drew)); exact HO924.out) hb); have n8_ := Aside0.mk (Kd.R_below (by (with_reducible repeat (first | apply Kd.R_alloc | apply Kd.R_drewN | apply Kd.R_drew)); exact HO927.out) hb); have n9_ := Aside0.mk (Kd.R_below (by (with_reducible repeat (first | apply Kd.R_alloc | apply Kd.R_drewN | apply Kd.R_drew)); exact HO930.out) hb); have n10_ := Aside0.mk (blk_below (g := gb872) (o := .cells #[.slice A0_0 l0_0.length c0_0, .slice A0_1 l0_1.length c0_1] 24 (0, 0)) (by (with_reducible repeat (first | refine blk_drewN ?_ _ | refine blk_drew ?_ | refine blk_alloc ?_ _)); exact BK872.out) hb); have n11_ := Aside0.mk (blk_below (g := gb887) (o := .cells #[.slice Ao21 t880.length co21, .slice Ao24 t883.length co24] 27 (0, 0)) (by (with_reducible repeat (first | refine blk_drewN ?_ _ | refine blk_drew ?_ | refine blk_alloc ?_ _)); exact BK887.out) hb); have n12_ := Aside0.mk (blk_below (g := gb894) (o := .cells #[.slice Ao28 t912.length co28, .slice Ao32 t913.length co32] 27 (0, 0)) (by (with_reducible repeat (first | refine blk_drewN ?_ _ | refine blk_drew ?_ | refine blk_alloc ?_ _)); exact BK894.out) hb); have n13_ := Aside0.mk (blk_below (g := gb902) (o := .cells #[.slice Ao35 t895.length co35, .slice Ao40 t898.length co40] 27 (0, 0)) (by (with_reducible repeat (first | refine blk_drewN ?_ _ | refine blk_drew ?_ | refine blk_alloc ?_ _)); exact BK902.out) hb); have n14_ := Aside0.mk (below_step (by repeat (first | (with_reducible first | exact HB.out | apply below_alloc | apply pw_below_drewN | apply below_drew1 | refine below_set ?_ GE872.out | refine below_set ?_ GE887.out | refine below_set ?_ GE894.out | refine below_set ?_ GE902.out) | exact HB.out)) hb); have n15_ := Aside0.mk (hbox); have n16_ := Aside0.mk ((by rw [hg]; exact (below_size (by repeat (first | (with_reducible first | exact HB.out | apply below_alloc | apply pw_below_drewN | apply below_drew1 | refine below_set ?_ GE872.out | refine below_set ?_ GE887.out | refine below_set ?_ GE894.out | refine below_set ?_ GE902.out) | exact HB.out))) : w.heap.size ≤ gb932)); have n17_ := Aside0.mk ((by rw [hg]; exact (below_size (by repeat (first | (with_reducible first | exact HB.out | apply below_alloc | apply pw_below_drewN | apply below_drew1 | refine below_set ?_ GE872.out | refine below_set ?_ GE887.out | refine below_set ?_ GE894.out | refine below_set ?_ GE902.out) | exact HB.out))) : w.heap.size ≤ gb932)); have n18_ := Aside0.mk ((by rw [hg]; exact Nat.ne_of_lt (blk_lt (g := gb872) (o := .cells #[.slice A0_0 l0_0.length c0_0, .slice A0_1 l0_1.length c0_1] 24 (0, 0)) (by (with_reducible repeat (first | refine blk_drewN ?_ _ | refine blk_drew ?_ | refine blk_alloc ?_ _)); exact BK872.out)) : gb872 ≠ gb932)); have n19_ := Aside0.mk ((by rw [hg]; exact Nat.ne_of_gt (blk_lt (g := gb872) (o := .cells #[.slice A0_0 l0_0.length c0_0, .slice A0_1 l0_1.length c0_1] 24 (0, 0)) (by (with_reducible repeat (first | refine blk_drewN ?_ _ | refine blk_drew ?_ | refine blk_alloc ?_ _)); exact BK872.out)) : gb932 ≠ gb872)); have n20_ := Aside0.mk ((by rw [hg]; exact Nat.ne_of_lt (blk_lt (g := gb887) (o := .cells #[.slice Ao21 t880.length co21, .slice Ao24 t883.length co24] 27 (0, 0)) (by (with_reducible repeat (first | refine blk_drewN ?_ _ | refine blk_drew ?_ | refine blk_alloc ?_ _)); exact BK887.out)) : gb887 ≠ gb932)); have n21_ := Aside0.mk ((by rw [hg]; exact Nat.ne_of_gt (blk_lt (g := gb887) (o := .cells #[.slice Ao21 t880.length co21, .slice Ao24 t883.length co24] 27 (0, 0)) (by (with_reducible repeat (first | refine blk_drewN ?_ _ | refine blk_drew ?_ | refine blk_alloc ?_ _)); exact BK887.out)) : gb932 ≠ gb887)); have n22_ := Aside0.mk ((by rw [hg]; exact Nat.ne_of_lt (blk_lt (g := gb894) (o := .cells #[.slice Ao28 t912.length co28, .slice Ao32 t913.length co32] 27 (0, 0)) (by (with_reducible repeat (first | refine blk_drewN ?_ _ | refine blk_drew ?_ | refine blk_alloc ?_ _)); exact BK894.out)) : gb894 ≠ gb932)); have n23_ := Aside0.mk ((by rw [hg]; exact Nat.ne_of_gt (blk_lt (g := gb894) (o := .cells #[.slice Ao28 t912.length co28, .slice Ao32 t913.length co32] 27 (0, 0)) (by (with_reducible repeat (first | refine blk_drewN ?_ _ | refine blk_drew ?_ | refine blk_alloc ?_ _)); exact BK894.out)) : gb932 ≠ gb894)); have n24_ := Aside0.mk ((by rw [hg]; exact Nat.ne_of_lt (blk_lt (g := gb902) (o := .cells #[.slice Ao35 t895.length co35, .slice Ao40 t898.length co40] 27 (0, 0)) (by (with_reducible repeat (first | refine blk_drewN ?_ _ | refine blk_drew ?_ | refine blk_alloc ?_ _)); exact BK902.out)) : gb902 ≠ gb932)); have n25_ := Aside0.mk ((by rw [hg]; exact Nat.ne_of_gt (blk_lt (g := gb902) (o := .cells #[.slice Ao35 t895.length co35, .slice Ao40 t898.length co40] 27 (0, 0)) (by (with_reducible repeat (first | refine blk_drewN ?_ _ | refine blk_drew ?_ | refine blk_alloc ?_ _)); exact BK902.out)) : gb932 ≠ gb902)); clear HO_888000; clear HO_888001; clear HO_895000; clear HO_895001; clear HO_903000; clear HO_903001; clear HO921; clear HO924; clear HO927; clear HO930; clear BK872; clear BK887; clear BK894; clear BK902; clear HB; have HO_888000 := n0_; have HO_888001 := n1_; have HO_895000 := n2_; have HO_895001 := n3_; have HO_903000 := n4_; have HO_903001 := n5_; have HO921 := n6_; have HO924 := n7_; have HO927 := n8_; have HO930 := n9_; have BK872 := n10_; have BK887 := n11_; have BK894 := n12_; have BK902 := n13_; have HB := n14_; have BK932 := n15_; have GW932 := n16_; have GE932 := n17_; have NB872_932 := n18_; have NB932_872 := n19_; have NB887_932 := n20_; have NB932_887 := n21_; have NB894_932 := n22_; have NB932_894 := n23_; have NB902_932 := n24_; have NB932_902 := n25_; clear n0_ n1_ n2_ n3_ n4_ n5_ n6_ n7_ n8_ n9_ n10_ n11_ n12_ n13_ n14_ n15_ n16_ n17_ n18_ n19_ n20_ n21_ n22_ n23_ n24_ n25_; clear hb hbox hg; obtain ⟨Ao124, co124, eo124⟩ := Kd.R_slice HO927.out; subst eo124; have hnb125 := NB932_872.out; have hnc125 := NB872_932.out; have hnb126 := NB932_887.out; have hnc126 := NB887_932.out; have hnb127 := NB932_894.out; have hnc127 := NB894_932.out; have hnb128 := NB932_902.out; have hnc128 := NB902_932.out; have hcz129_0 : w123.cell? ⟨gb932, 0, none⟩ = some (.slice none 0 0) := (blk_cell BK932.out 0).trans rfl; have hcz129_1 : w123.cell? ⟨gb932, 1, none⟩ = some (.slice none 0 0) := (blk_cell BK932.out 1).trans rfl; have hfz129_0 := blk_frozen BK932.out 0; have hfz129_1 := blk_frozen BK932.out 1; obtain ⟨Ao130, co130, eo130⟩ := Kd.R_slice HO930.out; subst eo130))
           (try simp only [Act.put, List.setIfInBounds_toArray, List.set_cons_zero, List.set_cons_succ])
           go_cut [87] (fun v87 wc => ∃ (kq : Nat) (x87_107 : Bool), v87 = .bool x87_107 ∧ Aside0 (laws_FnExactCanonOf.j2 kq t915 x87_107 t916 t917 = some true) ∧ Aside0 (kq ≤ kj63) ∧ Aside0 (Kd.R (Kd.int .i64) 3 wc w.heap.size (fun k_ => some k_ ≠ ((.slice Ao24 t883.length co24) : Value).ownBlock ∧ some k_ ≠ ((.slice Ao28 t912.length co28) : Value).ownBlock ∧ some k_ ≠ ((.slice Ao32 t913.length co32) : Value).ownBlock ∧ some k_ ≠ ((.slice Ao35 t895.length co35) : Value).ownBlock ∧ some k_ ≠ ((.slice Ao40 t898.length co40) : Value).ownBlock ∧ some k_ ≠ ((.slice Ao124 t925.length co124) : Value).ownBlock ∧ some k_ ≠ ((.slice Ao130 t928.length co130) : Value).ownBlock) (.slice Ao21 t880.length co21) t880) ∧ Aside0 (Kd.R (Kd.int .i64) 3 wc w.heap.size (fun k_ => some k_ ≠ ((.slice Ao21 t880.length co21) : Value).ownBlock ∧ some k_ ≠ ((.slice Ao28 t912.length co28) : Value).ownBlock ∧ some k_ ≠ ((.slice Ao32 t913.length co32) : Value).ownBlock ∧ some k_ ≠ ((.slice Ao35 t895.length co35) : Value).ownBlock ∧ some k_ ≠ ((.slice Ao40 t898.length co40) : Value).ownBlock ∧ some k_ ≠ ((.slice Ao124 t925.length co124) : Value).ownBlock ∧ some k_ ≠ ((.slice Ao130 t928.length co130) : Value).ownBlock) (.slice Ao24 t883.length co24) t883) ∧ Aside0 (Kd.R (Kd.int .i64) 3 wc w.heap.size (fun k_ => some k_ ≠ ((.slice Ao21 t880.length co21) : Value).ownBlock ∧ some k_ ≠ ((.slice Ao24 t883.length co24) : Value).ownBlock ∧ some k_ ≠ ((.slice Ao32 t913.length co32) : Value).ownBlock ∧ some k_ ≠ ((.slice Ao35 t895.length co35) : Value).ownBlock ∧ some k_ ≠ ((.slice Ao40 t898.length co40) : Value).ownBlock ∧ some k_ ≠ ((.slice Ao124 t925.length co124) : Value).ownBlock ∧ some k_ ≠ ((.slice Ao130 t928.length co130) : Value).ownBlock) (.slice Ao28 t912.length co28) t912) ∧ Aside0 (Kd.R (Kd.int .i64) 3 wc w.heap.size (fun k_ => some k_ ≠ ((.slice Ao21 t880.length co21) : Value).ownBlock ∧ some k_ ≠ ((.slice Ao24 t883.length co24) : Value).ownBlock ∧ some k_ ≠ ((.slice Ao28 t912.length co28) : Value).ownBlock ∧ some k_ ≠ ((.slice Ao35 t895.length co35) : Value).ownBlock ∧ some k_ ≠ ((.slice Ao40 t898.length co40) : Value).ownBlock ∧ some k_ ≠ ((.slice Ao124 t925.length co124) : Value).ownBlock ∧ some k_ ≠ ((.slice Ao130 t928.length co130) : Value).ownBlock) (.slice Ao32 t913.length co32) t913) ∧ Aside0 (Kd.R (Kd.int .i64) 3 wc w.heap.size (fun k_ => some k_ ≠ ((.slice Ao21 t880.length co21) : Value).ownBlock ∧ some k_ ≠ ((.slice Ao24 t883.length co24) : Value).ownBlock ∧ some k_ ≠ ((.slice Ao28 t912.length co28) : Value).ownBlock ∧ some k_ ≠ ((.slice Ao32 t913.length co32) : Value).ownBlock ∧ some k_ ≠ ((.slice Ao40 t898.length co40) : Value).ownBlock ∧ some k_ ≠ ((.slice Ao124 t925.length co124) : Value).ownBlock ∧ some k_ ≠ ((.slice Ao130 t928.length co130) : Value).ownBlock) (.slice Ao35 t895.length co35) t916) ∧ Aside0 (Kd.R (Kd.int .i64) 3 wc w.heap.size (fun k_ => some k_ ≠ ((.slice Ao21 t880.length co21) : Value).ownBlock ∧ some k_ ≠ ((.slice Ao24 t883.length co24) : Value).ownBlock ∧ some k_ ≠ ((.slice Ao28 t912.length co28) : Value).ownBlock ∧ some k_ ≠ ((.slice Ao32 t913.length co32) : Value).ownBlock ∧ some k_ ≠ ((.slice Ao35 t895.length co35) : Value).ownBlock ∧ some k_ ≠ ((.slice Ao124 t925.length co124) : Value).ownBlock ∧ some k_ ≠ ((.slice Ao130 t928.length co130) : Value).ownBlock) (.slice Ao40 t898.length co40) t917) ∧ Aside0 (Kd.R (Kd.int .i64) 3 wc w.heap.size (fun k_ => some k_ ≠ ((.slice Ao21 t880.length co21) : Value).ownBlock ∧ some k_ ≠ ((.slice Ao24 t883.length co24) : Value).ownBlock ∧ some k_ ≠ ((.slice Ao28 t912.length co28) : Value).ownBlock ∧ some k_ ≠ ((.slice Ao32 t913.length co32) : Value).ownBlock ∧ some k_ ≠ ((.slice Ao35 t895.length co35) : Value).ownBlock ∧ some k_ ≠ ((.slice Ao40 t898.length co40) : Value).ownBlock ∧ some k_ ≠ ((.slice Ao130 t928.length co130) : Value).ownBlock) (.slice Ao124 t925.length co124) t925) ∧ Aside0 (Kd.R (Kd.int .i64) 3 wc w.heap.size (fun k_ => some k_ ≠ ((.slice Ao21 t880.length co21) : Value).ownBlock ∧ some k_ ≠ ((.slice Ao24 t883.length co24) : Value).ownBlock ∧ some k_ ≠ ((.slice Ao28 t912.length co28) : Value).ownBlock ∧ some k_ ≠ ((.slice Ao32 t913.length co32) : Value).ownBlock ∧ some k_ ≠ ((.slice Ao35 t895.length co35) : Value).ownBlock ∧ some k_ ≠ ((.slice Ao40 t898.length co40) : Value).ownBlock ∧ some k_ ≠ ((.slice Ao124 t925.length co124) : Value).ownBlock) (.slice Ao130 t928.length co130) t928) ∧ Aside0 (wc.heap[gb872]? = some (.cells #[(.slice A0_0 l0_0.length c0_0), (.slice A0_1 l0_1.length c0_1)] 24 (0, 0))) ∧ Aside0 (wc.heap[gb887]? = some (.cells #[(.slice Ao21 t880.length co21), (.slice Ao24 t883.length co24)] 27 (0, 0))) ∧ Aside0 (wc.heap[gb894]? = some (.cells #[(.slice Ao28 t912.length co28), (.slice Ao32 t913.length co32)] 27 (0, 0))) ∧ Aside0 (wc.heap[gb902]? = some (.cells #[(.slice Ao35 t895.length co35), (.slice Ao40 t898.length co40)] 27 (0, 0))) ∧ Aside0 (wc.heap[gb932]? = some (.cells #[(.slice Ao124 t925.length co124), (.slice Ao130 t928.length co130)] 27 (0, 0))) ∧ Aside0 (Below w.heap.size w wc))
           case first =>
            have H := HC108.out
            clear HC108
            replace H := Option.bind_eq_some_iff.mp H
            obtain ⟨t933, A1310, H⟩ := H
            replace H : (if t933 = true then (laws_FnExactCanonOf.j2 kj63 t915 (t931 != t886) t916 t917) else (laws_FnExactCanonOf.j2 kj63 t915 true t916 t917)) = some true := H
            have A131 := Aside0.mk A1310
            clear A1310
            by_cases c132 : t933 = true
            ·subst c132
             have H1 : (laws_FnExactCanonOf.j2 kj63 t915 (t931 != t886) t916 t917) = some true := by rw [if_pos rfl] at H; exact H
             clear H
             have H := H1
             clear H1
             have H' := Aside0.mk H
             clear H
             have hnb133 := NB932_872.out
             have hnc133 := NB872_932.out
             have hnb134 := NB932_887.out
             have hnc134 := NB887_932.out
             have hnb135 := NB932_894.out
             have hnc135 := NB894_932.out
             have hnb136 := NB932_902.out
             have hnc136 := NB902_932.out
             have hcz137_0 : w123.cell? ⟨gb932, 0, none⟩ = some (.slice none 0 0) := (blk_cell BK932.out 0).trans rfl
             have hcz137_1 : w123.cell? ⟨gb932, 1, none⟩ = some (.slice none 0 0) := (blk_cell BK932.out 1).trans rfl
             have hfz137_0 := blk_frozen BK932.out 0
             have hfz137_1 := blk_frozen BK932.out 1
             have hnb138 := NB887_872.out
             have hnc138 := NB872_887.out
             have hnb139 := NB887_894.out
             have hnc139 := NB894_887.out
             have hnb140 := NB887_902.out
             have hnc140 := NB902_887.out
             have hcz141_0 : w123.cell? ⟨gb887, 0, none⟩ = some (.slice Ao21 t880.length co21) := (blk_cell BK887.out 0).trans rfl
             have hcz141_1 : w123.cell? ⟨gb887, 1, none⟩ = some (.slice Ao24 t883.length co24) := (blk_cell BK887.out 1).trans rfl
             have hfz141_0 := blk_frozen BK887.out 0
             have hfz141_1 := blk_frozen BK887.out 1
             go_wp2_with (first | ((with_reducible refine gate_callee (f := 16) rfl ?_); refine goesL_ (some 81) rfl rfl Try.func16 (by kernel_rfl) rfl #[.agg #[.slice Ao124 t925.length co124, .slice Ao130 t928.length co130], .agg #[.slice Ao21 t880.length co21, .slice Ao24 t883.length co24]] rfl (by (try simp only [List.map_toArray, List.map_cons, List.map_nil]); first | done | rfl | (simp only [List.length_drop, List.length_take]; rfl)) ?_; (with_reducible refine (laws_eqSurface.calls kj63 _ _ t925 _ _ t928 _ _ t880 _ _ t883 true _ ?side1 ?side2 ?side3 ?side4 ?side5 ?side6 ?side7 ?side8 A131.out).mono ?_); (case side1 => refine (Kd.R_reads' (e := 3) (base := w.heap.size) (ok := fun k_ => ((((((((some k_ ≠ (.slice Ao130 t928.length co130 : Value).ownBlock ∧ some k_ ≠ (.slice Ao21 t880.length co21 : Value).ownBlock) ∧ some k_ ≠ (.slice Ao24 t883.length co24 : Value).ownBlock) ∧ some k_ ≠ (.slice Ao28 t912.length co28 : Value).ownBlock) ∧ some k_ ≠ (.slice Ao32 t913.length co32 : Value).ownBlock) ∧ some k_ ≠ (.slice Ao35 t895.length co35 : Value).ownBlock) ∧ some k_ ≠ (.slice Ao40 t898.length co40 : Value).ownBlock) ∧ some k_ ≠ (.slice Ao120 t919.length co120 : Value).ownBlock) ∧ some k_ ≠ (.slice Ao121 t922.length co121 : Value).ownBlock)) (n := t925.length) (c := co124) ?_).2.2; exact (by (with_reducible repeat (first | apply Kd.R_alloc | apply Kd.R_drewN | apply Kd.R_drew)); exact (Kd.R_mono (Kd.R_far (p := ⟨gb932, 1, none⟩) (Kd.R_far (p := ⟨gb932, 0, none⟩) (Kd.R_types HO927.out BK932.out (by decide)) (fun _ hk => hk.2) (.slice Ao124 t925.length co124)) (fun _ hk => hk.2) (.slice Ao130 t928.length co130)) (fun _ h_ => h_.1)))); (case side2 => exact (Kd.R_reads' HO927.out).2.1); (case side3 => refine (Kd.R_reads' (e := 3) (base := w.heap.size) (ok := fun k_ => ((((((((some k_ ≠ (.slice Ao124 t925.length co124 : Value).ownBlock ∧ some k_ ≠ (.slice Ao21 t880.length co21 : Value).ownBlock) ∧ some k_ ≠ (.slice Ao24 t883.length co24 : Value).ownBlock) ∧ some k_ ≠ (.slice Ao28 t912.length co28 : Value).ownBlock) ∧ some k_ ≠ (.slice Ao32 t913.length co32 : Value).ownBlock) ∧ some k_ ≠ (.slice Ao35 t895.length co35 : Value).ownBlock) ∧ some k_ ≠ (.slice Ao40 t898.length co40 : Value).ownBlock) ∧ some k_ ≠ (.slice Ao120 t919.length co120 : Value).ownBlock) ∧ some k_ ≠ (.slice Ao121 t922.length co121 : Value).ownBlock)) (n := t928.length) (c := co130) ?_).2.2; exact (by (with_reducible repeat (first | apply Kd.R_alloc | apply Kd.R_drewN | apply Kd.R_drew)); exact (Kd.R_mono (Kd.R_far (p := ⟨gb932, 1, none⟩) (Kd.R_far (p := ⟨gb932, 0, none⟩) (Kd.R_types HO930.out BK932.out (by decide)) (fun _ hk => hk.2) (.slice Ao124 t925.length co124)) (fun _ hk => hk.2) (.slice Ao130 t928.length co130)) (fun _ h_ => h_.1)))); (case side4 => exact (Kd.R_reads' HO930.out).2.1); (case side5 => refine (Kd.R_reads' (e := 3) (base := w.heap.size) (ok := fun k_ => (((((some k_ ≠ (.slice Ao24 t883.length co24 : Value).ownBlock ∧ (some k_ ≠ (.slice Ao28 t912.length co28 : Value).ownBlock ∧ (some k_ ≠ (.slice Ao32 t913.length co32 : Value).ownBlock ∧ (some k_ ≠ (.slice Ao35 t895.length co35 : Value).ownBlock ∧ some k_ ≠ (.slice Ao40 t898.length co40 : Value).ownBlock)))) ∧ some k_ ≠ (.slice Ao120 t919.length co120 : Value).ownBlock) ∧ some k_ ≠ (.slice Ao121 t922.length co121 : Value).ownBlock) ∧ some k_ ≠ (.slice Ao124 t925.length co124 : Value).ownBlock) ∧ some k_ ≠ (.slice Ao130 t928.length co130 : Value).ownBlock)) (n := t880.length) (c := co21) ?_).2.2; exact (by (with_reducible repeat (first | apply Kd.R_alloc | apply Kd.R_drewN | apply Kd.R_drew)); exact (Kd.R_mono (Kd.R_far (p := ⟨gb932, 1, none⟩) (Kd.R_far (p := ⟨gb932, 0, none⟩) (Kd.R_types HO_888000.out BK932.out (by decide)) (fun _ hk => hk.2) (.slice Ao124 t925.length co124)) (fun _ hk => hk.2) (.slice Ao130 t928.length co130)) (fun _ h_ => h_.1)))); (case side6 => exact (Kd.R_reads' HO_888000.out).2.1); (case side7 => refine (Kd.R_reads' (e := 3) (base := w.heap.size) (ok := fun k_ => (((((some k_ ≠ (.slice Ao21 t880.length co21 : Value).ownBlock ∧ (some k_ ≠ (.slice Ao28 t912.length co28 : Value).ownBlock ∧ (some k_ ≠ (.slice Ao32 t913.length co32 : Value).ownBlock ∧ (some k_ ≠ (.slice Ao35 t895.length co35 : Value).ownBlock ∧ some k_ ≠ (.slice Ao40 t898.length co40 : Value).ownBlock)))) ∧ some k_ ≠ (.slice Ao120 t919.length co120 : Value).ownBlock) ∧ some k_ ≠ (.slice Ao121 t922.length co121 : Value).ownBlock) ∧ some k_ ≠ (.slice Ao124 t925.length co124 : Value).ownBlock) ∧ some k_ ≠ (.slice Ao130 t928.length co130 : Value).ownBlock)) (n := t883.length) (c := co24) ?_).2.2; exact (by (with_reducible repeat (first | apply Kd.R_alloc | apply Kd.R_drewN | apply Kd.R_drew)); exact (Kd.R_mono (Kd.R_far (p := ⟨gb932, 1, none⟩) (Kd.R_far (p := ⟨gb932, 0, none⟩) (Kd.R_types HO_888001.out BK932.out (by decide)) (fun _ hk => hk.2) (.slice Ao124 t925.length co124)) (fun _ hk => hk.2) (.slice Ao130 t928.length co130)) (fun _ h_ => h_.1)))); (case side8 => exact (Kd.R_reads' HO_888001.out).2.1); rintro e w142 ⟨rfl, hb⟩; refine ⟨_, rfl, ?_⟩; have n0_ := Aside0.mk (Kd.R_below (by (with_reducible repeat (first | apply Kd.R_alloc | apply Kd.R_drewN | apply Kd.R_drew)); exact (Kd.R_mono (Kd.R_far (p := ⟨gb932, 1, none⟩) (Kd.R_far (p := ⟨gb932, 0, none⟩) (Kd.R_types HO_888000.out BK932.out (by decide)) (fun _ hk => hk.2) (.slice Ao124 t925.length co124)) (fun _ hk => hk.2) (.slice Ao130 t928.length co130)) (fun _ h_ => h_.1))) hb); have n1_ := Aside0.mk (Kd.R_below (by (with_reducible repeat (first | apply Kd.R_alloc | apply Kd.R_drewN | apply Kd.R_drew)); exact (Kd.R_mono (Kd.R_far (p := ⟨gb932, 1, none⟩) (Kd.R_far (p := ⟨gb932, 0, none⟩) (Kd.R_types HO_888001.out BK932.out (by decide)) (fun _ hk => hk.2) (.slice Ao124 t925.length co124)) (fun _ hk => hk.2) (.slice Ao130 t928.length co130)) (fun _ h_ => h_.1))) hb); have n2_ := Aside0.mk (Kd.R_below (by (with_reducible repeat (first | apply Kd.R_alloc | apply Kd.R_drewN | apply Kd.R_drew)); exact (Kd.R_mono (Kd.R_far (p := ⟨gb932, 1, none⟩) (Kd.R_far (p := ⟨gb932, 0, none⟩) (Kd.R_types HO_895000.out BK932.out (by decide)) (fun _ hk => hk.2) (.slice Ao124 t925.length co124)) (fun _ hk => hk.2) (.slice Ao130 t928.length co130)) (fun _ h_ => h_.1))) hb); have n3_ := Aside0.mk (Kd.R_below (by (with_reducible repeat (first | apply Kd.R_alloc | apply Kd.R_drewN | apply Kd.R_drew)); exact (Kd.R_mono (Kd.R_far (p := ⟨gb932, 1, none⟩) (Kd.R_far (p := ⟨gb932, 0, none⟩) (Kd.R_types HO_895001.out BK932.out (by decide)) (fun _ hk => hk.2) (.slice Ao124 t925.length co124)) (fun _ hk => hk.2) (.slice Ao130 t928.length co130)) (fun _ h_ => h_.1))) hb); have n4_ := Aside0.mk (Kd.R_below (by (with_reducible repeat (first | apply Kd.R_alloc | apply Kd.R_drewN | apply Kd.R_drew)); exact (Kd.R_mono (Kd.R_far (p := ⟨gb932, 1, none⟩) (Kd.R_far (p := ⟨gb932, 0, none⟩) (Kd.R_types HO_903000.out BK932.out (by decide)) (fun _ hk => hk.2) (.slice Ao124 t925.length co124)) (fun _ hk => hk.2) (.slice Ao130 t928.length co130)) (fun _ h_ => h_.1))) hb); have n5_ := Aside0.mk (Kd.R_below (by (with_reducible repeat (first | apply Kd.R_alloc | apply Kd.R_drewN | apply Kd.R_drew)); exact (Kd.R_mono (Kd.R_far (p := ⟨gb932, 1, none⟩) (Kd.R_far (p := ⟨gb932, 0, none⟩) (Kd.R_types HO_903001.out BK932.out (by decide)) (fun _ hk => hk.2) (.slice Ao124 t925.length co124)) (fun _ hk => hk.2) (.slice Ao130 t928.length co130)) (fun _ h_ => h_.1))) hb); have n6_ := Aside0.mk (Kd.R_below (by (with_reducible repeat (first | apply Kd.R_alloc | apply Kd.R_drewN | apply Kd.R_drew)); exact (Kd.R_mono (Kd.R_far (p := ⟨gb932, 1, none⟩) (Kd.R_far (p := ⟨gb932, 0, none⟩) (Kd.R_types HO921.out BK932.out (by decide)) (fun _ hk => hk.2) (.slice Ao124 t925.length co124)) (fun _ hk => hk.2) (.slice Ao130 t928.length co130)) (fun _ h_ => h_.1))) hb); have n7_ := Aside0.mk (Kd.R_below (by (with_reducible repeat (first | apply Kd.R_alloc | apply Kd.R_drewN | apply Kd.R_drew)); exact (Kd.R_mono (Kd.R_far (p := ⟨gb932, 1, none⟩) (Kd.R_far (p := ⟨gb932, 0, none⟩) (Kd.R_types HO924.out BK932.out (by decide)) (fun _ hk => hk.2) (.slice Ao124 t925.length co124)) (fun _ hk => hk.2) (.slice Ao130 t928.length co130)) (fun _ h_ => h_.1))) hb); have n8_ := Aside0.mk (Kd.R_below (by (with_reducible repeat (first | apply Kd.R_alloc | apply Kd.R_drewN | apply Kd.R_drew)); exact (Kd.R_mono (Kd.R_far (p := ⟨gb932, 1, none⟩) (Kd.R_far (p := ⟨gb932, 0, none⟩) (Kd.R_types HO927.out BK932.out (by decide)) (fun _ hk => hk.2) (.slice Ao124 t925.length co124)) (fun _ hk => hk.2) (.slice Ao130 t928.length co130)) (fun _ h_ => h_.1))) hb); have n9_ := Aside0.mk (Kd.R_below (by (with_reducible repeat (first | apply Kd.R_alloc | apply Kd.R_drewN | apply Kd.R_drew)); exact (Kd.R_mono (Kd.R_far (p := ⟨gb932, 1, none⟩) (Kd.R_far (p := ⟨gb932, 0, none⟩) (Kd.R_types HO930.out BK932.out (by decide)) (fun _ hk => hk.2) (.slice Ao124 t925.length co124)) (fun _ hk => hk.2) (.slice Ao130 t928.length co130)) (fun _ h_ => h_.1))) hb); have n10_ := Aside0.mk (blk_below (g := gb872) (o := .cells #[.slice A0_0 l0_0.length c0_0, .slice A0_1 l0_1.length c0_1] 24 (0, 0)) (by (with_reducible repeat (first | refine blk_drewN ?_ _ | refine blk_drew ?_ | refine blk_alloc ?_ _)); refine blk_far ?_ NB872_932.out _; (with_reducible repeat (first | refine blk_drewN ?_ _ | refine blk_drew ?_ | refine blk_alloc ?_ _)); refine blk_far ?_ NB872_932.out _; (with_reducible repeat (first | refine blk_drewN ?_ _ | refine blk_drew ?_ | refine blk_alloc ?_ _)); exact BK872.out) hb); have n11_ := Aside0.mk (blk_below (g := gb887) (o := .cells #[.slice Ao21 t880.length co21, .slice Ao24 t883.length co24] 27 (0, 0)) (by (with_reducible repeat (first | refine blk_drewN ?_ _ | refine blk_drew ?_ | refine blk_alloc ?_ _)); refine blk_far ?_ NB887_932.out _; (with_reducible repeat (first | refine blk_drewN ?_ _ | refine blk_drew ?_ | refine blk_alloc ?_ _)); refine blk_far ?_ NB887_932.out _; (with_reducible repeat (first | refine blk_drewN ?_ _ | refine blk_drew ?_ | refine blk_alloc ?_ _)); exact BK887.out) hb); have n12_ := Aside0.mk (blk_below (g := gb894) (o := .cells #[.slice Ao28 t912.length co28, .slice Ao32 t913.length co32] 27 (0, 0)) (by (with_reducible repeat (first | refine blk_drewN ?_ _ | refine blk_drew ?_ | refine blk_alloc ?_ _)); refine blk_far ?_ NB894_932.out _; (with_reducible repeat (first | refine blk_drewN ?_ _ | refine blk_drew ?_ | refine blk_alloc ?_ _)); refine blk_far ?_ NB894_932.out _; (with_reducible repeat (first | refine blk_drewN ?_ _ | refine blk_drew ?_ | refine blk_alloc ?_ _)); exact BK894.out) hb); have n13_ := Aside0.mk (blk_below (g := gb902) (o := .cells #[.slice Ao35 t895.length co35, .slice Ao40 t898.length co40] 27 (0, 0)) (by (with_reducible repeat (first | refine blk_drewN ?_ _ | refine blk_drew ?_ | refine blk_alloc ?_ _)); refine blk_far ?_ NB902_932.out _; (with_reducible repeat (first | refine blk_drewN ?_ _ | refine blk_drew ?_ | refine blk_alloc ?_ _)); refine blk_far ?_ NB902_932.out _; (with_reducible repeat (first | refine blk_drewN ?_ _ | refine blk_drew ?_ | refine blk_alloc ?_ _)); exact BK902.out) hb); have n14_ := Aside0.mk (blk_below (g := gb932) (o := .cells #[.slice Ao124 t925.length co124, .slice Ao130 t928.length co130] 27 (0, 0)) (by (with_reducible repeat (first | refine blk_drewN ?_ _ | refine blk_drew ?_ | refine blk_alloc ?_ _)); refine blk_put (cs := #[.slice Ao124 t925.length co124, .slice none 0 0]) ?_ 1 _ rfl; (with_reducible repeat (first | refine blk_drewN ?_ _ | refine blk_drew ?_ | refine blk_alloc ?_ _)); refine blk_put (cs := #[.slice none 0 0, .slice none 0 0]) ?_ 0 _ rfl; (with_reducible repeat (first | refine blk_drewN ?_ _ | refine blk_drew ?_ | refine blk_alloc ?_ _)); exact BK932.out) hb); have n15_ := Aside0.mk (below_step (by repeat (first | (with_reducible first | exact HB.out | apply below_alloc | apply pw_below_drewN | apply below_drew1 | refine below_set ?_ GE872.out | refine below_set ?_ GE887.out | refine below_set ?_ GE894.out | refine below_set ?_ GE902.out | refine below_set ?_ GE932.out) | exact HB.out)) hb); clear HO_888000; clear HO_888001; clear HO_895000; clear HO_895001; clear HO_903000; clear HO_903001; clear HO921; clear HO924; clear HO927; clear HO930; clear BK872; clear BK887; clear BK894; clear BK902; clear BK932; clear HB; have HO_888000 := n0_; have HO_888001 := n1_; have HO_895000 := n2_; have HO_895001 := n3_; have HO_903000 := n4_; have HO_903001 := n5_; have HO921 := n6_; have HO924 := n7_; have HO927 := n8_; have HO930 := n9_; have BK872 := n10_; have BK887 := n11_; have BK894 := n12_; have BK902 := n13_; have BK932 := n14_; have HB := n15_; clear n0_ n1_ n2_ n3_ n4_ n5_ n6_ n7_ n8_ n9_ n10_ n11_ n12_ n13_ n14_ n15_; (try clear hb); (try clear hb2); (try clear hk); (try clear hi)))
             go_meet
             case rel => exact ⟨_, ((t931 != t886)), (by first | rfl | (simp; done) | (simp [*]; done)), H', ⟨by have := HJ10.out; have := HJ63.out; first | omega | exact Nat.le_refl _⟩, ⟨by (try simp only [hl895000_63]); (try simp only [hl895001_63]); (with_reducible repeat (first | apply Kd.R_alloc | apply Kd.R_drewN | apply Kd.R_drew)); exact Kd.R_mono HO_888000.out (fun _ hk => ⟨hk.1.1.1.1.1, ⟨hk.1.1.1.1.2.1, ⟨hk.1.1.1.1.2.2.1, ⟨hk.1.1.1.1.2.2.2.1, ⟨hk.1.1.1.1.2.2.2.2, ⟨hk.1.2, hk.2⟩⟩⟩⟩⟩⟩)⟩, ⟨by (try simp only [hl895000_63]); (try simp only [hl895001_63]); (with_reducible repeat (first | apply Kd.R_alloc | apply Kd.R_drewN | apply Kd.R_drew)); exact Kd.R_mono HO_888001.out (fun _ hk => ⟨hk.1.1.1.1.1, ⟨hk.1.1.1.1.2.1, ⟨hk.1.1.1.1.2.2.1, ⟨hk.1.1.1.1.2.2.2.1, ⟨hk.1.1.1.1.2.2.2.2, ⟨hk.1.2, hk.2⟩⟩⟩⟩⟩⟩)⟩, ⟨by (try simp only [hl895000_63]); (try simp only [hl895001_63]); (with_reducible repeat (first | apply Kd.R_alloc | apply Kd.R_drewN | apply Kd.R_drew)); exact Kd.R_mono HO_895000.out (fun _ hk => ⟨hk.1.1.1.1.1, ⟨hk.1.1.1.1.2.1, ⟨hk.1.1.1.1.2.2.1, ⟨hk.1.1.1.1.2.2.2.1, ⟨hk.1.1.1.1.2.2.2.2, ⟨hk.1.2, hk.2⟩⟩⟩⟩⟩⟩)⟩, ⟨by (try simp only [hl895000_63]); (try simp only [hl895001_63]); (with_reducible repeat (first | apply Kd.R_alloc | apply Kd.R_drewN | apply Kd.R_drew)); exact Kd.R_mono HO_895001.out (fun _ hk => ⟨hk.1.1.1.1.1, ⟨hk.1.1.1.1.2.1, ⟨hk.1.1.1.1.2.2.1, ⟨hk.1.1.1.1.2.2.2.1, ⟨hk.1.1.1.1.2.2.2.2, ⟨hk.1.2, hk.2⟩⟩⟩⟩⟩⟩)⟩, ⟨by (try simp only [hl895000_63]); (try simp only [hl895001_63]); (with_reducible repeat (first | apply Kd.R_alloc | apply Kd.R_drewN | apply Kd.R_drew)); exact Kd.R_mono HO_903000.out (fun _ hk => ⟨hk.1.1.1.1.1, ⟨hk.1.1.1.1.2.1, ⟨hk.1.1.1.1.2.2.1, ⟨hk.1.1.1.1.2.2.2.1, ⟨hk.1.1.1.1.2.2.2.2, ⟨hk.1.2, hk.2⟩⟩⟩⟩⟩⟩)⟩, ⟨by (try simp only [hl895000_63]); (try simp only [hl895001_63]); (with_reducible repeat (first | apply Kd.R_alloc | apply Kd.R_drewN | apply Kd.R_drew)); exact Kd.R_mono HO_903001.out (fun _ hk => ⟨hk.1.1.1.1.1, ⟨hk.1.1.1.1.2.1, ⟨hk.1.1.1.1.2.2.1, ⟨hk.1.1.1.1.2.2.2.1, ⟨hk.1.1.1.1.2.2.2.2, ⟨hk.1.2, hk.2⟩⟩⟩⟩⟩⟩)⟩, ⟨by (try simp only [hl895000_63]); (try simp only [hl895001_63]); (with_reducible repeat (first | apply Kd.R_alloc | apply Kd.R_drewN | apply Kd.R_drew)); exact Kd.R_mono HO927.out (fun _ hk => ⟨hk.1.1.1.1.1.1.1.2, ⟨hk.1.1.1.1.1.1.2, ⟨hk.1.1.1.1.1.2, ⟨hk.1.1.1.1.2, ⟨hk.1.1.1.2, ⟨hk.1.1.2, hk.1.1.1.1.1.1.1.1⟩⟩⟩⟩⟩⟩)⟩, ⟨by (try simp only [hl895000_63]); (try simp only [hl895001_63]); (with_reducible repeat (first | apply Kd.R_alloc | apply Kd.R_drewN | apply Kd.R_drew)); exact Kd.R_mono HO930.out (fun _ hk => ⟨hk.1.1.1.1.1.1.1.2, ⟨hk.1.1.1.1.1.1.2, ⟨hk.1.1.1.1.1.2, ⟨hk.1.1.1.1.2, ⟨hk.1.1.1.2, ⟨hk.1.1.2, hk.1.1.1.1.1.1.1.1⟩⟩⟩⟩⟩⟩)⟩, ⟨by (try simp only [hl895000_63]); (try simp only [hl895001_63]); (with_reducible repeat (first | refine blk_drewN ?_ _ | refine blk_drew ?_ | refine blk_alloc ?_ _)); exact BK872.out⟩, ⟨by (try simp only [hl895000_63]); (try simp only [hl895001_63]); (with_reducible repeat (first | refine blk_drewN ?_ _ | refine blk_drew ?_ | refine blk_alloc ?_ _)); exact BK887.out⟩, ⟨by (try simp only [hl895000_63]); (try simp only [hl895001_63]); (with_reducible repeat (first | refine blk_drewN ?_ _ | refine blk_drew ?_ | refine blk_alloc ?_ _)); exact BK894.out⟩, ⟨by (try simp only [hl895000_63]); (try simp only [hl895001_63]); (with_reducible repeat (first | refine blk_drewN ?_ _ | refine blk_drew ?_ | refine blk_alloc ?_ _)); exact BK902.out⟩, ⟨by (try simp only [hl895000_63]); (try simp only [hl895001_63]); (with_reducible repeat (first | refine blk_drewN ?_ _ | refine blk_drew ?_ | refine blk_alloc ?_ _)); exact BK932.out⟩, ⟨by repeat (first | (with_reducible first | exact HB.out | apply below_alloc | apply pw_below_drewN | apply below_drew1 | refine below_set ?_ GE872.out | refine below_set ?_ GE887.out | refine below_set ?_ GE894.out | refine below_set ?_ GE902.out | refine below_set ?_ GE932.out) | exact HB.out)⟩⟩
            ·replace c132 := Bool.eq_false_iff.mpr c132
             subst c132
             have H1 : (laws_FnExactCanonOf.j2 kj63 t915 true t916 t917) = some true := by rw [if_neg (show ¬ (false = true) by decide)] at H; exact H
             clear H
             have H := H1
             clear H1
             exact absurd H (by cases kj63 <;> simp [laws_FnExactCanonOf.j2])
           case rest =>
            clear HC108
            try clear c1
            try clear c2
            try clear p2
            try clear c3
            try clear c3b0
            try clear c4
            try clear c5
            try clear c6
            try clear c7
            try clear c8
            try clear c9
            try clear c10
            try clear c11
            try clear c12
            try clear c13
            try clear c14
            try clear c15
            try clear c16
            try clear c20
            try clear c22
            try clear c25
            try clear c28
            try clear c29
            try clear c30
            try clear c36
            try clear c37
            try clear c38
            try clear c42
            try clear c43
            try clear c44
            try clear c45
            try clear c47
            try clear c48
            try clear c51
            try clear c52
            try clear c53
            try clear c55
            try clear c56
            try clear c59
            try clear c62
            try clear c70
            try clear c71
            try clear c72
            try clear c75
            try clear c75b0
            try clear c77
            try clear c78
            try clear c79
            try clear c80
            try clear c82
            try clear c83
            try clear c86
            try clear c87
            try clear c88
            try clear c90
            try clear c91
            try clear c94
            try clear c97
            try clear c97b0
            try clear c98
            try clear c99
            try clear c100
            try clear c105
            try clear c105b0
            try clear c105b1
            try clear c109
            try clear c110
            try clear c111
            try clear c116
            try clear c117
            try clear c125
            try clear c126
            try clear c127
            try clear c128
            try clear c132
            try clear c133
            try clear c134
            try clear c135
            try clear c136
            try clear c138
            try clear c139
            try clear c140
            try clear c143
            try clear c144
            try clear c145
            try clear c146
            try clear c148
            try clear c149
            try clear c150
            try clear hcz101_0
            try clear hcz101_1
            try clear hcz103_0
            try clear hcz103_1
            try clear hcz112_0
            try clear hcz112_1
            try clear hcz114_0
            try clear hcz114_1
            try clear hcz118_0
            try clear hcz118_1
            try clear hcz129_0
            try clear hcz129_1
            try clear hcz137_0
            try clear hcz137_1
            try clear hcz13_0
            try clear hcz13_1
            try clear hcz141_0
            try clear hcz141_1
            try clear hcz147_0
            try clear hcz147_1
            try clear hcz151_0
            try clear hcz151_1
            try clear hcz15_0
            try clear hcz15_1
            try clear hcz23_0
            try clear hcz23_1
            try clear hcz25_0
            try clear hcz25_1
            try clear hcz31_0
            try clear hcz31_1
            try clear hcz39_0
            try clear hcz39_1
            try clear hcz46_0
            try clear hcz46_1
            try clear hcz49_0
            try clear hcz49_1
            try clear hcz54_0
            try clear hcz54_1
            try clear hcz57_0
            try clear hcz57_1
            try clear hcz5_0
            try clear hcz5_1
            try clear hcz73_0
            try clear hcz73_1
            try clear hcz81_0
            try clear hcz81_1
            try clear hcz84_0
            try clear hcz84_1
            try clear hcz89_0
            try clear hcz89_1
            try clear hcz92_0
            try clear hcz92_1
            try clear hfz101_0
            try clear hfz101_1
            try clear hfz103_0
            try clear hfz103_1
            try clear hfz112_0
            try clear hfz112_1
            try clear hfz114_0
            try clear hfz114_1
            try clear hfz118_0
            try clear hfz118_1
            try clear hfz129_0
            try clear hfz129_1
            try clear hfz137_0
            try clear hfz137_1
            try clear hfz13_0
            try clear hfz13_1
            try clear hfz141_0
            try clear hfz141_1
            try clear hfz147_0
            try clear hfz147_1
            try clear hfz151_0
            try clear hfz151_1
            try clear hfz15_0
            try clear hfz15_1
            try clear hfz23_0
            try clear hfz23_1
            try clear hfz25_0
            try clear hfz25_1
            try clear hfz31_0
            try clear hfz31_1
            try clear hfz39_0
            try clear hfz39_1
            try clear hfz46_0
            try clear hfz46_1
            try clear hfz49_0
            try clear hfz49_1
            try clear hfz54_0
            try clear hfz54_1
            try clear hfz57_0
            try clear hfz57_1
            try clear hfz5_0
            try clear hfz5_1
            try clear hfz73_0
            try clear hfz73_1
            try clear hfz81_0
            try clear hfz81_1
            try clear hfz84_0
            try clear hfz84_1
            try clear hfz89_0
            try clear hfz89_1
            try clear hfz92_0
            try clear hfz92_1
            try clear p2
            obtain ⟨kq, x87_107, rfl, HA, HJ107, HO_888000, HO_888001, HO_895000, HO_895001, HO_903000, HO_903001, HO_933000, HO_933001, BK872, BK887, BK894, BK902, BK932, HB⟩ := hcut
            have hl903000_107 := (Kd.R_reads' HO_903000.out).1
            rw [hl903000_107] at HO_903000
            (try simp only [hl903000_107])
            (try simp only [hl903000_107] at BK872)
            (try simp only [hl903000_107] at BK887)
            (try simp only [hl903000_107] at BK894)
            (try simp only [hl903000_107] at BK902)
            (try simp only [hl903000_107] at BK932)
            (try simp only [hl903000_107] at HO_888000)
            (try simp only [hl903000_107] at HO_888001)
            (try simp only [hl903000_107] at HO_895000)
            (try simp only [hl903000_107] at HO_895001)
            (try simp only [hl903000_107] at HO_903001)
            (try simp only [hl903000_107] at HO_933000)
            (try simp only [hl903000_107] at HO_933001)
            have hl903001_107 := (Kd.R_reads' HO_903001.out).1
            rw [hl903001_107] at HO_903001
            (try simp only [hl903001_107])
            (try simp only [hl903001_107] at BK872)
            (try simp only [hl903001_107] at BK887)
            (try simp only [hl903001_107] at BK894)
            (try simp only [hl903001_107] at BK902)
            (try simp only [hl903001_107] at BK932)
            (try simp only [hl903001_107] at HO_888000)
            (try simp only [hl903001_107] at HO_888001)
            (try simp only [hl903001_107] at HO_895000)
            (try simp only [hl903001_107] at HO_895001)
            (try simp only [hl903001_107] at HO_903000)
            (try simp only [hl903001_107] at HO_933000)
            (try simp only [hl903001_107] at HO_933001)
            cases kq with
            | zero => exact absurd HA.out (by simp [laws_FnExactCanonOf.j2])
            | succ kj107 =>
             have H := HA.out
             clear HA
             simp only [laws_FnExactCanonOf.j2] at H
             by_cases c153 : x87_107 = true
             ·subst c153
              have H1 : (some false) = some true := by rw [if_pos rfl] at H; exact H
              clear H
              have H := H1
              clear H1
              exact absurd H (by simp)
             ·replace c153 := Bool.eq_false_iff.mpr c153
              subst c153
              have H1 : ((laws_heldSurface.f kj107 t916 t917 1).bind fun t934 => (if t934 < 0 then (some false) else (if t934 = t915 then (some true) else (some false)))) = some true := by rw [if_neg (show ¬ (false = true) by decide)] at H; exact H
              clear H
              have H := H1
              clear H1
              replace H := Option.bind_eq_some_iff.mp H
              obtain ⟨t934, A1540, H⟩ := H
              replace H : (if t934 < 0 then (some false) else (if t934 = t915 then (some true) else (some false))) = some true := H
              have A154 := Aside0.mk A1540
              clear A1540
              by_cases c155 : t934 < 0
              ·rw [if_pos c155] at H
               have c155b0 : decide (t934 < 0) = true := decide_eq_true c155
               clear c155
               exact absurd H (by simp)
              ·rw [if_neg c155] at H
               have c155b0 : decide (t934 < 0) = false := decide_eq_false c155
               clear c155
               by_cases c162 : t934 = t915
               ·rw [if_pos c162] at H
                have c162b0 : (t934 == t915) = true := beq_iff_eq.mpr c162
                have c162b1 : (t934 != t915) = false := bne_eq_false_iff_eq.mpr c162
                clear c162
                have hnb163 := NB902_872.out
                have hnc163 := NB872_902.out
                have hnb164 := NB902_887.out
                have hnc164 := NB887_902.out
                have hnb165 := NB902_894.out
                have hnc165 := NB894_902.out
                have hnb166 := NB902_932.out
                have hnc166 := NB932_902.out
                have hcz167_0 : wc.cell? ⟨gb902, 0, none⟩ = some (.slice Ao35 t916.length co35) := (blk_cell BK902.out 0).trans rfl
                have hcz167_1 : wc.cell? ⟨gb902, 1, none⟩ = some (.slice Ao40 t917.length co40) := (blk_cell BK902.out 1).trans rfl
                have hfz167_0 := blk_frozen BK902.out 0
                have hfz167_1 := blk_frozen BK902.out 1
                go_wp2_with (first | ((with_reducible refine gate_callee (f := 25) rfl ?_); refine goesL_ (some 90) rfl rfl Try.func25 (by kernel_rfl) rfl #[.agg #[.slice Ao35 t916.length co35, .slice Ao40 t917.length co40], .int .i64 1] rfl (by (try simp only [List.map_toArray, List.map_cons, List.map_nil]); first | done | rfl | (simp only [List.length_drop, List.length_take]; rfl)) ?_; (with_reducible refine (laws_heldSurface.calls kj107 _ _ t916 _ _ t917 1 t934 _ ?side1 ?side2 ?side3 ?side4 A154.out).mono ?_); (case side1 => repeat (first | exact (Kd.R_reads' HO_903000.out).2.2 | (with_reducible refine Kd.C_alloc ?_ _) | (with_reducible refine Kd.C_drewN ?_ _) | (with_reducible refine Kd.C_drew ?_))); (case side2 => exact (Kd.R_reads' HO_903000.out).2.1); (case side3 => repeat (first | exact (Kd.R_reads' HO_903001.out).2.2 | (with_reducible refine Kd.C_alloc ?_ _) | (with_reducible refine Kd.C_drewN ?_ _) | (with_reducible refine Kd.C_drew ?_))); (case side4 => exact (Kd.R_reads' HO_903001.out).2.1); rintro e w168 ⟨rfl, hb⟩; refine ⟨_, rfl, ?_⟩; have n0_ := Aside0.mk (Kd.R_below (by (with_reducible repeat (first | apply Kd.R_alloc | apply Kd.R_drewN | apply Kd.R_drew)); exact HO_888000.out) hb); have n1_ := Aside0.mk (Kd.R_below (by (with_reducible repeat (first | apply Kd.R_alloc | apply Kd.R_drewN | apply Kd.R_drew)); exact HO_888001.out) hb); have n2_ := Aside0.mk (Kd.R_below (by (with_reducible repeat (first | apply Kd.R_alloc | apply Kd.R_drewN | apply Kd.R_drew)); exact HO_895000.out) hb); have n3_ := Aside0.mk (Kd.R_below (by (with_reducible repeat (first | apply Kd.R_alloc | apply Kd.R_drewN | apply Kd.R_drew)); exact HO_895001.out) hb); have n4_ := Aside0.mk (Kd.R_below (by (with_reducible repeat (first | apply Kd.R_alloc | apply Kd.R_drewN | apply Kd.R_drew)); exact HO_903000.out) hb); have n5_ := Aside0.mk (Kd.R_below (by (with_reducible repeat (first | apply Kd.R_alloc | apply Kd.R_drewN | apply Kd.R_drew)); exact HO_903001.out) hb); have n6_ := Aside0.mk (Kd.R_below (by (with_reducible repeat (first | apply Kd.R_alloc | apply Kd.R_drewN | apply Kd.R_drew)); exact HO_933000.out) hb); have n7_ := Aside0.mk (Kd.R_below (by (with_reducible repeat (first | apply Kd.R_alloc | apply Kd.R_drewN | apply Kd.R_drew)); exact HO_933001.out) hb); have n8_ := Aside0.mk (blk_below (g := gb872) (o := .cells #[.slice A0_0 l0_0.length c0_0, .slice A0_1 l0_1.length c0_1] 24 (0, 0)) (by (with_reducible repeat (first | refine blk_drewN ?_ _ | refine blk_drew ?_ | refine blk_alloc ?_ _)); exact BK872.out) hb); have n9_ := Aside0.mk (blk_below (g := gb887) (o := .cells #[.slice Ao21 t880.length co21, .slice Ao24 t883.length co24] 27 (0, 0)) (by (with_reducible repeat (first | refine blk_drewN ?_ _ | refine blk_drew ?_ | refine blk_alloc ?_ _)); exact BK887.out) hb); have n10_ := Aside0.mk (blk_below (g := gb894) (o := .cells #[.slice Ao28 t912.length co28, .slice Ao32 t913.length co32] 27 (0, 0)) (by (with_reducible repeat (first | refine blk_drewN ?_ _ | refine blk_drew ?_ | refine blk_alloc ?_ _)); exact BK894.out) hb); have n11_ := Aside0.mk (blk_below (g := gb902) (o := .cells #[.slice Ao35 t916.length co35, .slice Ao40 t917.length co40] 27 (0, 0)) (by (with_reducible repeat (first | refine blk_drewN ?_ _ | refine blk_drew ?_ | refine blk_alloc ?_ _)); exact BK902.out) hb); have n12_ := Aside0.mk (blk_below (g := gb932) (o := .cells #[.slice Ao124 t925.length co124, .slice Ao130 t928.length co130] 27 (0, 0)) (by (with_reducible repeat (first | refine blk_drewN ?_ _ | refine blk_drew ?_ | refine blk_alloc ?_ _)); exact BK932.out) hb); have n13_ := Aside0.mk (below_step (by repeat (first | (with_reducible first | exact HB.out | apply below_alloc | apply pw_below_drewN | apply below_drew1 | refine below_set ?_ GE872.out | refine below_set ?_ GE887.out | refine below_set ?_ GE894.out | refine below_set ?_ GE902.out | refine below_set ?_ GE932.out) | exact HB.out)) hb); clear HO_888000; clear HO_888001; clear HO_895000; clear HO_895001; clear HO_903000; clear HO_903001; clear HO_933000; clear HO_933001; clear BK872; clear BK887; clear BK894; clear BK902; clear BK932; clear HB; have HO_888000 := n0_; have HO_888001 := n1_; have HO_895000 := n2_; have HO_895001 := n3_; have HO_903000 := n4_; have HO_903001 := n5_; have HO_933000 := n6_; have HO_933001 := n7_; have BK872 := n8_; have BK887 := n9_; have BK894 := n10_; have BK902 := n11_; have BK932 := n12_; have HB := n13_; clear n0_ n1_ n2_ n3_ n4_ n5_ n6_ n7_ n8_ n9_ n10_ n11_ n12_ n13_; (try clear hb); (try clear hb2); (try clear hk); (try clear hi)))
                go_ret
                exact ⟨by first | rfl | (simp [errW_none, errW_some] <;> rfl) | (simp [*, errW_none, errW_some] <;> rfl), by repeat (first | (with_reducible first | exact HB.out | apply below_alloc | apply pw_below_drewN | apply below_drew1 | refine below_set ?_ GE872.out | refine below_set ?_ GE887.out | refine below_set ?_ GE894.out | refine below_set ?_ GE902.out | refine below_set ?_ GE932.out) | exact HB.out)⟩
               ·rw [if_neg c162] at H
                have c162b0 : (t934 == t915) = false := beq_eq_false_iff_ne.mpr c162
                have c162b1 : (t934 != t915) = true := bne_iff_ne.mpr c162
                exact absurd H (by simp)
          ·rw [if_neg c105] at H
           have c105b0 : (t918 == t915) = false := beq_eq_false_iff_ne.mpr c105
           have c105b1 : (t918 != t915) = true := bne_iff_ne.mpr c105
           exact absurd H (by simp)
     ·replace c62 := Bool.eq_false_iff.mpr c62
      subst c62
      have H1 : (some false) = some true := by rw [if_neg (show ¬ (false = true) by decide)] at H; exact H
      clear H
      have H := H1
      clear H1
      exact absurd H (by simp)

/-- The pure statement of laws_FnExactCanonOf. -/
def laws_FnExactCanonOf.Pure : Prop := ∀ (l0_0 : List Int) (l0_1 : List Int), l0_0.length ≤ maxLen → (∀ x ∈ l0_0, (Lit.int .i64 x).wf = true) → l0_1.length ≤ maxLen → (∀ x ∈ l0_1, (Lit.int .i64 x).wf = true) → ∃ k, laws_FnExactCanonOf.f k l0_0 l0_1 = some true
theorem laws_FnExactCanonOf.walk (P : laws_FnExactCanonOf.Pure) (a0_0 : Option Addr) (len0_0 cap0_0 : Nat) (z0_0 : List Int) (a0_1 : Option Addr) (len0_1 cap0_1 : Nat) (z0_1 : List Int) (w : World) (w0_0 : ((a0_0 = none ∧ len0_0 = 0 ∧ cap0_0 = 0 ∧ z0_0 = []) ∨ ∃ x, a0_0 = some x ∧ len0_0 ≤ cap0_0 ∧ cap0_0 ≤ maxLen ∧ z0_0.length = cap0_0 ∧ (∀ i, i < z0_0.length → w.cell? (x.add i) = some (.int .i64 (z0_0.getD i 0))) ∧ ∀ n ∈ z0_0, (Lit.int .i64 n).wf = true)) (w0_1 : ((a0_1 = none ∧ len0_1 = 0 ∧ cap0_1 = 0 ∧ z0_1 = []) ∨ ∃ x, a0_1 = some x ∧ len0_1 ≤ cap0_1 ∧ cap0_1 ≤ maxLen ∧ z0_1.length = cap0_1 ∧ (∀ i, i < z0_1.length → w.cell? (x.add i) = some (.int .i64 (z0_1.getD i 0))) ∧ ∀ n ∈ z0_1, (Lit.int .i64 n).wf = true)) :
  Calls Try.prog 7 #[.agg #[.slice a0_0 len0_0 cap0_0, .slice a0_1 len0_1 cap0_1]] w fun e w' => e = .returned (.bool true) ∧ Below w.heap.size w w' := by
 obtain ⟨l0_0, rfl, hr0_0, hm0_0, hw0_0, hc0_0⟩ := ReadsInt.ofRowC w0_0
 obtain ⟨l0_1, rfl, hr0_1, hm0_1, hw0_1, hc0_1⟩ := ReadsInt.ofRowC w0_1
 obtain ⟨k, h⟩ := P l0_0 l0_1 hm0_0 hw0_0 hm0_1 hw0_1
 refine (laws_FnExactCanonOf.calls_true k _ _ l0_0 _ _ l0_1 w (Kd.C_of_reads (d := (0 : Int)) (h1 := fun _ => rfl) hr0_0) hc0_0 (Kd.C_of_reads (d := (0 : Int)) (h1 := fun _ => rfl) hr0_1) hc0_1 h).mono ?_
 rintro e w' ⟨rfl, hd⟩
 exact ⟨rfl, hd⟩

end Go.Proofs.Ytlohmpgbjgidpad.P
