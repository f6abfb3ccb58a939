-- MADE by this project's printer (wip/mk) out of the translation; Lean checks it.
import Derived.Test.YtlohmpgbjgidpacPx0
import Derived.Test.YtlohmpgbjgidpacPx2
import Derived.Test.YtlohmpgbjgidpacPx11
import Derived.Test.YtlohmpgbjgidpacPx17
import Derived.Test.YtlohmpgbjgidpacPx69
import Derived.Test.YtlohmpgbjgidpacPx75
import Derived.Test.YtlohmpgbjgidpacPx83
import Derived.Test.YtlohmpgbjgidpacPx84
namespace Go.Proofs.Ytlohmpgbjgidpac.P
open Go.RowKit Go.Proofs.YtlohmpgbjgidpacW.PrintWords Go.Proofs.YtlohmpgbjgidpacW.PrintLast Go.Proofs.YtlohmpgbjgidpacW.PrintMore
attribute [local go_sem] max2_int min2_int max_two min_two max_three min_three max_four min_four   -- for this text's walks alone
set_option linter.unusedVariables false
set_option linter.unusedSimpArgs false

/-! ### laws_FnExactUnshearSurface: function 11 -/
mutual
def laws_FnExactUnshearSurface.j0 : Nat → Bool → Bool → Bool → List Int → List Int → List Int → List Int → List Int → List Int → List Int → List Int → Option (Bool)
  | 0, _, _, _, _, _, _, _, _, _, _, _ => none
  | k + 1, x5, x8, x40, x848000, x848001, x863000, x863001, x870000, x870001, x878000, x878001 => if x40 = true then (some false) else ((laws_toSurface.f k x848000 x848001).bind fun bt879 => ((laws_eqSurface.f k x870000 x870001 bt879.1 bt879.2).bind fun t885 => (if t885 = true then ((laws_markSurface.f k x870000 x870001 1).bind fun bt886 => (if bt886.1 < 0 then (laws_FnExactUnshearSurface.j1 k x5 true x848000 x848001 x863000 x863001 x878000 x878001) else ((laws_eqSurface.f k x878000 x878001 x863000 x863001).bind fun t889 => (if t889 = true then (laws_FnExactUnshearSurface.j1 k x5 (x8 != x5) x848000 x848001 x863000 x863001 x878000 x878001) else (laws_FnExactUnshearSurface.j1 k x5 true x848000 x848001 x863000 x863001 x878000 x878001))))) else (some false))))
def laws_FnExactUnshearSurface.j1 : Nat → Bool → Bool → List Int → List Int → List Int → List Int → List Int → List Int → Option (Bool)
  | 0, _, _, _, _, _, _, _, _ => none
  | k + 1, x5, x61, x848000, x848001, x863000, x863001, x878000, x878001 => if x61 = true then (some false) else ((laws_markSurface.f k x878000 x878001 1).bind fun bt890 => ((laws_heldSurface.f k bt890.2.1 bt890.2.2 1).bind fun t893 => (if t893 < 0 then (some false) else (if t893 = bt890.1 then ((laws_toSurface.f k x848000 x848001).bind fun bt894 => ((impl_UnshearSurface.f k bt894.1 bt894.2).bind fun bt900 => ((laws_eqSurface.f k bt900.1 bt900.2.1 x863000 x863001).bind fun t908 => (if t908 = true then (laws_FnExactUnshearSurface.j2 k bt890.1 (bt900.2.2 != x5) bt890.2.1 bt890.2.2) else (laws_FnExactUnshearSurface.j2 k bt890.1 true bt890.2.1 bt890.2.2))))) else (some false)))))
def laws_FnExactUnshearSurface.j2 : Nat → Int → Bool → List Int → List Int → Option (Bool)
  | 0, _, _, _, _ => none
  | k + 1, x10, x87, x878000, x878001 => if x87 = true then (some false) else ((laws_heldSurface.f k x878000 x878001 1).bind fun t909 => (if t909 < 0 then (some false) else (if t909 = x10 then (some true) else (some false))))
end
def laws_FnExactUnshearSurface.f (k : Nat) (l0_0 : List Int) (l0_1 : List Int) : Option (Bool) := (laws_szSurface.f l0_0 l0_1 1048576).bind fun t848 => (if t848 < 0 then (some true) else ((laws_toSurface.f k l0_0 l0_1).bind fun bt849 => ((spec_UnshearSurface.f k bt849.1 bt849.2).bind fun bt855 => ((laws_toSurface.f k l0_0 l0_1).bind fun bt863 => ((impl_UnshearSurface.f k bt863.1 bt863.2).bind fun bt870 => ((laws_eqSurface.f k bt870.1 bt870.2.1 bt855.1 bt855.2.1).bind fun t878 => (if t878 = true then (laws_FnExactUnshearSurface.j0 k bt855.2.2 bt870.2.2 (bt870.2.2 != bt855.2.2) l0_0 l0_1 bt855.1 bt855.2.1 bt863.1 bt863.2 bt870.1 bt870.2.1) else (laws_FnExactUnshearSurface.j0 k bt855.2.2 bt870.2.2 true l0_0 l0_1 bt855.1 bt855.2.1 bt863.1 bt863.2 bt870.1 bt870.2.1))))))))
theorem laws_FnExactUnshearSurface.mono_l : ∀ k, (∀ y0 y1 y2 y3 y4 y5 y6 y7 y8 y9 y10, LeO (laws_FnExactUnshearSurface.j0 k y0 y1 y2 y3 y4 y5 y6 y7 y8 y9 y10) (laws_FnExactUnshearSurface.j0 (k + 1) y0 y1 y2 y3 y4 y5 y6 y7 y8 y9 y10)) ∧ (∀ y0 y1 y2 y3 y4 y5 y6 y7, LeO (laws_FnExactUnshearSurface.j1 k y0 y1 y2 y3 y4 y5 y6 y7) (laws_FnExactUnshearSurface.j1 (k + 1) y0 y1 y2 y3 y4 y5 y6 y7)) ∧ (∀ y0 y1 y2 y3, LeO (laws_FnExactUnshearSurface.j2 k y0 y1 y2 y3) (laws_FnExactUnshearSurface.j2 (k + 1) y0 y1 y2 y3))
  | 0 => ⟨fun _ _ _ _ _ _ _ _ _ _ _ r h => by simp [laws_FnExactUnshearSurface.j0] at h, fun _ _ _ _ _ _ _ _ r h => by simp [laws_FnExactUnshearSurface.j1] at h, fun _ _ _ _ r h => by simp [laws_FnExactUnshearSurface.j2] at h⟩
  | k + 1 => by
    obtain ⟨ih0, ih1, ih2⟩ := laws_FnExactUnshearSurface.mono_l k
    refine ⟨?_, ?_, ?_⟩
    · intro y0 y1 y2 y3 y4 y5 y6 y7 y8 y9 y10
      unfold laws_FnExactUnshearSurface.j0
      repeat' first
      | (with_reducible exact ih0 _ _ _ _ _ _ _ _ _ _ _)
      | (with_reducible exact ih1 _ _ _ _ _ _ _ _)
      | (with_reducible exact ih2 _ _ _ _)
      | (with_reducible exact impl_UnshearSurface.mono _ _ _)
      | (with_reducible exact laws_eqSurface.mono _ _ _ _ _)
      | (with_reducible exact laws_heldSurface.mono _ _ _ _)
      | (with_reducible exact laws_markSurface.mono _ _ _ _)
      | (with_reducible exact laws_toSurface.mono _ _ _)
      | (with_reducible exact spec_UnshearSurface.mono _ _ _)
      | (with_reducible exact LeO.refl _)
      | (with_reducible exact LeO.none _)
      | (with_reducible refine LeO.ite ?_ ?_)
      | (with_reducible refine LeO.bind ?_ (fun _ => ?_))
      | exact ih0 _ _ _ _ _ _ _ _ _ _ _
      | exact ih1 _ _ _ _ _ _ _ _
      | exact ih2 _ _ _ _
      | exact impl_UnshearSurface.mono _ _ _
      | exact laws_eqSurface.mono _ _ _ _ _
      | exact laws_heldSurface.mono _ _ _ _
      | exact laws_markSurface.mono _ _ _ _
      | exact laws_toSurface.mono _ _ _
      | exact spec_UnshearSurface.mono _ _ _
      | exact LeO.none _
      | refine LeO.ite ?_ ?_
      | refine LeO.bind ?_ (fun _ => ?_)
    · intro y0 y1 y2 y3 y4 y5 y6 y7
      unfold laws_FnExactUnshearSurface.j1
      repeat' first
      | (with_reducible exact ih0 _ _ _ _ _ _ _ _ _ _ _)
      | (with_reducible exact ih1 _ _ _ _ _ _ _ _)
      | (with_reducible exact ih2 _ _ _ _)
      | (with_reducible exact impl_UnshearSurface.mono _ _ _)
      | (with_reducible exact laws_eqSurface.mono _ _ _ _ _)
      | (with_reducible exact laws_heldSurface.mono _ _ _ _)
      | (with_reducible exact laws_markSurface.mono _ _ _ _)
      | (with_reducible exact laws_toSurface.mono _ _ _)
      | (with_reducible exact spec_UnshearSurface.mono _ _ _)
      | (with_reducible exact LeO.refl _)
      | (with_reducible exact LeO.none _)
      | (with_reducible refine LeO.ite ?_ ?_)
      | (with_reducible refine LeO.bind ?_ (fun _ => ?_))
      | exact ih0 _ _ _ _ _ _ _ _ _ _ _
      | exact ih1 _ _ _ _ _ _ _ _
      | exact ih2 _ _ _ _
      | exact impl_UnshearSurface.mono _ _ _
      | exact laws_eqSurface.mono _ _ _ _ _
      | exact laws_heldSurface.mono _ _ _ _
      | exact laws_markSurface.mono _ _ _ _
      | exact laws_toSurface.mono _ _ _
      | exact spec_UnshearSurface.mono _ _ _
      | exact LeO.none _
      | refine LeO.ite ?_ ?_
      | refine LeO.bind ?_ (fun _ => ?_)
    · intro y0 y1 y2 y3
      unfold laws_FnExactUnshearSurface.j2
      repeat' first
      | (with_reducible exact ih0 _ _ _ _ _ _ _ _ _ _ _)
      | (with_reducible exact ih1 _ _ _ _ _ _ _ _)
      | (with_reducible exact ih2 _ _ _ _)
      | (with_reducible exact impl_UnshearSurface.mono _ _ _)
      | (with_reducible exact laws_eqSurface.mono _ _ _ _ _)
      | (with_reducible exact laws_heldSurface.mono _ _ _ _)
      | (with_reducible exact laws_markSurface.mono _ _ _ _)
      | (with_reducible exact laws_toSurface.mono _ _ _)
      | (with_reducible exact spec_UnshearSurface.mono _ _ _)
      | (with_reducible exact LeO.refl _)
      | (with_reducible exact LeO.none _)
      | (with_reducible refine LeO.ite ?_ ?_)
      | (with_reducible refine LeO.bind ?_ (fun _ => ?_))
      | exact ih0 _ _ _ _ _ _ _ _ _ _ _
      | exact ih1 _ _ _ _ _ _ _ _
      | exact ih2 _ _ _ _
      | exact impl_UnshearSurface.mono _ _ _
      | exact laws_eqSurface.mono _ _ _ _ _
      | exact laws_heldSurface.mono _ _ _ _
      | exact laws_markSurface.mono _ _ _ _
      | exact laws_toSurface.mono _ _ _
      | exact spec_UnshearSurface.mono _ _ _
      | exact LeO.none _
      | refine LeO.ite ?_ ?_
      | refine LeO.bind ?_ (fun _ => ?_)
theorem laws_FnExactUnshearSurface.mono : ∀ a0 a1 k, LeO (laws_FnExactUnshearSurface.f k a0 a1) (laws_FnExactUnshearSurface.f (k + 1) a0 a1) := by
  intro a0 a1 k
  obtain ⟨ih0, ih1, ih2⟩ := laws_FnExactUnshearSurface.mono_l k
  unfold laws_FnExactUnshearSurface.f
  repeat' first
      | (with_reducible exact ih0 _ _ _ _ _ _ _ _ _ _ _)
      | (with_reducible exact ih1 _ _ _ _ _ _ _ _)
      | (with_reducible exact ih2 _ _ _ _)
      | (with_reducible exact impl_UnshearSurface.mono _ _ _)
      | (with_reducible exact laws_eqSurface.mono _ _ _ _ _)
      | (with_reducible exact laws_heldSurface.mono _ _ _ _)
      | (with_reducible exact laws_markSurface.mono _ _ _ _)
      | (with_reducible exact laws_toSurface.mono _ _ _)
      | (with_reducible exact spec_UnshearSurface.mono _ _ _)
      | (with_reducible exact LeO.refl _)
      | (with_reducible exact LeO.none _)
      | (with_reducible refine LeO.ite ?_ ?_)
      | (with_reducible refine LeO.bind ?_ (fun _ => ?_))
      | exact ih0 _ _ _ _ _ _ _ _ _ _ _
      | exact ih1 _ _ _ _ _ _ _ _
      | exact ih2 _ _ _ _
      | exact impl_UnshearSurface.mono _ _ _
      | exact laws_eqSurface.mono _ _ _ _ _
      | exact laws_heldSurface.mono _ _ _ _
      | exact laws_markSurface.mono _ _ _ _
      | exact laws_toSurface.mono _ _ _
      | exact spec_UnshearSurface.mono _ _ _
      | exact LeO.none _
      | refine LeO.ite ?_ ?_
      | refine LeO.bind ?_ (fun _ => ?_)
set_option maxHeartbeats 8000000 in
set_option maxRecDepth 100000 in
theorem laws_FnExactUnshearSurface.calls_true (k : Nat) (A0_0 : Option Addr) (c0_0 : Nat) (l0_0 : List Int) (A0_1 : Option Addr) (c0_1 : Nat) (l0_1 : List Int) (w : World) (hr0_0 : Kd.C (Kd.int .i64) w A0_0 l0_0.length l0_0) (hc0_0 : l0_0.length ≤ c0_0) (hr0_1 : Kd.C (Kd.int .i64) w A0_1 l0_1.length l0_1) (hc0_1 : l0_1.length ≤ c0_1) (h : laws_FnExactUnshearSurface.f k l0_0 l0_1 = some true) :
    Calls Try.prog 11 #[.agg #[.slice A0_0 l0_0.length c0_0, .slice A0_1 l0_1.length c0_1]] w fun e w' => e = .returned (.bool true) ∧ Below w.heap.size w w' := by
  have hu24 := Try.underlying24
  have hu27 := Try.underlying27
  have HR0_0 := Aside0.mk hr0_0
  have HC0_0 := Aside0.mk hc0_0
  clear hr0_0 hc0_0
  have HR0_1 := Aside0.mk hr0_1
  have HC0_1 := Aside0.mk hc0_1
  clear hr0_1 hc0_1
  have HB := Aside0.mk (Below.refl w.heap.size w)
  have H : ((laws_szSurface.f l0_0 l0_1 1048576).bind fun t848 => (if t848 < 0 then (some true) else ((laws_toSurface.f k l0_0 l0_1).bind fun bt849 => ((spec_UnshearSurface.f k bt849.1 bt849.2).bind fun bt855 => ((laws_toSurface.f k l0_0 l0_1).bind fun bt863 => ((impl_UnshearSurface.f k bt863.1 bt863.2).bind fun bt870 => ((laws_eqSurface.f k bt870.1 bt870.2.1 bt855.1 bt855.2.1).bind fun t878 => (if t878 = true then (laws_FnExactUnshearSurface.j0 k bt855.2.2 bt870.2.2 (bt870.2.2 != bt855.2.2) l0_0 l0_1 bt855.1 bt855.2.1 bt863.1 bt863.2 bt870.1 bt870.2.1) else (laws_FnExactUnshearSurface.j0 k bt855.2.2 bt870.2.2 true l0_0 l0_1 bt855.1 bt855.2.1 bt863.1 bt863.2 bt870.1 bt870.2.1))))))))) = some true := h
  clear h
  replace H := Option.bind_eq_some_iff.mp H
  obtain ⟨t848, A20, H⟩ := H
  replace H : (if t848 < 0 then (some true) else ((laws_toSurface.f k l0_0 l0_1).bind fun bt849 => ((spec_UnshearSurface.f k bt849.1 bt849.2).bind fun bt855 => ((laws_toSurface.f k l0_0 l0_1).bind fun bt863 => ((impl_UnshearSurface.f k bt863.1 bt863.2).bind fun bt870 => ((laws_eqSurface.f k bt870.1 bt870.2.1 bt855.1 bt855.2.1).bind fun t878 => (if t878 = true then (laws_FnExactUnshearSurface.j0 k bt855.2.2 bt870.2.2 (bt870.2.2 != bt855.2.2) l0_0 l0_1 bt855.1 bt855.2.1 bt863.1 bt863.2 bt870.1 bt870.2.1) else (laws_FnExactUnshearSurface.j0 k bt855.2.2 bt870.2.2 true l0_0 l0_1 bt855.1 bt855.2.1 bt863.1 bt863.2 bt870.1 bt870.2.1)))))))) = some true := H
  have A2 := Aside0.mk A20
  clear A20
  by_cases c3 : t848 < 0
  · rw [if_pos c3] at H
    have c3b0 : decide (t848 < 0) = true := decide_eq_true c3
    clear c3
    go_enter Try.func11, Try.ntmps11
    go_wp2_with (first | ((with_reducible refine gate_dst (N := 1) rfl ?_); refine box_event ?hg (N := 1) ?hd (cs := #[.slice A0_0 l0_0.length c0_0, .slice A0_1 l0_1.length c0_1]) (t := 24) ?hr ?_; (case hd => rfl); (case hg => rfl); (case hr => first | (go_simp; done) | (go_simp; rfl)); intro gb847 hg w4 hbox hb; have n0_ := Aside0.mk (below_step (by repeat (first | (with_reducible first | exact HB.out | apply below_alloc | apply pw_below_drewN | apply below_drew1) | exact HB.out)) hb); have n1_ := Aside0.mk (hbox); have n2_ := Aside0.mk ((by rw [hg]; exact (below_size (by repeat (first | (with_reducible first | exact HB.out | apply below_alloc | apply pw_below_drewN | apply below_drew1) | exact HB.out))) : w.heap.size ≤ gb847)); have n3_ := Aside0.mk ((by rw [hg]; exact (below_size (by repeat (first | (with_reducible first | exact HB.out | apply below_alloc | apply pw_below_drewN | apply below_drew1) | exact HB.out))) : w.heap.size ≤ gb847)); clear HB; have HB := n0_; have BK847 := n1_; have GW847 := n2_; have GE847 := n3_; clear n0_ n1_ n2_ n3_; clear hb hbox hg; have hcz5_0 : w4.cell? ⟨gb847, 0, none⟩ = some (.slice A0_0 l0_0.length c0_0) := (blk_cell BK847.out 0).trans rfl; have hcz5_1 : w4.cell? ⟨gb847, 1, none⟩ = some (.slice A0_1 l0_1.length c0_1) := (blk_cell BK847.out 1).trans rfl; have hfz5_0 := blk_frozen BK847.out 0; have hfz5_1 := blk_frozen BK847.out 1) | ((with_reducible refine gate_callee (f := 15) rfl ?_); refine goesL_ (some 16) rfl rfl Try.func15 (by kernel_rfl) rfl #[.agg #[.slice A0_0 l0_0.length c0_0, .slice A0_1 l0_1.length c0_1], .int .i64 1048576] rfl (by (try simp only [List.map_toArray, List.map_cons, List.map_nil]); first | done | rfl | (simp only [List.length_drop, List.length_take]; rfl)) ?_; (with_reducible refine (laws_szSurface.calls _ _ l0_0 _ _ l0_1 1048576 t848 _ ?side1 ?side2 ?side3 ?side4 A2.out).mono ?_); (case side1 => repeat (first | exact (Kd.C_below HR0_0.out HB.out) | (with_reducible refine Kd.C_alloc ?_ _) | (with_reducible refine Kd.C_drewN ?_ _) | (with_reducible refine Kd.C_drew ?_))); (case side2 => exact HC0_0.out); (case side3 => repeat (first | exact (Kd.C_below HR0_1.out HB.out) | (with_reducible refine Kd.C_alloc ?_ _) | (with_reducible refine Kd.C_drewN ?_ _) | (with_reducible refine Kd.C_drew ?_))); (case side4 => exact HC0_1.out); rintro e w6 ⟨rfl, hb⟩; refine ⟨_, rfl, ?_⟩; have n0_ := Aside0.mk (blk_below (g := gb847) (o := .cells #[.slice A0_0 l0_0.length c0_0, .slice A0_1 l0_1.length c0_1] 24 (0, 0)) (by (with_reducible repeat (first | refine blk_drewN ?_ _ | refine blk_drew ?_ | refine blk_alloc ?_ _)); exact BK847.out) hb); have n1_ := Aside0.mk (below_step (by repeat (first | (with_reducible first | exact HB.out | apply below_alloc | apply pw_below_drewN | apply below_drew1 | refine below_set ?_ GE847.out) | exact HB.out)) hb); clear BK847; clear HB; have BK847 := n0_; have HB := n1_; clear n0_ n1_; (try clear hb); (try clear hb2); (try clear hk); (try clear hi)))
    go_ret
    exact ⟨by first | rfl | (simp [errW_none, errW_some] <;> rfl) | (simp [*, errW_none, errW_some] <;> rfl), by repeat (first | (with_reducible first | exact HB.out | apply below_alloc | apply pw_below_drewN | apply below_drew1 | refine below_set ?_ GE847.out) | exact HB.out)⟩
  · rw [if_neg c3] at H
    have c3b0 : decide (t848 < 0) = false := decide_eq_false c3
    clear c3
    replace H := Option.bind_eq_some_iff.mp H
    obtain ⟨⟨t849, t852⟩, A70, H⟩ := H
    replace H : ((spec_UnshearSurface.f k t849 t852).bind fun bt855 => ((laws_toSurface.f k l0_0 l0_1).bind fun bt863 => ((impl_UnshearSurface.f k bt863.1 bt863.2).bind fun bt870 => ((laws_eqSurface.f k bt870.1 bt870.2.1 bt855.1 bt855.2.1).bind fun t878 => (if t878 = true then (laws_FnExactUnshearSurface.j0 k bt855.2.2 bt870.2.2 (bt870.2.2 != bt855.2.2) l0_0 l0_1 bt855.1 bt855.2.1 bt863.1 bt863.2 bt870.1 bt870.2.1) else (laws_FnExactUnshearSurface.j0 k bt855.2.2 bt870.2.2 true l0_0 l0_1 bt855.1 bt855.2.1 bt863.1 bt863.2 bt870.1 bt870.2.1)))))) = some true := H
    have A7 := Aside0.mk A70
    clear A70
    replace H := Option.bind_eq_some_iff.mp H
    obtain ⟨⟨t855, t858, t861⟩, A80, H⟩ := H
    replace H : ((laws_toSurface.f k l0_0 l0_1).bind fun bt863 => ((impl_UnshearSurface.f k bt863.1 bt863.2).bind fun bt870 => ((laws_eqSurface.f k bt870.1 bt870.2.1 t855 t858).bind fun t878 => (if t878 = true then (laws_FnExactUnshearSurface.j0 k t861 bt870.2.2 (bt870.2.2 != t861) l0_0 l0_1 t855 t858 bt863.1 bt863.2 bt870.1 bt870.2.1) else (laws_FnExactUnshearSurface.j0 k t861 bt870.2.2 true l0_0 l0_1 t855 t858 bt863.1 bt863.2 bt870.1 bt870.2.1))))) = some true := H
    have A8 := Aside0.mk A80
    clear A80
    replace H := Option.bind_eq_some_iff.mp H
    obtain ⟨⟨t863, t866⟩, A90, H⟩ := H
    replace H : ((impl_UnshearSurface.f k t863 t866).bind fun bt870 => ((laws_eqSurface.f k bt870.1 bt870.2.1 t855 t858).bind fun t878 => (if t878 = true then (laws_FnExactUnshearSurface.j0 k t861 bt870.2.2 (bt870.2.2 != t861) l0_0 l0_1 t855 t858 t863 t866 bt870.1 bt870.2.1) else (laws_FnExactUnshearSurface.j0 k t861 bt870.2.2 true l0_0 l0_1 t855 t858 t863 t866 bt870.1 bt870.2.1)))) = some true := H
    have A9 := Aside0.mk A90
    clear A90
    replace H := Option.bind_eq_some_iff.mp H
    obtain ⟨⟨t870, t873, t876⟩, A100, H⟩ := H
    replace H : ((laws_eqSurface.f k t870 t873 t855 t858).bind fun t878 => (if t878 = true then (laws_FnExactUnshearSurface.j0 k t861 t876 (t876 != t861) l0_0 l0_1 t855 t858 t863 t866 t870 t873) else (laws_FnExactUnshearSurface.j0 k t861 t876 true l0_0 l0_1 t855 t858 t863 t866 t870 t873))) = some true := H
    have A10 := Aside0.mk A100
    clear A100
    have HC11 := Aside0.mk H
    clear H
    go_enter Try.func11, Try.ntmps11
    go_upto_region 8 with (first | ((with_reducible refine gate_dst (N := 1) rfl ?_); refine box_event ?hg (N := 1) ?hd (cs := #[.slice A0_0 l0_0.length c0_0, .slice A0_1 l0_1.length c0_1]) (t := 24) ?hr ?_; (case hd => rfl); (case hg => rfl); (case hr => first | (go_simp; done) | (go_simp; rfl)); intro gb847 hg w12 hbox hb; have n0_ := Aside0.mk (below_step (by repeat (first | (with_reducible first | exact HB.out | apply below_alloc | apply pw_below_drewN | apply below_drew1) | exact HB.out)) hb); have n1_ := Aside0.mk (hbox); have n2_ := Aside0.mk ((by rw [hg]; exact (below_size (by repeat (first | (with_reducible first | exact HB.out | apply below_alloc | apply pw_below_drewN | apply below_drew1) | exact HB.out))) : w.heap.size ≤ gb847)); have n3_ := Aside0.mk ((by rw [hg]; exact (below_size (by repeat (first | (with_reducible first | exact HB.out | apply below_alloc | apply pw_below_drewN | apply below_drew1) | exact HB.out))) : w.heap.size ≤ gb847)); clear HB; have HB := n0_; have BK847 := n1_; have GW847 := n2_; have GE847 := n3_; clear n0_ n1_ n2_ n3_; clear hb hbox hg; have hcz13_0 : w12.cell? ⟨gb847, 0, none⟩ = some (.slice A0_0 l0_0.length c0_0) := (blk_cell BK847.out 0).trans rfl; have hcz13_1 : w12.cell? ⟨gb847, 1, none⟩ = some (.slice A0_1 l0_1.length c0_1) := (blk_cell BK847.out 1).trans rfl; have hfz13_0 := blk_frozen BK847.out 0; have hfz13_1 := blk_frozen BK847.out 1) | ((with_reducible refine gate_callee (f := 15) rfl ?_); refine goesL_ (some 16) rfl rfl Try.func15 (by kernel_rfl) rfl #[.agg #[.slice A0_0 l0_0.length c0_0, .slice A0_1 l0_1.length c0_1], .int .i64 1048576] rfl (by (try simp only [List.map_toArray, List.map_cons, List.map_nil]); first | done | rfl | (simp only [List.length_drop, List.length_take]; rfl)) ?_; (with_reducible refine (laws_szSurface.calls _ _ l0_0 _ _ l0_1 1048576 t848 _ ?side1 ?side2 ?side3 ?side4 A2.out).mono ?_); (case side1 => repeat (first | exact (Kd.C_below HR0_0.out HB.out) | (with_reducible refine Kd.C_alloc ?_ _) | (with_reducible refine Kd.C_drewN ?_ _) | (with_reducible refine Kd.C_drew ?_))); (case side2 => exact HC0_0.out); (case side3 => repeat (first | exact (Kd.C_below HR0_1.out HB.out) | (with_reducible refine Kd.C_alloc ?_ _) | (with_reducible refine Kd.C_drewN ?_ _) | (with_reducible refine Kd.C_drew ?_))); (case side4 => exact HC0_1.out); rintro e w14 ⟨rfl, hb⟩; refine ⟨_, rfl, ?_⟩; have n0_ := Aside0.mk (blk_below (g := gb847) (o := .cells #[.slice A0_0 l0_0.length c0_0, .slice A0_1 l0_1.length c0_1] 24 (0, 0)) (by (with_reducible repeat (first | refine blk_drewN ?_ _ | refine blk_drew ?_ | refine blk_alloc ?_ _)); exact BK847.out) hb); have n1_ := Aside0.mk (below_step (by repeat (first | (with_reducible first | exact HB.out | apply below_alloc | apply pw_below_drewN | apply below_drew1 | refine below_set ?_ GE847.out) | exact HB.out)) hb); clear BK847; clear HB; have BK847 := n0_; have HB := n1_; clear n0_ n1_; (try clear hb); (try clear hb2); (try clear hk); (try clear hi); have hcz15_0 : w14.cell? ⟨gb847, 0, none⟩ = some (.slice A0_0 l0_0.length c0_0) := (blk_cell BK847.out 0).trans rfl; have hcz15_1 : w14.cell? ⟨gb847, 1, none⟩ = some (.slice A0_1 l0_1.length c0_1) := (blk_cell BK847.out 1).trans rfl; have hfz15_0 := blk_frozen BK847.out 0; have hfz15_1 := blk_frozen BK847.out 1) | ((with_reducible refine gate_callee (f := 17) rfl ?_); refine goesL_ (some 21) rfl rfl Try.func17 (by kernel_rfl) rfl #[.agg #[.slice A0_0 l0_0.length c0_0, .slice A0_1 l0_1.length c0_1]] rfl (by (try simp only [List.map_toArray, List.map_cons, List.map_nil]); first | done | rfl | (simp only [List.length_drop, List.length_take]; rfl)) ?_; (with_reducible refine (laws_toSurface.calls k _ _ l0_0 _ _ l0_1 t849 t852 _ ?side1 ?side2 ?side3 ?side4 A7.out).mono ?_); (case side1 => repeat (first | exact (Kd.C_below HR0_0.out HB.out) | (with_reducible refine Kd.C_alloc ?_ _) | (with_reducible refine Kd.C_drewN ?_ _) | (with_reducible refine Kd.C_drew ?_))); (case side2 => exact HC0_0.out); (case side3 => repeat (first | exact (Kd.C_below HR0_1.out HB.out) | (with_reducible refine Kd.C_alloc ?_ _) | (with_reducible refine Kd.C_drewN ?_ _) | (with_reducible refine Kd.C_drew ?_))); (case side4 => exact HC0_1.out); rintro e w16 ⟨v850, v853, rfl, ho0, ho1, hb⟩; refine ⟨_, rfl, ?_⟩; have n0_ := Aside0.mk (Kd.R_lower ho0 (below_size (by repeat (first | (with_reducible first | exact HB.out | apply below_alloc | apply pw_below_drewN | apply below_drew1 | refine below_set ?_ GE847.out) | exact HB.out)))); have n1_ := Aside0.mk (Kd.R_lower ho1 (below_size (by repeat (first | (with_reducible first | exact HB.out | apply below_alloc | apply pw_below_drewN | apply below_drew1 | refine below_set ?_ GE847.out) | exact HB.out)))); have n2_ := Aside0.mk (blk_below (g := gb847) (o := .cells #[.slice A0_0 l0_0.length c0_0, .slice A0_1 l0_1.length c0_1] 24 (0, 0)) (by (with_reducible repeat (first | refine blk_drewN ?_ _ | refine blk_drew ?_ | refine blk_alloc ?_ _)); exact BK847.out) hb); have n3_ := Aside0.mk (below_step (by repeat (first | (with_reducible first | exact HB.out | apply below_alloc | apply pw_below_drewN | apply below_drew1 | refine below_set ?_ GE847.out) | exact HB.out)) hb); clear BK847; clear HB; have HO851 := n0_; have HO854 := n1_; have BK847 := n2_; have HB := n3_; clear n0_ n1_ n2_ n3_; (try clear hb); (try clear hb2); (try clear hk); (try clear hi); (try clear ho0); (try clear ho1); obtain ⟨Ao17, co17, eo17⟩ := Kd.R_slice HO851.out; subst eo17; obtain ⟨Ao18, co18, eo18⟩ := Kd.R_slice HO854.out; subst eo18) | ((with_reducible refine gate_callee (f := 49) rfl ?_); refine goesL_ (some 22) rfl rfl Try.func49 (by kernel_rfl) rfl #[.agg #[.slice Ao17 t849.length co17, .slice Ao18 t852.length co18]] rfl (by (try simp only [List.map_toArray, List.map_cons, List.map_nil]); first | done | rfl | (simp only [List.length_drop, List.length_take]; rfl)) ?_; (with_reducible refine (spec_UnshearSurface.calls k _ _ t849 _ _ t852 t855 t858 t861 _ ?side1 ?side2 ?side3 ?side4 A8.out).mono ?_); (case side1 => repeat (first | exact (Kd.R_reads' HO851.out).2.2 | (with_reducible refine Kd.C_alloc ?_ _) | (with_reducible refine Kd.C_drewN ?_ _) | (with_reducible refine Kd.C_drew ?_))); (case side2 => exact (Kd.R_reads' HO851.out).2.1); (case side3 => repeat (first | exact (Kd.R_reads' HO854.out).2.2 | (with_reducible refine Kd.C_alloc ?_ _) | (with_reducible refine Kd.C_drewN ?_ _) | (with_reducible refine Kd.C_drew ?_))); (case side4 => exact (Kd.R_reads' HO854.out).2.1); rintro e w19 ⟨v856, v859, rfl, ho0, ho1, hb⟩; refine ⟨_, rfl, ?_⟩; have n0_ := Aside0.mk (Kd.R_mono (Kd.R_told (Kd.R_told (Kd.R_old (by (with_reducible repeat (first | apply Kd.R_alloc | apply Kd.R_drewN | apply Kd.R_drew)); exact HO851.out) hb) (Kd.R_base ho0)) (Kd.R_base ho1)) (fun _ h_ => h_.1)); have n1_ := Aside0.mk (Kd.R_mono (Kd.R_told (Kd.R_told (Kd.R_old (by (with_reducible repeat (first | apply Kd.R_alloc | apply Kd.R_drewN | apply Kd.R_drew)); exact HO854.out) hb) (Kd.R_base ho0)) (Kd.R_base ho1)) (fun _ h_ => h_.1)); have n2_ := Aside0.mk (Kd.R_lower (Kd.R_new' (Kd.R_new' ho0 (Kd.R_lt (by (with_reducible repeat (first | apply Kd.R_alloc | apply Kd.R_drewN | apply Kd.R_drew)); exact HO851.out))) (Kd.R_lt (by (with_reducible repeat (first | apply Kd.R_alloc | apply Kd.R_drewN | apply Kd.R_drew)); exact HO854.out))) (below_size (by repeat (first | (with_reducible first | exact HB.out | apply below_alloc | apply pw_below_drewN | apply below_drew1 | refine below_set ?_ GE847.out) | exact HB.out)))); have n3_ := Aside0.mk (Kd.R_lower (Kd.R_new' (Kd.R_new' ho1 (Kd.R_lt (by (with_reducible repeat (first | apply Kd.R_alloc | apply Kd.R_drewN | apply Kd.R_drew)); exact HO851.out))) (Kd.R_lt (by (with_reducible repeat (first | apply Kd.R_alloc | apply Kd.R_drewN | apply Kd.R_drew)); exact HO854.out))) (below_size (by repeat (first | (with_reducible first | exact HB.out | apply below_alloc | apply pw_below_drewN | apply below_drew1 | refine below_set ?_ GE847.out) | exact HB.out)))); have n4_ := Aside0.mk (blk_below (g := gb847) (o := .cells #[.slice A0_0 l0_0.length c0_0, .slice A0_1 l0_1.length c0_1] 24 (0, 0)) (by (with_reducible repeat (first | refine blk_drewN ?_ _ | refine blk_drew ?_ | refine blk_alloc ?_ _)); exact BK847.out) hb); have n5_ := Aside0.mk (below_step (by repeat (first | (with_reducible first | exact HB.out | apply below_alloc | apply pw_below_drewN | apply below_drew1 | refine below_set ?_ GE847.out) | exact HB.out)) hb); clear HO851; clear HO854; clear BK847; clear HB; have HO851 := n0_; have HO854 := n1_; have HO857 := n2_; have HO860 := n3_; have BK847 := n4_; have HB := n5_; clear n0_ n1_ n2_ n3_ n4_ n5_; (try clear hb); (try clear hb2); (try clear hk); (try clear hi); (try clear ho0); (try clear ho1)) | ((with_reducible refine gate_dst (N := 4) rfl ?_); refine box_event ?hg (N := 4) ?hd (cs := #[.slice none 0 0, .slice none 0 0]) (t := 27) ?hr ?_; (case hd => rfl); (case hg => rfl); (case hr => first | (go_simp; done) | (go_simp; rfl)); intro gb862 hg w20 hbox hb; have n0_ := Aside0.mk (Kd.R_below (by (with_reducible repeat (first | apply Kd.R_alloc | apply Kd.R_drewN | apply Kd.R_drew)); exact HO851.out) hb); have n1_ := Aside0.mk (Kd.R_below (by (with_reducible repeat (first | apply Kd.R_alloc | apply Kd.R_drewN | apply Kd.R_drew)); exact HO854.out) hb); have n2_ := Aside0.mk (Kd.R_below (by (with_reducible repeat (first | apply Kd.R_alloc | apply Kd.R_drewN | apply Kd.R_drew)); exact HO857.out) hb); have n3_ := Aside0.mk (Kd.R_below (by (with_reducible repeat (first | apply Kd.R_alloc | apply Kd.R_drewN | apply Kd.R_drew)); exact HO860.out) hb); have n4_ := Aside0.mk (blk_below (g := gb847) (o := .cells #[.slice A0_0 l0_0.length c0_0, .slice A0_1 l0_1.length c0_1] 24 (0, 0)) (by (with_reducible repeat (first | refine blk_drewN ?_ _ | refine blk_drew ?_ | refine blk_alloc ?_ _)); exact BK847.out) hb); have n5_ := Aside0.mk (below_step (by repeat (first | (with_reducible first | exact HB.out | apply below_alloc | apply pw_below_drewN | apply below_drew1 | refine below_set ?_ GE847.out) | exact HB.out)) hb); have n6_ := Aside0.mk (hbox); have n7_ := Aside0.mk ((by rw [hg]; exact (below_size (by repeat (first | (with_reducible first | exact HB.out | apply below_alloc | apply pw_below_drewN | apply below_drew1 | refine below_set ?_ GE847.out) | exact HB.out))) : w.heap.size ≤ gb862)); have n8_ := Aside0.mk ((by rw [hg]; exact (below_size (by repeat (first | (with_reducible first | exact HB.out | apply below_alloc | apply pw_below_drewN | apply below_drew1 | refine below_set ?_ GE847.out) | exact HB.out))) : w.heap.size ≤ gb862)); have n9_ := Aside0.mk ((by rw [hg]; exact Nat.ne_of_lt (blk_lt (g := gb847) (o := .cells #[.slice A0_0 l0_0.length c0_0, .slice A0_1 l0_1.length c0_1] 24 (0, 0)) (by (with_reducible repeat (first | refine blk_drewN ?_ _ | refine blk_drew ?_ | refine blk_alloc ?_ _)); exact BK847.out)) : gb847 ≠ gb862)); have n10_ := Aside0.mk ((by rw [hg]; exact Nat.ne_of_gt (blk_lt (g := gb847) (o := .cells #[.slice A0_0 l0_0.length c0_0, .slice A0_1 l0_1.length c0_1] 24 (0, 0)) (by (with_reducible repeat (first | refine blk_drewN ?_ _ | refine blk_drew ?_ | refine blk_alloc ?_ _)); exact BK847.out)) : gb862 ≠ gb847)); clear HO851; clear HO854; clear HO857; clear HO860; clear BK847; clear HB; have HO851 := n0_; have HO854 := n1_; have HO857 := n2_; have HO860 := n3_; have BK847 := n4_; have HB := n5_; have BK862 := n6_; have GW862 := n7_; have GE862 := n8_; have NB847_862 := n9_; have NB862_847 := n10_; clear n0_ n1_ n2_ n3_ n4_ n5_ n6_ n7_ n8_ n9_ n10_; clear hb hbox hg; obtain ⟨Ao21, co21, eo21⟩ := Kd.R_slice HO857.out; subst eo21; have hnb22 := NB862_847.out; have hnc22 := NB847_862.out; have hcz23_0 : w20.cell? ⟨gb862, 0, none⟩ = some (.slice none 0 0) := (blk_cell BK862.out 0).trans rfl; have hcz23_1 : w20.cell? ⟨gb862, 1, none⟩ = some (.slice none 0 0) := (blk_cell BK862.out 1).trans rfl; have hfz23_0 := blk_frozen BK862.out 0; have hfz23_1 := blk_frozen BK862.out 1; obtain ⟨Ao24, co24, eo24⟩ := Kd.R_slice HO860.out; subst eo24; have hcz25_0 : w20.cell? ⟨gb847, 0, none⟩ = some (.slice A0_0 l0_0.length c0_0) := (blk_cell BK847.out 0).trans rfl; have hcz25_1 : w20.cell? ⟨gb847, 1, none⟩ = some (.slice A0_1 l0_1.length c0_1) := (blk_cell BK847.out 1).trans rfl; have hfz25_0 := blk_frozen BK847.out 0; have hfz25_1 := blk_frozen BK847.out 1) | ((with_reducible refine gate_callee (f := 17) rfl ?_); refine goesL_ (some 26) rfl rfl Try.func17 (by kernel_rfl) rfl #[.agg #[.slice A0_0 l0_0.length c0_0, .slice A0_1 l0_1.length c0_1]] rfl (by (try simp only [List.map_toArray, List.map_cons, List.map_nil]); first | done | rfl | (simp only [List.length_drop, List.length_take]; rfl)) ?_; (with_reducible refine (laws_toSurface.calls k _ _ l0_0 _ _ l0_1 t863 t866 _ ?side1 ?side2 ?side3 ?side4 A9.out).mono ?_); (case side1 => exact Kd.C_below HR0_0.out (by repeat (first | (with_reducible first | exact HB.out | apply below_alloc | apply pw_below_drewN | apply below_drew1 | refine below_set ?_ GE847.out | refine below_set ?_ GE862.out) | exact HB.out))); (case side2 => exact HC0_0.out); (case side3 => exact Kd.C_below HR0_1.out (by repeat (first | (with_reducible first | exact HB.out | apply below_alloc | apply pw_below_drewN | apply below_drew1 | refine below_set ?_ GE847.out | refine below_set ?_ GE862.out) | exact HB.out))); (case side4 => exact HC0_1.out); rintro e w26 ⟨v864, v867, rfl, ho0, ho1, hb⟩; refine ⟨_, rfl, ?_⟩; have n0_ := Aside0.mk (Kd.R_mono (Kd.R_told (Kd.R_told (Kd.R_old (by (with_reducible repeat (first | apply Kd.R_alloc | apply Kd.R_drewN | apply Kd.R_drew)); exact (Kd.R_mono (Kd.R_far (p := ⟨gb862, 1, none⟩) (Kd.R_far (p := ⟨gb862, 0, none⟩) (Kd.R_types HO851.out BK862.out (by decide)) (fun _ hk => hk.2) (.slice Ao21 t855.length co21)) (fun _ hk => hk.2) (.slice Ao24 t858.length co24)) (fun _ h_ => h_.1))) hb) (Kd.R_base ho0)) (Kd.R_base ho1)) (fun _ h_ => h_.1)); have n1_ := Aside0.mk (Kd.R_mono (Kd.R_told (Kd.R_told (Kd.R_old (by (with_reducible repeat (first | apply Kd.R_alloc | apply Kd.R_drewN | apply Kd.R_drew)); exact (Kd.R_mono (Kd.R_far (p := ⟨gb862, 1, none⟩) (Kd.R_far (p := ⟨gb862, 0, none⟩) (Kd.R_types HO854.out BK862.out (by decide)) (fun _ hk => hk.2) (.slice Ao21 t855.length co21)) (fun _ hk => hk.2) (.slice Ao24 t858.length co24)) (fun _ h_ => h_.1))) hb) (Kd.R_base ho0)) (Kd.R_base ho1)) (fun _ h_ => h_.1)); have n2_ := Aside0.mk (Kd.R_mono (Kd.R_told (Kd.R_told (Kd.R_old (by (with_reducible repeat (first | apply Kd.R_alloc | apply Kd.R_drewN | apply Kd.R_drew)); exact (Kd.R_mono (Kd.R_far (p := ⟨gb862, 1, none⟩) (Kd.R_far (p := ⟨gb862, 0, none⟩) (Kd.R_types HO857.out BK862.out (by decide)) (fun _ hk => hk.2) (.slice Ao21 t855.length co21)) (fun _ hk => hk.2) (.slice Ao24 t858.length co24)) (fun _ h_ => h_.1))) hb) (Kd.R_base ho0)) (Kd.R_base ho1)) (fun _ h_ => h_.1)); have n3_ := Aside0.mk (Kd.R_mono (Kd.R_told (Kd.R_told (Kd.R_old (by (with_reducible repeat (first | apply Kd.R_alloc | apply Kd.R_drewN | apply Kd.R_drew)); exact (Kd.R_mono (Kd.R_far (p := ⟨gb862, 1, none⟩) (Kd.R_far (p := ⟨gb862, 0, none⟩) (Kd.R_types HO860.out BK862.out (by decide)) (fun _ hk => hk.2) (.slice Ao21 t855.length co21)) (fun _ hk => hk.2) (.slice Ao24 t858.length co24)) (fun _ h_ => h_.1))) hb) (Kd.R_base ho0)) (Kd.R_base ho1)) (fun _ h_ => h_.1)); have n4_ := Aside0.mk (Kd.R_lower (Kd.R_new' (Kd.R_new' (Kd.R_new' (Kd.R_new' ho0 (Kd.R_lt (by (with_reducible repeat (first | apply Kd.R_alloc | apply Kd.R_drewN | apply Kd.R_drew)); exact (Kd.R_mono (Kd.R_far (p := ⟨gb862, 1, none⟩) (Kd.R_far (p := ⟨gb862, 0, none⟩) (Kd.R_types HO851.out BK862.out (by decide)) (fun _ hk => hk.2) (.slice Ao21 t855.length co21)) (fun _ hk => hk.2) (.slice Ao24 t858.length co24)) (fun _ h_ => h_.1))))) (Kd.R_lt (by (with_reducible repeat (first | apply Kd.R_alloc | apply Kd.R_drewN | apply Kd.R_drew)); exact (Kd.R_mono (Kd.R_far (p := ⟨gb862, 1, none⟩) (Kd.R_far (p := ⟨gb862, 0, none⟩) (Kd.R_types HO854.out BK862.out (by decide)) (fun _ hk => hk.2) (.slice Ao21 t855.length co21)) (fun _ hk => hk.2) (.slice Ao24 t858.length co24)) (fun _ h_ => h_.1))))) (Kd.R_lt (by (with_reducible repeat (first | apply Kd.R_alloc | apply Kd.R_drewN | apply Kd.R_drew)); exact (Kd.R_mono (Kd.R_far (p := ⟨gb862, 1, none⟩) (Kd.R_far (p := ⟨gb862, 0, none⟩) (Kd.R_types HO857.out BK862.out (by decide)) (fun _ hk => hk.2) (.slice Ao21 t855.length co21)) (fun _ hk => hk.2) (.slice Ao24 t858.length co24)) (fun _ h_ => h_.1))))) (Kd.R_lt (by (with_reducible repeat (first | apply Kd.R_alloc | apply Kd.R_drewN | apply Kd.R_drew)); exact (Kd.R_mono (Kd.R_far (p := ⟨gb862, 1, none⟩) (Kd.R_far (p := ⟨gb862, 0, none⟩) (Kd.R_types HO860.out BK862.out (by decide)) (fun _ hk => hk.2) (.slice Ao21 t855.length co21)) (fun _ hk => hk.2) (.slice Ao24 t858.length co24)) (fun _ h_ => h_.1))))) (below_size (by repeat (first | (with_reducible first | exact HB.out | apply below_alloc | apply pw_below_drewN | apply below_drew1 | refine below_set ?_ GE847.out | refine below_set ?_ GE862.out) | exact HB.out)))); have n5_ := Aside0.mk (Kd.R_lower (Kd.R_new' (Kd.R_new' (Kd.R_new' (Kd.R_new' ho1 (Kd.R_lt (by (with_reducible repeat (first | apply Kd.R_alloc | apply Kd.R_drewN | apply Kd.R_drew)); exact (Kd.R_mono (Kd.R_far (p := ⟨gb862, 1, none⟩) (Kd.R_far (p := ⟨gb862, 0, none⟩) (Kd.R_types HO851.out BK862.out (by decide)) (fun _ hk => hk.2) (.slice Ao21 t855.length co21)) (fun _ hk => hk.2) (.slice Ao24 t858.length co24)) (fun _ h_ => h_.1))))) (Kd.R_lt (by (with_reducible repeat (first | apply Kd.R_alloc | apply Kd.R_drewN | apply Kd.R_drew)); exact (Kd.R_mono (Kd.R_far (p := ⟨gb862, 1, none⟩) (Kd.R_far (p := ⟨gb862, 0, none⟩) (Kd.R_types HO854.out BK862.out (by decide)) (fun _ hk => hk.2) (.slice Ao21 t855.length co21)) (fun _ hk => hk.2) (.slice Ao24 t858.length co24)) (fun _ h_ => h_.1))))) (Kd.R_lt (by (with_reducible repeat (first | apply Kd.R_alloc | apply Kd.R_drewN | apply Kd.R_drew)); exact (Kd.R_mono (Kd.R_far (p := ⟨gb862, 1, none⟩) (Kd.R_far (p := ⟨gb862, 0, none⟩) (Kd.R_types HO857.out BK862.out (by decide)) (fun _ hk => hk.2) (.slice Ao21 t855.length co21)) (fun _ hk => hk.2) (.slice Ao24 t858.length co24)) (fun _ h_ => h_.1))))) (Kd.R_lt (by (with_reducible repeat (first | apply Kd.R_alloc | apply Kd.R_drewN | apply Kd.R_drew)); exact (Kd.R_mono (Kd.R_far (p := ⟨gb862, 1, none⟩) (Kd.R_far (p := ⟨gb862, 0, none⟩) (Kd.R_types HO860.out BK862.out (by decide)) (fun _ hk => hk.2) (.slice Ao21 t855.length co21)) (fun _ hk => hk.2) (.slice Ao24 t858.length co24)) (fun _ h_ => h_.1))))) (below_size (by repeat (first | (with_reducible first | exact HB.out | apply below_alloc | apply pw_below_drewN | apply below_drew1 | refine below_set ?_ GE847.out | refine below_set ?_ GE862.out) | exact HB.out)))); have n6_ := Aside0.mk (blk_below (g := gb847) (o := .cells #[.slice A0_0 l0_0.length c0_0, .slice A0_1 l0_1.length c0_1] 24 (0, 0)) (by (with_reducible repeat (first | refine blk_drewN ?_ _ | refine blk_drew ?_ | refine blk_alloc ?_ _)); refine blk_far ?_ NB847_862.out _; (with_reducible repeat (first | refine blk_drewN ?_ _ | refine blk_drew ?_ | refine blk_alloc ?_ _)); refine blk_far ?_ NB847_862.out _; (with_reducible repeat (first | refine blk_drewN ?_ _ | refine blk_drew ?_ | refine blk_alloc ?_ _)); exact BK847.out) hb); have n7_ := Aside0.mk (blk_below (g := gb862) (o := .cells #[.slice Ao21 t855.length co21, .slice Ao24 t858.length co24] 27 (0, 0)) (by (with_reducible repeat (first | refine blk_drewN ?_ _ | refine blk_drew ?_ | refine blk_alloc ?_ _)); refine blk_put (cs := #[.slice Ao21 t855.length co21, .slice none 0 0]) ?_ 1 _ rfl; (with_reducible repeat (first | refine blk_drewN ?_ _ | refine blk_drew ?_ | refine blk_alloc ?_ _)); refine blk_put (cs := #[.slice none 0 0, .slice none 0 0]) ?_ 0 _ rfl; (with_reducible repeat (first | refine blk_drewN ?_ _ | refine blk_drew ?_ | refine blk_alloc ?_ _)); exact BK862.out) hb); have n8_ := Aside0.mk (below_step (by repeat (first | (with_reducible first | exact HB.out | apply below_alloc | apply pw_below_drewN | apply below_drew1 | refine below_set ?_ GE847.out | refine below_set ?_ GE862.out) | exact HB.out)) hb); clear HO851; clear HO854; clear HO857; clear HO860; clear BK847; clear BK862; clear HB; have HO851 := n0_; have HO854 := n1_; have HO857 := n2_; have HO860 := n3_; have HO865 := n4_; have HO868 := n5_; have BK847 := n6_; have BK862 := n7_; have HB := n8_; clear n0_ n1_ n2_ n3_ n4_ n5_ n6_ n7_ n8_; (try clear hb); (try clear hb2); (try clear hk); (try clear hi); (try clear ho0); (try clear ho1)) | ((with_reducible refine gate_dst (N := 6) rfl ?_); refine box_event ?hg (N := 6) ?hd (cs := #[.slice none 0 0, .slice none 0 0]) (t := 27) ?hr ?_; (case hd => rfl); (case hg => rfl); (case hr => first | (go_simp; done) | (go_simp; rfl)); intro gb869 hg w27 hbox hb; have n0_ := Aside0.mk (Kd.R_below (by (with_reducible repeat (first | apply Kd.R_alloc | apply Kd.R_drewN | apply Kd.R_drew)); exact HO851.out) hb); have n1_ := Aside0.mk (Kd.R_below (by (with_reducible repeat (first | apply Kd.R_alloc | apply Kd.R_drewN | apply Kd.R_drew)); exact HO854.out) hb); have n2_ := Aside0.mk (Kd.R_below (by (with_reducible repeat (first | apply Kd.R_alloc | apply Kd.R_drewN | apply Kd.R_drew)); exact HO857.out) hb); have n3_ := Aside0.mk (Kd.R_below (by (with_reducible repeat (first | apply Kd.R_alloc | apply Kd.R_drewN | apply Kd.R_drew)); exact HO860.out) hb); have n4_ := Aside0.mk (Kd.R_below (by (with_reducible repeat (first | apply Kd.R_alloc | apply Kd.R_drewN | apply Kd.R_drew)); exact HO865.out) hb); have n5_ := Aside0.mk (Kd.R_below (by (with_reducible repeat (first | apply Kd.R_alloc | apply Kd.R_drewN | apply Kd.R_drew)); exact HO868.out) hb); have n6_ := Aside0.mk (blk_below (g := gb847) (o := .cells #[.slice A0_0 l0_0.length c0_0, .slice A0_1 l0_1.length c0_1] 24 (0, 0)) (by (with_reducible repeat (first | refine blk_drewN ?_ _ | refine blk_drew ?_ | refine blk_alloc ?_ _)); exact BK847.out) hb); have n7_ := Aside0.mk (blk_below (g := gb862) (o := .cells #[.slice Ao21 t855.length co21, .slice Ao24 t858.length co24] 27 (0, 0)) (by (with_reducible repeat (first | refine blk_drewN ?_ _ | refine blk_drew ?_ | refine blk_alloc ?_ _)); exact BK862.out) hb); have n8_ := Aside0.mk (below_step (by repeat (first | (with_reducible first | exact HB.out | apply below_alloc | apply pw_below_drewN | apply below_drew1 | refine below_set ?_ GE847.out | refine below_set ?_ GE862.out) | exact HB.out)) hb); have n9_ := Aside0.mk (hbox); have n10_ := Aside0.mk ((by rw [hg]; exact (below_size (by repeat (first | (with_reducible first | exact HB.out | apply below_alloc | apply pw_below_drewN | apply below_drew1 | refine below_set ?_ GE847.out | refine below_set ?_ GE862.out) | exact HB.out))) : w.heap.size ≤ gb869)); have n11_ := Aside0.mk ((by rw [hg]; exact (below_size (by repeat (first | (with_reducible first | exact HB.out | apply below_alloc | apply pw_below_drewN | apply below_drew1 | refine below_set ?_ GE847.out | refine below_set ?_ GE862.out) | exact HB.out))) : w.heap.size ≤ gb869)); have n12_ := Aside0.mk ((by rw [hg]; exact Nat.ne_of_lt (blk_lt (g := gb847) (o := .cells #[.slice A0_0 l0_0.length c0_0, .slice A0_1 l0_1.length c0_1] 24 (0, 0)) (by (with_reducible repeat (first | refine blk_drewN ?_ _ | refine blk_drew ?_ | refine blk_alloc ?_ _)); exact BK847.out)) : gb847 ≠ gb869)); have n13_ := Aside0.mk ((by rw [hg]; exact Nat.ne_of_gt (blk_lt (g := gb847) (o := .cells #[.slice A0_0 l0_0.length c0_0, .slice A0_1 l0_1.length c0_1] 24 (0, 0)) (by (with_reducible repeat (first | refine blk_drewN ?_ _ | refine blk_drew ?_ | refine blk_alloc ?_ _)); exact BK847.out)) : gb869 ≠ gb847)); have n14_ := Aside0.mk ((by rw [hg]; exact Nat.ne_of_lt (blk_lt (g := gb862) (o := .cells #[.slice Ao21 t855.length co21, .slice Ao24 t858.length co24] 27 (0, 0)) (by (with_reducible repeat (first | refine blk_drewN ?_ _ | refine blk_drew ?_ | refine blk_alloc ?_ _)); exact BK862.out)) : gb862 ≠ gb869)); have n15_ := Aside0.mk ((by rw [hg]; exact Nat.ne_of_gt (blk_lt (g := gb862) (o := .cells #[.slice Ao21 t855.length co21, .slice Ao24 t858.length co24] 27 (0, 0)) (by (with_reducible repeat (first | refine blk_drewN ?_ _ | refine blk_drew ?_ | refine blk_alloc ?_ _)); exact BK862.out)) : gb869 ≠ gb862)); clear HO851; clear HO854; clear HO857; clear HO860; clear HO865; clear HO868; clear BK847; clear BK862; clear HB; have HO851 := n0_; have HO854 := n1_; have HO857 := n2_; have HO860 := n3_; have HO865 := n4_; have HO868 := n5_; have BK847 := n6_; have BK862 := n7_; have HB := n8_; have BK869 := n9_; have GW869 := n10_; have GE869 := n11_; have NB847_869 := n12_; have NB869_847 := n13_; have NB862_869 := n14_; have NB869_862 := n15_; clear n0_ n1_ n2_ n3_ n4_ n5_ n6_ n7_ n8_ n9_ n10_ n11_ n12_ n13_ n14_ n15_; clear hb hbox hg; obtain ⟨Ao28, co28, eo28⟩ := Kd.R_slice HO865.out; subst eo28; have hnb29 := NB869_847.out; have hnc29 := NB847_869.out; have hnb30 := NB869_862.out; have hnc30 := NB862_869.out; have hcz31_0 : w27.cell? ⟨gb869, 0, none⟩ = some (.slice none 0 0) := (blk_cell BK869.out 0).trans rfl; have hcz31_1 : w27.cell? ⟨gb869, 1, none⟩ = some (.slice none 0 0) := (blk_cell BK869.out 1).trans rfl; have hfz31_0 := blk_frozen BK869.out 0; have hfz31_1 := blk_frozen BK869.out 1; obtain ⟨Ao32, co32, eo32⟩ := Kd.R_slice HO868.out; subst eo32) | ((with_reducible refine gate_callee (f := 50) rfl ?_); refine goesL_ (some 29) rfl rfl Try.func50 (by kernel_rfl) rfl #[.agg #[.slice Ao28 t863.length co28, .slice Ao32 t866.length co32]] rfl (by (try simp only [List.map_toArray, List.map_cons, List.map_nil]); first | done | rfl | (simp only [List.length_drop, List.length_take]; rfl)) ?_; (with_reducible refine (impl_UnshearSurface.calls k _ _ t863 _ _ t866 t870 t873 t876 _ ?side1 ?side2 ?side3 ?side4 A10.out).mono ?_); (case side1 => refine (Kd.R_reads' (e := 3) (base := w.heap.size) (ok := fun k_ => ((((some k_ ≠ (.slice Ao32 t866.length co32 : Value).ownBlock ∧ some k_ ≠ (.slice Ao17 t849.length co17 : Value).ownBlock) ∧ some k_ ≠ (.slice Ao18 t852.length co18 : Value).ownBlock) ∧ some k_ ≠ (.slice Ao21 t855.length co21 : Value).ownBlock) ∧ some k_ ≠ (.slice Ao24 t858.length co24 : Value).ownBlock)) (n := t863.length) (c := co28) ?_).2.2; exact (by (with_reducible repeat (first | apply Kd.R_alloc | apply Kd.R_drewN | apply Kd.R_drew)); exact (Kd.R_mono (Kd.R_far (p := ⟨gb869, 1, none⟩) (Kd.R_far (p := ⟨gb869, 0, none⟩) (Kd.R_types HO865.out BK869.out (by decide)) (fun _ hk => hk.2) (.slice Ao28 t863.length co28)) (fun _ hk => hk.2) (.slice Ao32 t866.length co32)) (fun _ h_ => h_.1)))); (case side2 => exact (Kd.R_reads' HO865.out).2.1); (case side3 => refine (Kd.R_reads' (e := 3) (base := w.heap.size) (ok := fun k_ => ((((some k_ ≠ (.slice Ao28 t863.length co28 : Value).ownBlock ∧ some k_ ≠ (.slice Ao17 t849.length co17 : Value).ownBlock) ∧ some k_ ≠ (.slice Ao18 t852.length co18 : Value).ownBlock) ∧ some k_ ≠ (.slice Ao21 t855.length co21 : Value).ownBlock) ∧ some k_ ≠ (.slice Ao24 t858.length co24 : Value).ownBlock)) (n := t866.length) (c := co32) ?_).2.2; exact (by (with_reducible repeat (first | apply Kd.R_alloc | apply Kd.R_drewN | apply Kd.R_drew)); exact (Kd.R_mono (Kd.R_far (p := ⟨gb869, 1, none⟩) (Kd.R_far (p := ⟨gb869, 0, none⟩) (Kd.R_types HO868.out BK869.out (by decide)) (fun _ hk => hk.2) (.slice Ao28 t863.length co28)) (fun _ hk => hk.2) (.slice Ao32 t866.length co32)) (fun _ h_ => h_.1)))); (case side4 => exact (Kd.R_reads' HO868.out).2.1); rintro e w33 ⟨v871, v874, rfl, ho0, ho1, hb⟩; refine ⟨_, rfl, ?_⟩; have n0_ := Aside0.mk (Kd.R_mono (Kd.R_told (Kd.R_told (Kd.R_old (by (with_reducible repeat (first | apply Kd.R_alloc | apply Kd.R_drewN | apply Kd.R_drew)); exact (Kd.R_mono (Kd.R_far (p := ⟨gb869, 1, none⟩) (Kd.R_far (p := ⟨gb869, 0, none⟩) (Kd.R_types HO851.out BK869.out (by decide)) (fun _ hk => hk.2) (.slice Ao28 t863.length co28)) (fun _ hk => hk.2) (.slice Ao32 t866.length co32)) (fun _ h_ => h_.1))) hb) (Kd.R_base ho0)) (Kd.R_base ho1)) (fun _ h_ => h_.1)); have n1_ := Aside0.mk (Kd.R_mono (Kd.R_told (Kd.R_told (Kd.R_old (by (with_reducible repeat (first | apply Kd.R_alloc | apply Kd.R_drewN | apply Kd.R_drew)); exact (Kd.R_mono (Kd.R_far (p := ⟨gb869, 1, none⟩) (Kd.R_far (p := ⟨gb869, 0, none⟩) (Kd.R_types HO854.out BK869.out (by decide)) (fun _ hk => hk.2) (.slice Ao28 t863.length co28)) (fun _ hk => hk.2) (.slice Ao32 t866.length co32)) (fun _ h_ => h_.1))) hb) (Kd.R_base ho0)) (Kd.R_base ho1)) (fun _ h_ => h_.1)); have n2_ := Aside0.mk (Kd.R_mono (Kd.R_told (Kd.R_told (Kd.R_old (by (with_reducible repeat (first | apply Kd.R_alloc | apply Kd.R_drewN | apply Kd.R_drew)); exact (Kd.R_mono (Kd.R_far (p := ⟨gb869, 1, none⟩) (Kd.R_far (p := ⟨gb869, 0, none⟩) (Kd.R_types HO857.out BK869.out (by decide)) (fun _ hk => hk.2) (.slice Ao28 t863.length co28)) (fun _ hk => hk.2) (.slice Ao32 t866.length co32)) (fun _ h_ => h_.1))) hb) (Kd.R_base ho0)) (Kd.R_base ho1)) (fun _ h_ => h_.1)); have n3_ := Aside0.mk (Kd.R_mono (Kd.R_told (Kd.R_told (Kd.R_old (by (with_reducible repeat (first | apply Kd.R_alloc | apply Kd.R_drewN | apply Kd.R_drew)); exact (Kd.R_mono (Kd.R_far (p := ⟨gb869, 1, none⟩) (Kd.R_far (p := ⟨gb869, 0, none⟩) (Kd.R_types HO860.out BK869.out (by decide)) (fun _ hk => hk.2) (.slice Ao28 t863.length co28)) (fun _ hk => hk.2) (.slice Ao32 t866.length co32)) (fun _ h_ => h_.1))) hb) (Kd.R_base ho0)) (Kd.R_base ho1)) (fun _ h_ => h_.1)); have n4_ := Aside0.mk (Kd.R_mono (Kd.R_told (Kd.R_told (Kd.R_old (by (with_reducible repeat (first | apply Kd.R_alloc | apply Kd.R_drewN | apply Kd.R_drew)); exact (Kd.R_mono (Kd.R_far (p := ⟨gb869, 1, none⟩) (Kd.R_far (p := ⟨gb869, 0, none⟩) (Kd.R_types HO865.out BK869.out (by decide)) (fun _ hk => hk.2) (.slice Ao28 t863.length co28)) (fun _ hk => hk.2) (.slice Ao32 t866.length co32)) (fun _ h_ => h_.1))) hb) (Kd.R_base ho0)) (Kd.R_base ho1)) (fun _ h_ => h_.1)); have n5_ := Aside0.mk (Kd.R_mono (Kd.R_told (Kd.R_told (Kd.R_old (by (with_reducible repeat (first | apply Kd.R_alloc | apply Kd.R_drewN | apply Kd.R_drew)); exact (Kd.R_mono (Kd.R_far (p := ⟨gb869, 1, none⟩) (Kd.R_far (p := ⟨gb869, 0, none⟩) (Kd.R_types HO868.out BK869.out (by decide)) (fun _ hk => hk.2) (.slice Ao28 t863.length co28)) (fun _ hk => hk.2) (.slice Ao32 t866.length co32)) (fun _ h_ => h_.1))) hb) (Kd.R_base ho0)) (Kd.R_base ho1)) (fun _ h_ => h_.1)); have n6_ := Aside0.mk (Kd.R_lower (Kd.R_new' (Kd.R_new' (Kd.R_new' (Kd.R_new' (Kd.R_new' (Kd.R_new' ho0 (Kd.R_lt (by (with_reducible repeat (first | apply Kd.R_alloc | apply Kd.R_drewN | apply Kd.R_drew)); exact (Kd.R_mono (Kd.R_far (p := ⟨gb869, 1, none⟩) (Kd.R_far (p := ⟨gb869, 0, none⟩) (Kd.R_types HO851.out BK869.out (by decide)) (fun _ hk => hk.2) (.slice Ao28 t863.length co28)) (fun _ hk => hk.2) (.slice Ao32 t866.length co32)) (fun _ h_ => h_.1))))) (Kd.R_lt (by (with_reducible repeat (first | apply Kd.R_alloc | apply Kd.R_drewN | apply Kd.R_drew)); exact (Kd.R_mono (Kd.R_far (p := ⟨gb869, 1, none⟩) (Kd.R_far (p := ⟨gb869, 0, none⟩) (Kd.R_types HO854.out BK869.out (by decide)) (fun _ hk => hk.2) (.slice Ao28 t863.length co28)) (fun _ hk => hk.2) (.slice Ao32 t866.length co32)) (fun _ h_ => h_.1))))) (Kd.R_lt (by (with_reducible repeat (first | apply Kd.R_alloc | apply Kd.R_drewN | apply Kd.R_drew)); exact (Kd.R_mono (Kd.R_far (p := ⟨gb869, 1, none⟩) (Kd.R_far (p := ⟨gb869, 0, none⟩) (Kd.R_types HO857.out BK869.out (by decide)) (fun _ hk => hk.2) (.slice Ao28 t863.length co28)) (fun _ hk => hk.2) (.slice Ao32 t866.length co32)) (fun _ h_ => h_.1))))) (Kd.R_lt (by (with_reducible repeat (first | apply Kd.R_alloc | apply Kd.R_drewN | apply Kd.R_drew)); exact (Kd.R_mono (Kd.R_far (p := ⟨gb869, 1, none⟩) (Kd.R_far (p := ⟨gb869, 0, none⟩) (Kd.R_types HO860.out BK869.out (by decide)) (fun _ hk => hk.2) (.slice Ao28 t863.length co28)) (fun _ hk => hk.2) (.slice Ao32 t866.length co32)) (fun _ h_ => h_.1))))) (Kd.R_lt (by (with_reducible repeat (first | apply Kd.R_alloc | apply Kd.R_drewN | apply Kd.R_drew)); exact (Kd.R_mono (Kd.R_far (p := ⟨gb869, 1, none⟩) (Kd.R_far (p := ⟨gb869, 0, none⟩) (Kd.R_types HO865.out BK869.out (by decide)) (fun _ hk => hk.2) (.slice Ao28 t863.length co28)) (fun _ hk => hk.2) (.slice Ao32 t866.length co32)) (fun _ h_ => h_.1))))) (Kd.R_lt (by (with_reducible repeat (first | apply Kd.R_alloc | apply Kd.R_drewN | apply Kd.R_drew)); exact (Kd.R_mono (Kd.R_far (p := ⟨gb869, 1, none⟩) (Kd.R_far (p := ⟨gb869, 0, none⟩) (Kd.R_types HO868.out BK869.out (by decide)) (fun _ hk => hk.2) (.slice Ao28 t863.length co28)) (fun _ hk => hk.2) (.slice Ao32 t866.length co32)) (fun _ h_ => h_.1))))) (below_size (by repeat (first | (with_reducible first | exact HB.out | apply below_alloc | apply pw_below_drewN | apply below_drew1 | refine below_set ?_ GE847.out | refine below_set ?_ GE862.out | refine below_set ?_ GE869.out) | exact HB.out)))); have n7_ := Aside0.mk (Kd.R_lower (Kd.R_new' (Kd.R_new' (Kd.R_new' (Kd.R_new' (Kd.R_new' (Kd.R_new' ho1 (Kd.R_lt (by (with_reducible repeat (first | apply Kd.R_alloc | apply Kd.R_drewN | apply Kd.R_drew)); exact (Kd.R_mono (Kd.R_far (p := ⟨gb869, 1, none⟩) (Kd.R_far (p := ⟨gb869, 0, none⟩) (Kd.R_types HO851.out BK869.out (by decide)) (fun _ hk => hk.2) (.slice Ao28 t863.length co28)) (fun _ hk => hk.2) (.slice Ao32 t866.length co32)) (fun _ h_ => h_.1))))) (Kd.R_lt (by (with_reducible repeat (first | apply Kd.R_alloc | apply Kd.R_drewN | apply Kd.R_drew)); exact (Kd.R_mono (Kd.R_far (p := ⟨gb869, 1, none⟩) (Kd.R_far (p := ⟨gb869, 0, none⟩) (Kd.R_types HO854.out BK869.out (by decide)) (fun _ hk => hk.2) (.slice Ao28 t863.length co28)) (fun _ hk => hk.2) (.slice Ao32 t866.length co32)) (fun _ h_ => h_.1))))) (Kd.R_lt (by (with_reducible repeat (first | apply Kd.R_alloc | apply Kd.R_drewN | apply Kd.R_drew)); exact (Kd.R_mono (Kd.R_far (p := ⟨gb869, 1, none⟩) (Kd.R_far (p := ⟨gb869, 0, none⟩) (Kd.R_types HO857.out BK869.out (by decide)) (fun _ hk => hk.2) (.slice Ao28 t863.length co28)) (fun _ hk => hk.2) (.slice Ao32 t866.length co32)) (fun _ h_ => h_.1))))) (Kd.R_lt (by (with_reducible repeat (first | apply Kd.R_alloc | apply Kd.R_drewN | apply Kd.R_drew)); exact (Kd.R_mono (Kd.R_far (p := ⟨gb869, 1, none⟩) (Kd.R_far (p := ⟨gb869, 0, none⟩) (Kd.R_types HO860.out BK869.out (by decide)) (fun _ hk => hk.2) (.slice Ao28 t863.length co28)) (fun _ hk => hk.2) (.slice Ao32 t866.length co32)) (fun _ h_ => h_.1))))) (Kd.R_lt (by (with_reducible repeat (first | apply Kd.R_alloc | apply Kd.R_drewN | apply Kd.R_drew)); exact (Kd.R_mono (Kd.R_far (p := ⟨gb869, 1, none⟩) (Kd.R_far (p := ⟨gb869, 0, none⟩) (Kd.R_types HO865.out BK869.out (by decide)) (fun _ hk => hk.2) (.slice Ao28 t863.length co28)) (fun _ hk => hk.2) (.slice Ao32 t866.length co32)) (fun _ h_ => h_.1))))) (Kd.R_lt (by (with_reducible repeat (first | apply Kd.R_alloc | apply Kd.R_drewN | apply Kd.R_drew)); exact (Kd.R_mono (Kd.R_far (p := ⟨gb869, 1, none⟩) (Kd.R_far (p := ⟨gb869, 0, none⟩) (Kd.R_types HO868.out BK869.out (by decide)) (fun _ hk => hk.2) (.slice Ao28 t863.length co28)) (fun _ hk => hk.2) (.slice Ao32 t866.length co32)) (fun _ h_ => h_.1))))) (below_size (by repeat (first | (with_reducible first | exact HB.out | apply below_alloc | apply pw_below_drewN | apply below_drew1 | refine below_set ?_ GE847.out | refine below_set ?_ GE862.out | refine below_set ?_ GE869.out) | exact HB.out)))); have n8_ := Aside0.mk (blk_below (g := gb847) (o := .cells #[.slice A0_0 l0_0.length c0_0, .slice A0_1 l0_1.length c0_1] 24 (0, 0)) (by (with_reducible repeat (first | refine blk_drewN ?_ _ | refine blk_drew ?_ | refine blk_alloc ?_ _)); refine blk_far ?_ NB847_869.out _; (with_reducible repeat (first | refine blk_drewN ?_ _ | refine blk_drew ?_ | refine blk_alloc ?_ _)); refine blk_far ?_ NB847_869.out _; (with_reducible repeat (first | refine blk_drewN ?_ _ | refine blk_drew ?_ | refine blk_alloc ?_ _)); exact BK847.out) hb); have n9_ := Aside0.mk (blk_below (g := gb862) (o := .cells #[.slice Ao21 t855.length co21, .slice Ao24 t858.length co24] 27 (0, 0)) (by (with_reducible repeat (first | refine blk_drewN ?_ _ | refine blk_drew ?_ | refine blk_alloc ?_ _)); refine blk_far ?_ NB862_869.out _; (with_reducible repeat (first | refine blk_drewN ?_ _ | refine blk_drew ?_ | refine blk_alloc ?_ _)); refine blk_far ?_ NB862_869.out _; (with_reducible repeat (first | refine blk_drewN ?_ _ | refine blk_drew ?_ | refine blk_alloc ?_ _)); exact BK862.out) hb); have n10_ := Aside0.mk (blk_below (g := gb869) (o := .cells #[.slice Ao28 t863.length co28, .slice Ao32 t866.length co32] 27 (0, 0)) (by (with_reducible repeat (first | refine blk_drewN ?_ _ | refine blk_drew ?_ | refine blk_alloc ?_ _)); refine blk_put (cs := #[.slice Ao28 t863.length co28, .slice none 0 0]) ?_ 1 _ rfl; (with_reducible repeat (first | refine blk_drewN ?_ _ | refine blk_drew ?_ | refine blk_alloc ?_ _)); refine blk_put (cs := #[.slice none 0 0, .slice none 0 0]) ?_ 0 _ rfl; (with_reducible repeat (first | refine blk_drewN ?_ _ | refine blk_drew ?_ | refine blk_alloc ?_ _)); exact BK869.out) hb); have n11_ := Aside0.mk (below_step (by repeat (first | (with_reducible first | exact HB.out | apply below_alloc | apply pw_below_drewN | apply below_drew1 | refine below_set ?_ GE847.out | refine below_set ?_ GE862.out | refine below_set ?_ GE869.out) | exact HB.out)) hb); clear HO851; clear HO854; clear HO857; clear HO860; clear HO865; clear HO868; clear BK847; clear BK862; clear BK869; clear HB; have HO851 := n0_; have HO854 := n1_; have HO857 := n2_; have HO860 := n3_; have HO865 := n4_; have HO868 := n5_; have HO872 := n6_; have HO875 := n7_; have BK847 := n8_; have BK862 := n9_; have BK869 := n10_; have HB := n11_; clear n0_ n1_ n2_ n3_ n4_ n5_ n6_ n7_ n8_ n9_ n10_ n11_; (try clear hb); (try clear hb2); (try clear hk); (try clear hi); (try clear ho0); (try clear ho1)) | ((with_reducible refine gate_dst (N := 7) rfl ?_); refine box_event ?hg (N := 7) ?hd (cs := #[.slice none 0 0, .slice none 0 0]) (t := 27) ?hr ?_; (case hd => rfl); (case hg => rfl); (case hr => first | (go_simp; done) | (go_simp; rfl)); intro gb877 hg w34 hbox hb; have n0_ := Aside0.mk (Kd.R_below (by (with_reducible repeat (first | apply Kd.R_alloc | apply Kd.R_drewN | apply Kd.R_drew)); exact HO851.out) hb); have n1_ := Aside0.mk (Kd.R_below (by (with_reducible repeat (first | apply Kd.R_alloc | apply Kd.R_drewN | apply Kd.R_drew)); exact HO854.out) hb); have n2_ := Aside0.mk (Kd.R_below (by (with_reducible repeat (first | apply Kd.R_alloc | apply Kd.R_drewN | apply Kd.R_drew)); exact HO857.out) hb); have n3_ := Aside0.mk (Kd.R_below (by (with_reducible repeat (first | apply Kd.R_alloc | apply Kd.R_drewN | apply Kd.R_drew)); exact HO860.out) hb); have n4_ := Aside0.mk (Kd.R_below (by (with_reducible repeat (first | apply Kd.R_alloc | apply Kd.R_drewN | apply Kd.R_drew)); exact HO865.out) hb); have n5_ := Aside0.mk (Kd.R_below (by (with_reducible repeat (first | apply Kd.R_alloc | apply Kd.R_drewN | apply Kd.R_drew)); exact HO868.out) hb); have n6_ := Aside0.mk (Kd.R_below (by (with_reducible repeat (first | apply Kd.R_alloc | apply Kd.R_drewN | apply Kd.R_drew)); exact HO872.out) hb); have n7_ := Aside0.mk (Kd.R_below (by (with_reducible repeat (first | apply Kd.R_alloc | apply Kd.R_drewN | apply Kd.R_drew)); exact HO875.out) hb); have n8_ := Aside0.mk (blk_below (g := gb847) (o := .cells #[.slice A0_0 l0_0.length c0_0, .slice A0_1 l0_1.length c0_1] 24 (0, 0)) (by (with_reducible repeat (first | refine blk_drewN ?_ _ | refine blk_drew ?_ | refine blk_alloc ?_ _)); exact BK847.out) hb); have n9_ := Aside0.mk (blk_below (g := gb862) (o := .cells #[.slice Ao21 t855.length co21, .slice Ao24 t858.length co24] 27 (0, 0)) (by (with_reducible repeat (first | refine blk_drewN ?_ _ | refine blk_drew ?_ | refine blk_alloc ?_ _)); exact BK862.out) hb); have n10_ := Aside0.mk (blk_below (g := gb869) (o := .cells #[.slice Ao28 t863.length co28, .slice Ao32 t866.length co32] 27 (0, 0)) (by (with_reducible repeat (first | refine blk_drewN ?_ _ | refine blk_drew ?_ | refine blk_alloc ?_ _)); exact BK869.out) hb); have n11_ := Aside0.mk (below_step (by repeat (first | (with_reducible first | exact HB.out | apply below_alloc | apply pw_below_drewN | apply below_drew1 | refine below_set ?_ GE847.out | refine below_set ?_ GE862.out | refine below_set ?_ GE869.out) | exact HB.out)) hb); have n12_ := Aside0.mk (hbox); have n13_ := Aside0.mk ((by rw [hg]; exact (below_size (by repeat (first | (with_reducible first | exact HB.out | apply below_alloc | apply pw_below_drewN | apply below_drew1 | refine below_set ?_ GE847.out | refine below_set ?_ GE862.out | refine below_set ?_ GE869.out) | exact HB.out))) : w.heap.size ≤ gb877)); have n14_ := Aside0.mk ((by rw [hg]; exact (below_size (by repeat (first | (with_reducible first | exact HB.out | apply below_alloc | apply pw_below_drewN | apply below_drew1 | refine below_set ?_ GE847.out | refine below_set ?_ GE862.out | refine below_set ?_ GE869.out) | exact HB.out))) : w.heap.size ≤ gb877)); have n15_ := Aside0.mk ((by rw [hg]; exact Nat.ne_of_lt (blk_lt (g := gb847) (o := .cells #[.slice A0_0 l0_0.length c0_0, .slice A0_1 l0_1.length c0_1] 24 (0, 0)) (by (with_reducible repeat (first | refine blk_drewN ?_ _ | refine blk_drew ?_ | refine blk_alloc ?_ _)); exact BK847.out)) : gb847 ≠ gb877)); have n16_ := Aside0.mk ((by rw [hg]; exact Nat.ne_of_gt (blk_lt (g := gb847) (o := .cells #[.slice A0_0 l0_0.length c0_0, .slice A0_1 l0_1.length c0_1] 24 (0, 0)) (by (with_reducible repeat (first | refine blk_drewN ?_ _ | refine blk_drew ?_ | refine blk_alloc ?_ _)); exact BK847.out)) : gb877 ≠ gb847)); have n17_ := Aside0.mk ((by rw [hg]; exact Nat.ne_of_lt (blk_lt (g := gb862) (o := .cells #[.slice Ao21 t855.length co21, .slice Ao24 t858.length co24] 27 (0, 0)) (by (with_reducible repeat (first | refine blk_drewN ?_ _ | refine blk_drew ?_ | refine blk_alloc ?_ _)); exact BK862.out)) : gb862 ≠ gb877)); have n18_ := Aside0.mk ((by rw [hg]; exact Nat.ne_of_gt (blk_lt (g := gb862) (o := .cells #[.slice Ao21 t855.length co21, .slice Ao24 t858.length co24] 27 (0, 0)) (by (with_reducible repeat (first | refine blk_drewN ?_ _ | refine blk_drew ?_ | refine blk_alloc ?_ _)); exact BK862.out)) : gb877 ≠ gb862)); have n19_ := Aside0.mk ((by rw [hg]; exact Nat.ne_of_lt (blk_lt (g := gb869) (o := .cells #[.slice Ao28 t863.length co28, .slice Ao32 t866.length co32] 27 (0, 0)) (by (with_reducible repeat (first | refine blk_drewN ?_ _ | refine blk_drew ?_ | refine blk_alloc ?_ _)); exact BK869.out)) : gb869 ≠ gb877)); have n20_ := Aside0.mk ((by rw [hg]; exact Nat.ne_of_gt (blk_lt (g := gb869) (o := .cells #[.slice Ao28 t863.length co28, .slice Ao32 t866.length co32] 27 (0, 0)) (by (with_reducible repeat (first | refine blk_drewN ?_ _ | refine blk_drew ?_ | refine blk_alloc ?_ _)); exact BK869.out)) : gb877 ≠ gb869)); clear HO851; clear HO854; clear HO857; clear HO860; clear HO865; clear HO868; clear HO872; clear HO875; clear BK847; clear BK862; clear BK869; clear HB; have HO851 := n0_; have HO854 := n1_; have HO857 := n2_; have HO860 := n3_; have HO865 := n4_; have HO868 := n5_; have HO872 := n6_; have HO875 := n7_; have BK847 := n8_; have BK862 := n9_; have BK869 := n10_; have HB := n11_; have BK877 := n12_; have GW877 := n13_; have GE877 := n14_; have NB847_877 := n15_; have NB877_847 := n16_; have NB862_877 := n17_; have NB877_862 := n18_; have NB869_877 := n19_; have NB877_869 := n20_; clear n0_ n1_ n2_ n3_ n4_ n5_ n6_ n7_ n8_ n9_ n10_ n11_ n12_ n13_ n14_ n15_ n16_ n17_ n18_ n19_ n20_; clear hb hbox hg; obtain ⟨Ao35, co35, eo35⟩ := Kd.R_slice HO872.out; subst eo35; have hnb36 := NB877_847.out; have hnc36 := NB847_877.out; have hnb37 := NB877_862.out; have hnc37 := NB862_877.out; have hnb38 := NB877_869.out; have hnc38 := NB869_877.out; have hcz39_0 : w34.cell? ⟨gb877, 0, none⟩ = some (.slice none 0 0) := (blk_cell BK877.out 0).trans rfl; have hcz39_1 : w34.cell? ⟨gb877, 1, none⟩ = some (.slice none 0 0) := (blk_cell BK877.out 1).trans rfl; have hfz39_0 := blk_frozen BK877.out 0; have hfz39_1 := blk_frozen BK877.out 1; obtain ⟨Ao40, co40, eo40⟩ := Kd.R_slice HO875.out; subst eo40))
    (try simp only [Act.put, List.setIfInBounds_toArray, List.set_cons_zero, List.set_cons_succ])
    go_cut [40] (fun v40 wc => ∃ (kq : Nat) (x40_10 : Bool), v40 = .bool x40_10 ∧ Aside0 (laws_FnExactUnshearSurface.j0 kq t861 t876 x40_10 l0_0 l0_1 t855 t858 t863 t866 t870 t873 = some true) ∧ Aside0 (kq ≤ k) ∧ Aside0 (Kd.R (Kd.int .i64) 3 wc w.heap.size (fun k_ => some k_ ≠ ((.slice Ao24 t858.length co24) : Value).ownBlock ∧ some k_ ≠ ((.slice Ao28 t863.length co28) : Value).ownBlock ∧ some k_ ≠ ((.slice Ao32 t866.length co32) : Value).ownBlock ∧ some k_ ≠ ((.slice Ao35 t870.length co35) : Value).ownBlock ∧ some k_ ≠ ((.slice Ao40 t873.length co40) : Value).ownBlock) (.slice Ao21 t855.length co21) t855) ∧ Aside0 (Kd.R (Kd.int .i64) 3 wc w.heap.size (fun k_ => some k_ ≠ ((.slice Ao21 t855.length co21) : Value).ownBlock ∧ some k_ ≠ ((.slice Ao28 t863.length co28) : Value).ownBlock ∧ some k_ ≠ ((.slice Ao32 t866.length co32) : Value).ownBlock ∧ some k_ ≠ ((.slice Ao35 t870.length co35) : Value).ownBlock ∧ some k_ ≠ ((.slice Ao40 t873.length co40) : Value).ownBlock) (.slice Ao24 t858.length co24) t858) ∧ Aside0 (Kd.R (Kd.int .i64) 3 wc w.heap.size (fun k_ => some k_ ≠ ((.slice Ao21 t855.length co21) : Value).ownBlock ∧ some k_ ≠ ((.slice Ao24 t858.length co24) : Value).ownBlock ∧ some k_ ≠ ((.slice Ao32 t866.length co32) : Value).ownBlock ∧ some k_ ≠ ((.slice Ao35 t870.length co35) : Value).ownBlock ∧ some k_ ≠ ((.slice Ao40 t873.length co40) : Value).ownBlock) (.slice Ao28 t863.length co28) t863) ∧ Aside0 (Kd.R (Kd.int .i64) 3 wc w.heap.size (fun k_ => some k_ ≠ ((.slice Ao21 t855.length co21) : Value).ownBlock ∧ some k_ ≠ ((.slice Ao24 t858.length co24) : Value).ownBlock ∧ some k_ ≠ ((.slice Ao28 t863.length co28) : Value).ownBlock ∧ some k_ ≠ ((.slice Ao35 t870.length co35) : Value).ownBlock ∧ some k_ ≠ ((.slice Ao40 t873.length co40) : Value).ownBlock) (.slice Ao32 t866.length co32) t866) ∧ Aside0 (Kd.R (Kd.int .i64) 3 wc w.heap.size (fun k_ => some k_ ≠ ((.slice Ao21 t855.length co21) : Value).ownBlock ∧ some k_ ≠ ((.slice Ao24 t858.length co24) : Value).ownBlock ∧ some k_ ≠ ((.slice Ao28 t863.length co28) : Value).ownBlock ∧ some k_ ≠ ((.slice Ao32 t866.length co32) : Value).ownBlock ∧ some k_ ≠ ((.slice Ao40 t873.length co40) : Value).ownBlock) (.slice Ao35 t870.length co35) t870) ∧ Aside0 (Kd.R (Kd.int .i64) 3 wc w.heap.size (fun k_ => some k_ ≠ ((.slice Ao21 t855.length co21) : Value).ownBlock ∧ some k_ ≠ ((.slice Ao24 t858.length co24) : Value).ownBlock ∧ some k_ ≠ ((.slice Ao28 t863.length co28) : Value).ownBlock ∧ some k_ ≠ ((.slice Ao32 t866.length co32) : Value).ownBlock ∧ some k_ ≠ ((.slice Ao35 t870.length co35) : Value).ownBlock) (.slice Ao40 t873.length co40) t873) ∧ Aside0 (wc.heap[gb847]? = some (.cells #[(.slice A0_0 l0_0.length c0_0), (.slice A0_1 l0_1.length c0_1)] 24 (0, 0))) ∧ Aside0 (wc.heap[gb862]? = some (.cells #[(.slice Ao21 t855.length co21), (.slice Ao24 t858.length co24)] 27 (0, 0))) ∧ Aside0 (wc.heap[gb869]? = some (.cells #[(.slice Ao28 t863.length co28), (.slice Ao32 t866.length co32)] 27 (0, 0))) ∧ Aside0 (wc.heap[gb877]? = some (.cells #[(.slice Ao35 t870.length co35), (.slice Ao40 t873.length co40)] 27 (0, 0))) ∧ Aside0 (Below w.heap.size w wc))
    case first =>
      have H := HC11.out
      clear HC11
      replace H := Option.bind_eq_some_iff.mp H
      obtain ⟨t878, A410, H⟩ := H
      replace H : (if t878 = true then (laws_FnExactUnshearSurface.j0 k t861 t876 (t876 != t861) l0_0 l0_1 t855 t858 t863 t866 t870 t873) else (laws_FnExactUnshearSurface.j0 k t861 t876 true l0_0 l0_1 t855 t858 t863 t866 t870 t873)) = some true := H
      have A41 := Aside0.mk A410
      clear A410
      by_cases c42 : t878 = true
      · subst c42
        have H1 : (laws_FnExactUnshearSurface.j0 k t861 t876 (t876 != t861) l0_0 l0_1 t855 t858 t863 t866 t870 t873) = some true := by rw [if_pos rfl] at H; exact H
        clear H
        have H := H1
        clear H1
        have H' := Aside0.mk H
        clear H
        have hnb43 := NB877_847.out
        have hnc43 := NB847_877.out
        have hnb44 := NB877_862.out
        have hnc44 := NB862_877.out
        have hnb45 := NB877_869.out
        have hnc45 := NB869_877.out
        have hcz46_0 : w34.cell? ⟨gb877, 0, none⟩ = some (.slice none 0 0) := (blk_cell BK877.out 0).trans rfl
        have hcz46_1 : w34.cell? ⟨gb877, 1, none⟩ = some (.slice none 0 0) := (blk_cell BK877.out 1).trans rfl
        have hfz46_0 := blk_frozen BK877.out 0
        have hfz46_1 := blk_frozen BK877.out 1
        have hnb47 := NB862_847.out
        have hnc47 := NB847_862.out
        have hnb48 := NB862_869.out
        have hnc48 := NB869_862.out
        have hcz49_0 : w34.cell? ⟨gb862, 0, none⟩ = some (.slice Ao21 t855.length co21) := (blk_cell BK862.out 0).trans rfl
        have hcz49_1 : w34.cell? ⟨gb862, 1, none⟩ = some (.slice Ao24 t858.length co24) := (blk_cell BK862.out 1).trans rfl
        have hfz49_0 := blk_frozen BK862.out 0
        have hfz49_1 := blk_frozen BK862.out 1
        go_wp2_with (first | ((with_reducible refine gate_callee (f := 19) rfl ?_); refine goesL_ (some 34) rfl rfl Try.func19 (by kernel_rfl) rfl #[.agg #[.slice Ao35 t870.length co35, .slice Ao40 t873.length co40], .agg #[.slice Ao21 t855.length co21, .slice Ao24 t858.length co24]] rfl (by (try simp only [List.map_toArray, List.map_cons, List.map_nil]); first | done | rfl | (simp only [List.length_drop, List.length_take]; rfl)) ?_; (with_reducible refine (laws_eqSurface.calls k _ _ t870 _ _ t873 _ _ t855 _ _ t858 true _ ?side1 ?side2 ?side3 ?side4 ?side5 ?side6 ?side7 ?side8 A41.out).mono ?_); (case side1 => refine (Kd.R_reads' (e := 3) (base := w.heap.size) (ok := fun k_ => ((((((some k_ ≠ (.slice Ao40 t873.length co40 : Value).ownBlock ∧ some k_ ≠ (.slice Ao17 t849.length co17 : Value).ownBlock) ∧ some k_ ≠ (.slice Ao18 t852.length co18 : Value).ownBlock) ∧ some k_ ≠ (.slice Ao21 t855.length co21 : Value).ownBlock) ∧ some k_ ≠ (.slice Ao24 t858.length co24 : Value).ownBlock) ∧ some k_ ≠ (.slice Ao28 t863.length co28 : Value).ownBlock) ∧ some k_ ≠ (.slice Ao32 t866.length co32 : Value).ownBlock)) (n := t870.length) (c := co35) ?_).2.2; exact (by (with_reducible repeat (first | apply Kd.R_alloc | apply Kd.R_drewN | apply Kd.R_drew)); exact (Kd.R_mono (Kd.R_far (p := ⟨gb877, 1, none⟩) (Kd.R_far (p := ⟨gb877, 0, none⟩) (Kd.R_types HO872.out BK877.out (by decide)) (fun _ hk => hk.2) (.slice Ao35 t870.length co35)) (fun _ hk => hk.2) (.slice Ao40 t873.length co40)) (fun _ h_ => h_.1)))); (case side2 => exact (Kd.R_reads' HO872.out).2.1); (case side3 => refine (Kd.R_reads' (e := 3) (base := w.heap.size) (ok := fun k_ => ((((((some k_ ≠ (.slice Ao35 t870.length co35 : Value).ownBlock ∧ some k_ ≠ (.slice Ao17 t849.length co17 : Value).ownBlock) ∧ some k_ ≠ (.slice Ao18 t852.length co18 : Value).ownBlock) ∧ some k_ ≠ (.slice Ao21 t855.length co21 : Value).ownBlock) ∧ some k_ ≠ (.slice Ao24 t858.length co24 : Value).ownBlock) ∧ some k_ ≠ (.slice Ao28 t863.length co28 : Value).ownBlock) ∧ some k_ ≠ (.slice Ao32 t866.length co32 : Value).ownBlock)) (n := t873.length) (c := co40) ?_).2.2; exact (by (with_reducible repeat (first | apply Kd.R_alloc | apply Kd.R_drewN | apply Kd.R_drew)); exact (Kd.R_mono (Kd.R_far (p := ⟨gb877, 1, none⟩) (Kd.R_far (p := ⟨gb877, 0, none⟩) (Kd.R_types HO875.out BK877.out (by decide)) (fun _ hk => hk.2) (.slice Ao35 t870.length co35)) (fun _ hk => hk.2) (.slice Ao40 t873.length co40)) (fun _ h_ => h_.1)))); (case side4 => exact (Kd.R_reads' HO875.out).2.1); (case side5 => refine (Kd.R_reads' (e := 3) (base := w.heap.size) (ok := fun k_ => ((((((some k_ ≠ (.slice Ao24 t858.length co24 : Value).ownBlock ∧ some k_ ≠ (.slice Ao17 t849.length co17 : Value).ownBlock) ∧ some k_ ≠ (.slice Ao18 t852.length co18 : Value).ownBlock) ∧ some k_ ≠ (.slice Ao28 t863.length co28 : Value).ownBlock) ∧ some k_ ≠ (.slice Ao32 t866.length co32 : Value).ownBlock) ∧ some k_ ≠ (.slice Ao35 t870.length co35 : Value).ownBlock) ∧ some k_ ≠ (.slice Ao40 t873.length co40 : Value).ownBlock)) (n := t855.length) (c := co21) ?_).2.2; exact (by (with_reducible repeat (first | apply Kd.R_alloc | apply Kd.R_drewN | apply Kd.R_drew)); exact (Kd.R_mono (Kd.R_far (p := ⟨gb877, 1, none⟩) (Kd.R_far (p := ⟨gb877, 0, none⟩) (Kd.R_types HO857.out BK877.out (by decide)) (fun _ hk => hk.2) (.slice Ao35 t870.length co35)) (fun _ hk => hk.2) (.slice Ao40 t873.length co40)) (fun _ h_ => h_.1)))); (case side6 => exact (Kd.R_reads' HO857.out).2.1); (case side7 => refine (Kd.R_reads' (e := 3) (base := w.heap.size) (ok := fun k_ => ((((((some k_ ≠ (.slice Ao21 t855.length co21 : Value).ownBlock ∧ some k_ ≠ (.slice Ao17 t849.length co17 : Value).ownBlock) ∧ some k_ ≠ (.slice Ao18 t852.length co18 : Value).ownBlock) ∧ some k_ ≠ (.slice Ao28 t863.length co28 : Value).ownBlock) ∧ some k_ ≠ (.slice Ao32 t866.length co32 : Value).ownBlock) ∧ some k_ ≠ (.slice Ao35 t870.length co35 : Value).ownBlock) ∧ some k_ ≠ (.slice Ao40 t873.length co40 : Value).ownBlock)) (n := t858.length) (c := co24) ?_).2.2; exact (by (with_reducible repeat (first | apply Kd.R_alloc | apply Kd.R_drewN | apply Kd.R_drew)); exact (Kd.R_mono (Kd.R_far (p := ⟨gb877, 1, none⟩) (Kd.R_far (p := ⟨gb877, 0, none⟩) (Kd.R_types HO860.out BK877.out (by decide)) (fun _ hk => hk.2) (.slice Ao35 t870.length co35)) (fun _ hk => hk.2) (.slice Ao40 t873.length co40)) (fun _ h_ => h_.1)))); (case side8 => exact (Kd.R_reads' HO860.out).2.1); rintro e w50 ⟨rfl, hb⟩; refine ⟨_, rfl, ?_⟩; have n0_ := Aside0.mk (Kd.R_below (by (with_reducible repeat (first | apply Kd.R_alloc | apply Kd.R_drewN | apply Kd.R_drew)); exact (Kd.R_mono (Kd.R_far (p := ⟨gb877, 1, none⟩) (Kd.R_far (p := ⟨gb877, 0, none⟩) (Kd.R_types HO851.out BK877.out (by decide)) (fun _ hk => hk.2) (.slice Ao35 t870.length co35)) (fun _ hk => hk.2) (.slice Ao40 t873.length co40)) (fun _ h_ => h_.1))) hb); have n1_ := Aside0.mk (Kd.R_below (by (with_reducible repeat (first | apply Kd.R_alloc | apply Kd.R_drewN | apply Kd.R_drew)); exact (Kd.R_mono (Kd.R_far (p := ⟨gb877, 1, none⟩) (Kd.R_far (p := ⟨gb877, 0, none⟩) (Kd.R_types HO854.out BK877.out (by decide)) (fun _ hk => hk.2) (.slice Ao35 t870.length co35)) (fun _ hk => hk.2) (.slice Ao40 t873.length co40)) (fun _ h_ => h_.1))) hb); have n2_ := Aside0.mk (Kd.R_below (by (with_reducible repeat (first | apply Kd.R_alloc | apply Kd.R_drewN | apply Kd.R_drew)); exact (Kd.R_mono (Kd.R_far (p := ⟨gb877, 1, none⟩) (Kd.R_far (p := ⟨gb877, 0, none⟩) (Kd.R_types HO857.out BK877.out (by decide)) (fun _ hk => hk.2) (.slice Ao35 t870.length co35)) (fun _ hk => hk.2) (.slice Ao40 t873.length co40)) (fun _ h_ => h_.1))) hb); have n3_ := Aside0.mk (Kd.R_below (by (with_reducible repeat (first | apply Kd.R_alloc | apply Kd.R_drewN | apply Kd.R_drew)); exact (Kd.R_mono (Kd.R_far (p := ⟨gb877, 1, none⟩) (Kd.R_far (p := ⟨gb877, 0, none⟩) (Kd.R_types HO860.out BK877.out (by decide)) (fun _ hk => hk.2) (.slice Ao35 t870.length co35)) (fun _ hk => hk.2) (.slice Ao40 t873.length co40)) (fun _ h_ => h_.1))) hb); have n4_ := Aside0.mk (Kd.R_below (by (with_reducible repeat (first | apply Kd.R_alloc | apply Kd.R_drewN | apply Kd.R_drew)); exact (Kd.R_mono (Kd.R_far (p := ⟨gb877, 1, none⟩) (Kd.R_far (p := ⟨gb877, 0, none⟩) (Kd.R_types HO865.out BK877.out (by decide)) (fun _ hk => hk.2) (.slice Ao35 t870.length co35)) (fun _ hk => hk.2) (.slice Ao40 t873.length co40)) (fun _ h_ => h_.1))) hb); have n5_ := Aside0.mk (Kd.R_below (by (with_reducible repeat (first | apply Kd.R_alloc | apply Kd.R_drewN | apply Kd.R_drew)); exact (Kd.R_mono (Kd.R_far (p := ⟨gb877, 1, none⟩) (Kd.R_far (p := ⟨gb877, 0, none⟩) (Kd.R_types HO868.out BK877.out (by decide)) (fun _ hk => hk.2) (.slice Ao35 t870.length co35)) (fun _ hk => hk.2) (.slice Ao40 t873.length co40)) (fun _ h_ => h_.1))) hb); have n6_ := Aside0.mk (Kd.R_below (by (with_reducible repeat (first | apply Kd.R_alloc | apply Kd.R_drewN | apply Kd.R_drew)); exact (Kd.R_mono (Kd.R_far (p := ⟨gb877, 1, none⟩) (Kd.R_far (p := ⟨gb877, 0, none⟩) (Kd.R_types HO872.out BK877.out (by decide)) (fun _ hk => hk.2) (.slice Ao35 t870.length co35)) (fun _ hk => hk.2) (.slice Ao40 t873.length co40)) (fun _ h_ => h_.1))) hb); have n7_ := Aside0.mk (Kd.R_below (by (with_reducible repeat (first | apply Kd.R_alloc | apply Kd.R_drewN | apply Kd.R_drew)); exact (Kd.R_mono (Kd.R_far (p := ⟨gb877, 1, none⟩) (Kd.R_far (p := ⟨gb877, 0, none⟩) (Kd.R_types HO875.out BK877.out (by decide)) (fun _ hk => hk.2) (.slice Ao35 t870.length co35)) (fun _ hk => hk.2) (.slice Ao40 t873.length co40)) (fun _ h_ => h_.1))) hb); have n8_ := Aside0.mk (blk_below (g := gb847) (o := .cells #[.slice A0_0 l0_0.length c0_0, .slice A0_1 l0_1.length c0_1] 24 (0, 0)) (by (with_reducible repeat (first | refine blk_drewN ?_ _ | refine blk_drew ?_ | refine blk_alloc ?_ _)); refine blk_far ?_ NB847_877.out _; (with_reducible repeat (first | refine blk_drewN ?_ _ | refine blk_drew ?_ | refine blk_alloc ?_ _)); refine blk_far ?_ NB847_877.out _; (with_reducible repeat (first | refine blk_drewN ?_ _ | refine blk_drew ?_ | refine blk_alloc ?_ _)); exact BK847.out) hb); have n9_ := Aside0.mk (blk_below (g := gb862) (o := .cells #[.slice Ao21 t855.length co21, .slice Ao24 t858.length co24] 27 (0, 0)) (by (with_reducible repeat (first | refine blk_drewN ?_ _ | refine blk_drew ?_ | refine blk_alloc ?_ _)); refine blk_far ?_ NB862_877.out _; (with_reducible repeat (first | refine blk_drewN ?_ _ | refine blk_drew ?_ | refine blk_alloc ?_ _)); refine blk_far ?_ NB862_877.out _; (with_reducible repeat (first | refine blk_drewN ?_ _ | refine blk_drew ?_ | refine blk_alloc ?_ _)); exact BK862.out) hb); have n10_ := Aside0.mk (blk_below (g := gb869) (o := .cells #[.slice Ao28 t863.length co28, .slice Ao32 t866.length co32] 27 (0, 0)) (by (with_reducible repeat (first | refine blk_drewN ?_ _ | refine blk_drew ?_ | refine blk_alloc ?_ _)); refine blk_far ?_ NB869_877.out _; (with_reducible repeat (first | refine blk_drewN ?_ _ | refine blk_drew ?_ | refine blk_alloc ?_ _)); refine blk_far ?_ NB869_877.out _; (with_reducible repeat (first | refine blk_drewN ?_ _ | refine blk_drew ?_ | refine blk_alloc ?_ _)); exact BK869.out) hb); have n11_ := Aside0.mk (blk_below (g := gb877) (o := .cells #[.slice Ao35 t870.length co35, .slice Ao40 t873.length co40] 27 (0, 0)) (by (with_reducible repeat (first | refine blk_drewN ?_ _ | refine blk_drew ?_ | refine blk_alloc ?_ _)); refine blk_put (cs := #[.slice Ao35 t870.length co35, .slice none 0 0]) ?_ 1 _ rfl; (with_reducible repeat (first | refine blk_drewN ?_ _ | refine blk_drew ?_ | refine blk_alloc ?_ _)); refine blk_put (cs := #[.slice none 0 0, .slice none 0 0]) ?_ 0 _ rfl; (with_reducible repeat (first | refine blk_drewN ?_ _ | refine blk_drew ?_ | refine blk_alloc ?_ _)); exact BK877.out) hb); have n12_ := Aside0.mk (below_step (by repeat (first | (with_reducible first | exact HB.out | apply below_alloc | apply pw_below_drewN | apply below_drew1 | refine below_set ?_ GE847.out | refine below_set ?_ GE862.out | refine below_set ?_ GE869.out | refine below_set ?_ GE877.out) | exact HB.out)) hb); clear HO851; clear HO854; clear HO857; clear HO860; clear HO865; clear HO868; clear HO872; clear HO875; clear BK847; clear BK862; clear BK869; clear BK877; clear HB; have HO851 := n0_; have HO854 := n1_; have HO857 := n2_; have HO860 := n3_; have HO865 := n4_; have HO868 := n5_; have HO872 := n6_; have HO875 := n7_; have BK847 := n8_; have BK862 := n9_; have BK869 := n10_; have BK877 := n11_; have HB := n12_; clear n0_ n1_ n2_ n3_ n4_ n5_ n6_ n7_ n8_ n9_ n10_ n11_ n12_; (try clear hb); (try clear hb2); (try clear hk); (try clear hi)))
        go_meet
        case rel => exact ⟨_, ((t876 != t861)), (by first | rfl | (simp; done) | (simp [*]; done)), H', ⟨by first | omega | exact Nat.le_refl _⟩, ⟨by (with_reducible repeat (first | apply Kd.R_alloc | apply Kd.R_drewN | apply Kd.R_drew)); exact Kd.R_mono HO857.out (fun _ hk => ⟨hk.1.1.1.1.1.1, ⟨hk.1.1.1.2, ⟨hk.1.1.2, ⟨hk.1.2, hk.2⟩⟩⟩⟩)⟩, ⟨by (with_reducible repeat (first | apply Kd.R_alloc | apply Kd.R_drewN | apply Kd.R_drew)); exact Kd.R_mono HO860.out (fun _ hk => ⟨hk.1.1.1.1.1.1, ⟨hk.1.1.1.2, ⟨hk.1.1.2, ⟨hk.1.2, hk.2⟩⟩⟩⟩)⟩, ⟨by (with_reducible repeat (first | apply Kd.R_alloc | apply Kd.R_drewN | apply Kd.R_drew)); exact Kd.R_mono HO865.out (fun _ hk => ⟨hk.1.1.1.2, ⟨hk.1.1.2, ⟨hk.1.1.1.1.1.1, ⟨hk.1.2, hk.2⟩⟩⟩⟩)⟩, ⟨by (with_reducible repeat (first | apply Kd.R_alloc | apply Kd.R_drewN | apply Kd.R_drew)); exact Kd.R_mono HO868.out (fun _ hk => ⟨hk.1.1.1.2, ⟨hk.1.1.2, ⟨hk.1.1.1.1.1.1, ⟨hk.1.2, hk.2⟩⟩⟩⟩)⟩, ⟨by (with_reducible repeat (first | apply Kd.R_alloc | apply Kd.R_drewN | apply Kd.R_drew)); exact Kd.R_mono HO872.out (fun _ hk => ⟨hk.1.1.1.2, ⟨hk.1.1.2, ⟨hk.1.2, ⟨hk.2, hk.1.1.1.1.1.1⟩⟩⟩⟩)⟩, ⟨by (with_reducible repeat (first | apply Kd.R_alloc | apply Kd.R_drewN | apply Kd.R_drew)); exact Kd.R_mono HO875.out (fun _ hk => ⟨hk.1.1.1.2, ⟨hk.1.1.2, ⟨hk.1.2, ⟨hk.2, hk.1.1.1.1.1.1⟩⟩⟩⟩)⟩, ⟨by (with_reducible repeat (first | refine blk_drewN ?_ _ | refine blk_drew ?_ | refine blk_alloc ?_ _)); exact BK847.out⟩, ⟨by (with_reducible repeat (first | refine blk_drewN ?_ _ | refine blk_drew ?_ | refine blk_alloc ?_ _)); exact BK862.out⟩, ⟨by (with_reducible repeat (first | refine blk_drewN ?_ _ | refine blk_drew ?_ | refine blk_alloc ?_ _)); exact BK869.out⟩, ⟨by (with_reducible repeat (first | refine blk_drewN ?_ _ | refine blk_drew ?_ | refine blk_alloc ?_ _)); exact BK877.out⟩, ⟨by repeat (first | (with_reducible first | exact HB.out | apply below_alloc | apply pw_below_drewN | apply below_drew1 | refine below_set ?_ GE847.out | refine below_set ?_ GE862.out | refine below_set ?_ GE869.out | refine below_set ?_ GE877.out) | exact HB.out)⟩⟩
      · replace c42 := Bool.eq_false_iff.mpr c42
        subst c42
        have H1 : (laws_FnExactUnshearSurface.j0 k t861 t876 true l0_0 l0_1 t855 t858 t863 t866 t870 t873) = some true := by rw [if_neg (show ¬ (false = true) by decide)] at H; exact H
        clear H
        have H := H1
        clear H1
        exact absurd H (by cases k <;> simp [laws_FnExactUnshearSurface.j0])
    case rest =>
      clear HC11
      try clear c1
      try clear c2
      try clear p2
      try clear c3
      try clear c3b0
      try clear c4
      try clear c5
      try clear c11
      try clear c15
      try clear c17
      try clear c19
      try clear c22
      try clear c29
      try clear c30
      try clear c36
      try clear c37
      try clear c38
      try clear c42
      try clear c43
      try clear c44
      try clear c45
      try clear c47
      try clear c48
      try clear c49
      try clear c50
      try clear c51
      try clear c52
      try clear c53
      try clear c55
      try clear c56
      try clear hcz13_0
      try clear hcz13_1
      try clear hcz15_0
      try clear hcz15_1
      try clear hcz23_0
      try clear hcz23_1
      try clear hcz25_0
      try clear hcz25_1
      try clear hcz31_0
      try clear hcz31_1
      try clear hcz39_0
      try clear hcz39_1
      try clear hcz46_0
      try clear hcz46_1
      try clear hcz49_0
      try clear hcz49_1
      try clear hcz54_0
      try clear hcz54_1
      try clear hcz57_0
      try clear hcz57_1
      try clear hcz5_0
      try clear hcz5_1
      try clear hfz13_0
      try clear hfz13_1
      try clear hfz15_0
      try clear hfz15_1
      try clear hfz23_0
      try clear hfz23_1
      try clear hfz25_0
      try clear hfz25_1
      try clear hfz31_0
      try clear hfz31_1
      try clear hfz39_0
      try clear hfz39_1
      try clear hfz46_0
      try clear hfz46_1
      try clear hfz49_0
      try clear hfz49_1
      try clear hfz54_0
      try clear hfz54_1
      try clear hfz57_0
      try clear hfz57_1
      try clear hfz5_0
      try clear hfz5_1
      obtain ⟨kq, x40_10, rfl, HA, HJ10, HO_863000, HO_863001, HO_870000, HO_870001, HO_878000, HO_878001, BK847, BK862, BK869, BK877, HB⟩ := hcut
      cases kq with
      | zero => exact absurd HA.out (by simp [laws_FnExactUnshearSurface.j0])
      | succ kj10 =>
        have H := HA.out
        clear HA
        simp only [laws_FnExactUnshearSurface.j0] at H
        by_cases c59 : x40_10 = true
        · subst c59
          have H1 : (some false) = some true := by rw [if_pos rfl] at H; exact H
          clear H
          have H := H1
          clear H1
          exact absurd H (by simp)
        · replace c59 := Bool.eq_false_iff.mpr c59
          subst c59
          have H1 : ((laws_toSurface.f kj10 l0_0 l0_1).bind fun bt879 => ((laws_eqSurface.f kj10 t863 t866 bt879.1 bt879.2).bind fun t885 => (if t885 = true then ((laws_markSurface.f kj10 t863 t866 1).bind fun bt886 => (if bt886.1 < 0 then (laws_FnExactUnshearSurface.j1 kj10 t861 true l0_0 l0_1 t855 t858 t870 t873) else ((laws_eqSurface.f kj10 t870 t873 t855 t858).bind fun t889 => (if t889 = true then (laws_FnExactUnshearSurface.j1 kj10 t861 (t876 != t861) l0_0 l0_1 t855 t858 t870 t873) else (laws_FnExactUnshearSurface.j1 kj10 t861 true l0_0 l0_1 t855 t858 t870 t873))))) else (some false)))) = some true := by rw [if_neg (show ¬ (false = true) by decide)] at H; exact H
          clear H
          have H := H1
          clear H1
          replace H := Option.bind_eq_some_iff.mp H
          obtain ⟨⟨t879, t882⟩, A600, H⟩ := H
          replace H : ((laws_eqSurface.f kj10 t863 t866 t879 t882).bind fun t885 => (if t885 = true then ((laws_markSurface.f kj10 t863 t866 1).bind fun bt886 => (if bt886.1 < 0 then (laws_FnExactUnshearSurface.j1 kj10 t861 true l0_0 l0_1 t855 t858 t870 t873) else ((laws_eqSurface.f kj10 t870 t873 t855 t858).bind fun t889 => (if t889 = true then (laws_FnExactUnshearSurface.j1 kj10 t861 (t876 != t861) l0_0 l0_1 t855 t858 t870 t873) else (laws_FnExactUnshearSurface.j1 kj10 t861 true l0_0 l0_1 t855 t858 t870 t873))))) else (some false))) = some true := H
          have A60 := Aside0.mk A600
          clear A600
          replace H := Option.bind_eq_some_iff.mp H
          obtain ⟨t885, A610, H⟩ := H
          replace H : (if t885 = true then ((laws_markSurface.f kj10 t863 t866 1).bind fun bt886 => (if bt886.1 < 0 then (laws_FnExactUnshearSurface.j1 kj10 t861 true l0_0 l0_1 t855 t858 t870 t873) else ((laws_eqSurface.f kj10 t870 t873 t855 t858).bind fun t889 => (if t889 = true then (laws_FnExactUnshearSurface.j1 kj10 t861 (t876 != t861) l0_0 l0_1 t855 t858 t870 t873) else (laws_FnExactUnshearSurface.j1 kj10 t861 true l0_0 l0_1 t855 t858 t870 t873))))) else (some false)) = some true := H
          have A61 := Aside0.mk A610
          clear A610
          by_cases c62 : t885 = true
          · subst c62
            have H1 : ((laws_markSurface.f kj10 t863 t866 1).bind fun bt886 => (if bt886.1 < 0 then (laws_FnExactUnshearSurface.j1 kj10 t861 true l0_0 l0_1 t855 t858 t870 t873) else ((laws_eqSurface.f kj10 t870 t873 t855 t858).bind fun t889 => (if t889 = true then (laws_FnExactUnshearSurface.j1 kj10 t861 (t876 != t861) l0_0 l0_1 t855 t858 t870 t873) else (laws_FnExactUnshearSurface.j1 kj10 t861 true l0_0 l0_1 t855 t858 t870 t873))))) = some true := by rw [if_pos rfl] at H; exact H
            clear H
            have H := H1
            clear H1
            replace H := Option.bind_eq_some_iff.mp H
            obtain ⟨⟨t886, t887, t888⟩, A630, H⟩ := H
            replace H : (if t886 < 0 then (laws_FnExactUnshearSurface.j1 kj10 t861 true l0_0 l0_1 t855 t858 t870 t873) else ((laws_eqSurface.f kj10 t870 t873 t855 t858).bind fun t889 => (if t889 = true then (laws_FnExactUnshearSurface.j1 kj10 t861 (t876 != t861) l0_0 l0_1 t855 t858 t870 t873) else (laws_FnExactUnshearSurface.j1 kj10 t861 true l0_0 l0_1 t855 t858 t870 t873)))) = some true := H
            have A63 := Aside0.mk A630
            clear A630
            have HC64 := Aside0.mk H
            clear H
            try go_wp2
            have n0_ := Aside0.mk (Kd.R_drew HO_863000.out)
            have n1_ := Aside0.mk (Kd.R_drew HO_863001.out)
            have n2_ := Aside0.mk (Kd.R_drew HO_870000.out)
            have n3_ := Aside0.mk (Kd.R_drew HO_870001.out)
            have n4_ := Aside0.mk (Kd.R_drew HO_878000.out)
            have n5_ := Aside0.mk (Kd.R_drew HO_878001.out)
            have n6_ := Aside0.mk (blk_drew BK847.out)
            have n7_ := Aside0.mk (blk_drew BK862.out)
            have n8_ := Aside0.mk (blk_drew BK869.out)
            have n9_ := Aside0.mk (blk_drew BK877.out)
            have n10_ := Aside0.mk (below_drew1 HB.out)
            clear HO_863000 HO_863001 HO_870000 HO_870001 HO_878000 HO_878001 BK847 BK862 BK869 BK877 HB
            have HO_863000 := n0_
            have HO_863001 := n1_
            have HO_870000 := n2_
            have HO_870001 := n3_
            have HO_878000 := n4_
            have HO_878001 := n5_
            have BK847 := n6_
            have BK862 := n7_
            have BK869 := n8_
            have BK877 := n9_
            have HB := n10_
            clear n0_ n1_ n2_ n3_ n4_ n5_ n6_ n7_ n8_ n9_ n10_
            refine start_ (n := 5) (S := fun w' => w'.cell? ⟨gb869, 0, none⟩ = some (.slice Ao28 t863.length co28) ∧ w'.cell? ⟨gb869, 1, none⟩ = some (.slice Ao32 t866.length co32) ∧ w'.cell? ⟨gb847, 0, none⟩ = some (.slice A0_0 l0_0.length c0_0) ∧ w'.cell? ⟨gb847, 1, none⟩ = some (.slice A0_1 l0_1.length c0_1)) (ds := []) #[false, false, false, false, false] (by kernel_rfl) rfl rfl ⟨(blk_cell BK869.out 0).trans rfl, (blk_cell BK869.out 1).trans rfl, (blk_cell BK847.out 0).trans rfl, (blk_cell BK847.out 1).trans rfl⟩ (fun hHeld => ?_)
            generalize wc.drew = w65 at HO_863000 HO_863001 HO_870000 HO_870001 HO_878000 HO_878001 BK847 BK862 BK869 BK877 HB hHeld ⊢
            refine take_ (i := 0) (N := some 41) (v := ?_) (a' := ?_) #[true, false, false, false, false] rfl rfl (by kernel_rfl) (fun _ _ _ h => h) (Or.inl ⟨by rfl, ?_⟩) hHeld ?_ ?_
            rotate_left
            · rintro w' ⟨s0, s1, s2, s3⟩
              go_simp
              with_reducible rfl
            rotate_left
            · simp only [Act.put, List.setIfInBounds_toArray, List.set_cons_zero, List.set_cons_succ, i64_w, i32_w]
              rfl
            refine take_ (i := 1) (N := some 42) (v := ?_) (a' := ?_) #[true, true, false, false, false] rfl rfl (by kernel_rfl) (fun _ _ _ h => h) (Or.inl ⟨by rfl, ?_⟩) hHeld ?_ ?_
            rotate_left
            · rintro w' ⟨s0, s1, s2, s3⟩
              go_simp
              with_reducible rfl
            rotate_left
            · simp only [Act.put, List.setIfInBounds_toArray, List.set_cons_zero, List.set_cons_succ, i64_w, i32_w]
              rfl
            refine one_ (i := 2) (N := some 43) #[true, true, true, false, false] rfl rfl (by kernel_rfl) (by decide) (fun K hK => ?_)
            refine goes_ Try.func17 (by kernel_rfl) rfl #[.agg #[.slice A0_0 l0_0.length c0_0, .slice A0_1 l0_1.length c0_1]] (by rfl) rfl rfl (by (try simp only [List.map_toArray, List.map_cons, List.map_nil]); first | done | rfl | (simp only [List.length_drop, List.length_take]; rfl)) ?_
            with_reducible refine (laws_toSurface.calls kj10 _ _ l0_0 _ _ l0_1 t879 t882 _ ?side1 ?side2 ?side3 ?side4 A60.out).mono ?_
            (case side1 => repeat (first | exact (Kd.C_below HR0_0.out HB.out) | (with_reducible refine Kd.C_alloc ?_ _) | (with_reducible refine Kd.C_drewN ?_ _) | (with_reducible refine Kd.C_drew ?_)))
            (case side2 => exact HC0_0.out)
            (case side3 => repeat (first | exact (Kd.C_below HR0_1.out HB.out) | (with_reducible refine Kd.C_alloc ?_ _) | (with_reducible refine Kd.C_drewN ?_ _) | (with_reducible refine Kd.C_drew ?_)))
            (case side4 => exact HC0_1.out)
            rintro e w66 ⟨v880, v883, rfl, ho0, ho1, hb⟩
            refine ⟨_, rfl, ?_⟩
            have n0_ := Aside0.mk (Kd.R_mono (Kd.R_told (Kd.R_told (Kd.R_old (by (with_reducible repeat (first | apply Kd.R_alloc | apply Kd.R_drewN | apply Kd.R_drew)); exact HO_863000.out) hb) (Kd.R_base ho0)) (Kd.R_base ho1)) (fun _ h_ => h_.1))
            have n1_ := Aside0.mk (Kd.R_mono (Kd.R_told (Kd.R_told (Kd.R_old (by (with_reducible repeat (first | apply Kd.R_alloc | apply Kd.R_drewN | apply Kd.R_drew)); exact HO_863001.out) hb) (Kd.R_base ho0)) (Kd.R_base ho1)) (fun _ h_ => h_.1))
            have n2_ := Aside0.mk (Kd.R_mono (Kd.R_told (Kd.R_told (Kd.R_old (by (with_reducible repeat (first | apply Kd.R_alloc | apply Kd.R_drewN | apply Kd.R_drew)); exact HO_870000.out) hb) (Kd.R_base ho0)) (Kd.R_base ho1)) (fun _ h_ => h_.1))
            have n3_ := Aside0.mk (Kd.R_mono (Kd.R_told (Kd.R_told (Kd.R_old (by (with_reducible repeat (first | apply Kd.R_alloc | apply Kd.R_drewN | apply Kd.R_drew)); exact HO_870001.out) hb) (Kd.R_base ho0)) (Kd.R_base ho1)) (fun _ h_ => h_.1))
            have n4_ := Aside0.mk (Kd.R_mono (Kd.R_told (Kd.R_told (Kd.R_old (by (with_reducible repeat (first | apply Kd.R_alloc | apply Kd.R_drewN | apply Kd.R_drew)); exact HO_878000.out) hb) (Kd.R_base ho0)) (Kd.R_base ho1)) (fun _ h_ => h_.1))
            have n5_ := Aside0.mk (Kd.R_mono (Kd.R_told (Kd.R_told (Kd.R_old (by (with_reducible repeat (first | apply Kd.R_alloc | apply Kd.R_drewN | apply Kd.R_drew)); exact HO_878001.out) hb) (Kd.R_base ho0)) (Kd.R_base ho1)) (fun _ h_ => h_.1))
            have n6_ := Aside0.mk (Kd.R_lower (Kd.R_new' (Kd.R_new' (Kd.R_new' (Kd.R_new' (Kd.R_new' (Kd.R_new' ho0 (Kd.R_lt (by (with_reducible repeat (first | apply Kd.R_alloc | apply Kd.R_drewN | apply Kd.R_drew)); exact HO_863000.out))) (Kd.R_lt (by (with_reducible repeat (first | apply Kd.R_alloc | apply Kd.R_drewN | apply Kd.R_drew)); exact HO_863001.out))) (Kd.R_lt (by (with_reducible repeat (first | apply Kd.R_alloc | apply Kd.R_drewN | apply Kd.R_drew)); exact HO_870000.out))) (Kd.R_lt (by (with_reducible repeat (first | apply Kd.R_alloc | apply Kd.R_drewN | apply Kd.R_drew)); exact HO_870001.out))) (Kd.R_lt (by (with_reducible repeat (first | apply Kd.R_alloc | apply Kd.R_drewN | apply Kd.R_drew)); exact HO_878000.out))) (Kd.R_lt (by (with_reducible repeat (first | apply Kd.R_alloc | apply Kd.R_drewN | apply Kd.R_drew)); exact HO_878001.out))) (below_size (by repeat (first | (with_reducible first | exact HB.out | apply below_alloc | apply pw_below_drewN | apply below_drew1 | refine below_set ?_ GE847.out | refine below_set ?_ GE862.out | refine below_set ?_ GE869.out | refine below_set ?_ GE877.out) | exact HB.out))))
            have n7_ := Aside0.mk (Kd.R_lower (Kd.R_new' (Kd.R_new' (Kd.R_new' (Kd.R_new' (Kd.R_new' (Kd.R_new' ho1 (Kd.R_lt (by (with_reducible repeat (first | apply Kd.R_alloc | apply Kd.R_drewN | apply Kd.R_drew)); exact HO_863000.out))) (Kd.R_lt (by (with_reducible repeat (first | apply Kd.R_alloc | apply Kd.R_drewN | apply Kd.R_drew)); exact HO_863001.out))) (Kd.R_lt (by (with_reducible repeat (first | apply Kd.R_alloc | apply Kd.R_drewN | apply Kd.R_drew)); exact HO_870000.out))) (Kd.R_lt (by (with_reducible repeat (first | apply Kd.R_alloc | apply Kd.R_drewN | apply Kd.R_drew)); exact HO_870001.out))) (Kd.R_lt (by (with_reducible repeat (first | apply Kd.R_alloc | apply Kd.R_drewN | apply Kd.R_drew)); exact HO_878000.out))) (Kd.R_lt (by (with_reducible repeat (first | apply Kd.R_alloc | apply Kd.R_drewN | apply Kd.R_drew)); exact HO_878001.out))) (below_size (by repeat (first | (with_reducible first | exact HB.out | apply below_alloc | apply pw_below_drewN | apply below_drew1 | refine below_set ?_ GE847.out | refine below_set ?_ GE862.out | refine below_set ?_ GE869.out | refine below_set ?_ GE877.out) | exact HB.out))))
            have n8_ := Aside0.mk (blk_below (g := gb847) (o := .cells #[.slice A0_0 l0_0.length c0_0, .slice A0_1 l0_1.length c0_1] 24 (0, 0)) (by (with_reducible repeat (first | refine blk_drewN ?_ _ | refine blk_drew ?_ | refine blk_alloc ?_ _)); exact BK847.out) hb)
            have n9_ := Aside0.mk (blk_below (g := gb862) (o := .cells #[.slice Ao21 t855.length co21, .slice Ao24 t858.length co24] 27 (0, 0)) (by (with_reducible repeat (first | refine blk_drewN ?_ _ | refine blk_drew ?_ | refine blk_alloc ?_ _)); exact BK862.out) hb)
            have n10_ := Aside0.mk (blk_below (g := gb869) (o := .cells #[.slice Ao28 t863.length co28, .slice Ao32 t866.length co32] 27 (0, 0)) (by (with_reducible repeat (first | refine blk_drewN ?_ _ | refine blk_drew ?_ | refine blk_alloc ?_ _)); exact BK869.out) hb)
            have n11_ := Aside0.mk (blk_below (g := gb877) (o := .cells #[.slice Ao35 t870.length co35, .slice Ao40 t873.length co40] 27 (0, 0)) (by (with_reducible repeat (first | refine blk_drewN ?_ _ | refine blk_drew ?_ | refine blk_alloc ?_ _)); exact BK877.out) hb)
            have n12_ := Aside0.mk (below_step (by repeat (first | (with_reducible first | exact HB.out | apply below_alloc | apply pw_below_drewN | apply below_drew1 | refine below_set ?_ GE847.out | refine below_set ?_ GE862.out | refine below_set ?_ GE869.out | refine below_set ?_ GE877.out) | exact HB.out)) hb)
            clear HO_863000 HO_863001 HO_870000 HO_870001 HO_878000 HO_878001 BK847 BK862 BK869 BK877 HB
            have HO_863000 := n0_
            have HO_863001 := n1_
            have HO_870000 := n2_
            have HO_870001 := n3_
            have HO_878000 := n4_
            have HO_878001 := n5_
            have HO881 := n6_
            have HO884 := n7_
            have BK847 := n8_
            have BK862 := n9_
            have BK869 := n10_
            have BK877 := n11_
            have HB := n12_
            clear n0_ n1_ n2_ n3_ n4_ n5_ n6_ n7_ n8_ n9_ n10_ n11_ n12_
            (try clear hb)
            (try clear hb2)
            (try clear hk)
            (try clear hi)
            (try clear ho0)
            (try clear ho1)
            obtain ⟨Ao67, co67, eo67⟩ := Kd.R_slice HO881.out
            (first | subst eo67 | (injection eo67 with f1_ f2_ f3_; have f4_ := f1_.symm; have f5_ := f3_.symm; clear f1_ f2_ f3_; subst f4_; subst f5_))
            obtain ⟨Ao68, co68, eo68⟩ := Kd.R_slice HO884.out
            (first | subst eo68 | (injection eo68 with f1_ f2_ f3_; have f4_ := f1_.symm; have f5_ := f3_.symm; clear f1_ f2_ f3_; subst f4_; subst f5_))
            refine hK.out _ _ ⟨(blk_cell BK869.out 0).trans rfl, (blk_cell BK869.out 1).trans rfl, (blk_cell BK847.out 0).trans rfl, (blk_cell BK847.out 1).trans rfl⟩ (fun hHeld => ?_)
            clear hK K
            refine norm_ (a' := ?_) ?_ ?_
            rotate_left
            · show Act.put _ (some 43) _ = _
              simp only [Act.put, List.setIfInBounds_toArray, List.set_cons_zero, List.set_cons_succ, i64_w, i32_w]
              rfl
            refine one_ (i := 3) (N := some 44) #[true, true, true, true, false] rfl rfl (by kernel_rfl) (by decide) (fun K hK => ?_)
            refine goes_ Try.func19 (by kernel_rfl) rfl #[.agg #[.slice Ao28 t863.length co28, .slice Ao32 t866.length co32], .agg #[.slice Ao67 t879.length co67, .slice Ao68 t882.length co68]] (by rfl) rfl rfl (by (try simp only [List.map_toArray, List.map_cons, List.map_nil]); first | done | rfl | (simp only [List.length_drop, List.length_take]; rfl)) ?_
            with_reducible refine (laws_eqSurface.calls kj10 _ _ t863 _ _ t866 _ _ t879 _ _ t882 true _ ?side1 ?side2 ?side3 ?side4 ?side5 ?side6 ?side7 ?side8 A61.out).mono ?_
            (case side1 => repeat (first | exact (Kd.R_reads' HO_870000.out).2.2 | (with_reducible refine Kd.C_alloc ?_ _) | (with_reducible refine Kd.C_drewN ?_ _) | (with_reducible refine Kd.C_drew ?_)))
            (case side2 => exact (Kd.R_reads' HO_870000.out).2.1)
            (case side3 => repeat (first | exact (Kd.R_reads' HO_870001.out).2.2 | (with_reducible refine Kd.C_alloc ?_ _) | (with_reducible refine Kd.C_drewN ?_ _) | (with_reducible refine Kd.C_drew ?_)))
            (case side4 => exact (Kd.R_reads' HO_870001.out).2.1)
            (case side5 => repeat (first | exact (Kd.R_reads' HO881.out).2.2 | (with_reducible refine Kd.C_alloc ?_ _) | (with_reducible refine Kd.C_drewN ?_ _) | (with_reducible refine Kd.C_drew ?_)))
            (case side6 => exact (Kd.R_reads' HO881.out).2.1)
            (case side7 => repeat (first | exact (Kd.R_reads' HO884.out).2.2 | (with_reducible refine Kd.C_alloc ?_ _) | (with_reducible refine Kd.C_drewN ?_ _) | (with_reducible refine Kd.C_drew ?_)))
            (case side8 => exact (Kd.R_reads' HO884.out).2.1)
            rintro e w69 ⟨rfl, hb⟩
            refine ⟨_, rfl, ?_⟩
            have n0_ := Aside0.mk (Kd.R_below (by (with_reducible repeat (first | apply Kd.R_alloc | apply Kd.R_drewN | apply Kd.R_drew)); exact HO_863000.out) hb)
            have n1_ := Aside0.mk (Kd.R_below (by (with_reducible repeat (first | apply Kd.R_alloc | apply Kd.R_drewN | apply Kd.R_drew)); exact HO_863001.out) hb)
            have n2_ := Aside0.mk (Kd.R_below (by (with_reducible repeat (first | apply Kd.R_alloc | apply Kd.R_drewN | apply Kd.R_drew)); exact HO_870000.out) hb)
            have n3_ := Aside0.mk (Kd.R_below (by (with_reducible repeat (first | apply Kd.R_alloc | apply Kd.R_drewN | apply Kd.R_drew)); exact HO_870001.out) hb)
            have n4_ := Aside0.mk (Kd.R_below (by (with_reducible repeat (first | apply Kd.R_alloc | apply Kd.R_drewN | apply Kd.R_drew)); exact HO_878000.out) hb)
            have n5_ := Aside0.mk (Kd.R_below (by (with_reducible repeat (first | apply Kd.R_alloc | apply Kd.R_drewN | apply Kd.R_drew)); exact HO_878001.out) hb)
            have n6_ := Aside0.mk (Kd.R_below (by (with_reducible repeat (first | apply Kd.R_alloc | apply Kd.R_drewN | apply Kd.R_drew)); exact HO881.out) hb)
            have n7_ := Aside0.mk (Kd.R_below (by (with_reducible repeat (first | apply Kd.R_alloc | apply Kd.R_drewN | apply Kd.R_drew)); exact HO884.out) hb)
            have n8_ := Aside0.mk (blk_below (g := gb847) (o := .cells #[.slice A0_0 l0_0.length c0_0, .slice A0_1 l0_1.length c0_1] 24 (0, 0)) (by (with_reducible repeat (first | refine blk_drewN ?_ _ | refine blk_drew ?_ | refine blk_alloc ?_ _)); exact BK847.out) hb)
            have n9_ := Aside0.mk (blk_below (g := gb862) (o := .cells #[.slice Ao21 t855.length co21, .slice Ao24 t858.length co24] 27 (0, 0)) (by (with_reducible repeat (first | refine blk_drewN ?_ _ | refine blk_drew ?_ | refine blk_alloc ?_ _)); exact BK862.out) hb)
            have n10_ := Aside0.mk (blk_below (g := gb869) (o := .cells #[.slice Ao28 t863.length co28, .slice Ao32 t866.length co32] 27 (0, 0)) (by (with_reducible repeat (first | refine blk_drewN ?_ _ | refine blk_drew ?_ | refine blk_alloc ?_ _)); exact BK869.out) hb)
            have n11_ := Aside0.mk (blk_below (g := gb877) (o := .cells #[.slice Ao35 t870.length co35, .slice Ao40 t873.length co40] 27 (0, 0)) (by (with_reducible repeat (first | refine blk_drewN ?_ _ | refine blk_drew ?_ | refine blk_alloc ?_ _)); exact BK877.out) hb)
            have n12_ := Aside0.mk (below_step (by repeat (first | (with_reducible first | exact HB.out | apply below_alloc | apply pw_below_drewN | apply below_drew1 | refine below_set ?_ GE847.out | refine below_set ?_ GE862.out | refine below_set ?_ GE869.out | refine below_set ?_ GE877.out) | exact HB.out)) hb)
            clear HO_863000 HO_863001 HO_870000 HO_870001 HO_878000 HO_878001 HO881 HO884 BK847 BK862 BK869 BK877 HB
            have HO_863000 := n0_
            have HO_863001 := n1_
            have HO_870000 := n2_
            have HO_870001 := n3_
            have HO_878000 := n4_
            have HO_878001 := n5_
            have HO881 := n6_
            have HO884 := n7_
            have BK847 := n8_
            have BK862 := n9_
            have BK869 := n10_
            have BK877 := n11_
            have HB := n12_
            clear n0_ n1_ n2_ n3_ n4_ n5_ n6_ n7_ n8_ n9_ n10_ n11_ n12_
            (try clear hb)
            (try clear hb2)
            (try clear hk)
            (try clear hi)
            refine hK.out _ _ ⟨(blk_cell BK869.out 0).trans rfl, (blk_cell BK869.out 1).trans rfl, (blk_cell BK847.out 0).trans rfl, (blk_cell BK847.out 1).trans rfl⟩ (fun hHeld => ?_)
            clear hK K
            refine norm_ (a' := ?_) ?_ ?_
            rotate_left
            · show Act.put _ (some 44) _ = _
              simp only [Act.put, List.setIfInBounds_toArray, List.set_cons_zero, List.set_cons_succ, i64_w, i32_w]
              rfl
            refine pure_ (i := 4) (N := some 45) (v := ?_) (a' := ?_) #[true, true, true, true, true] rfl rfl (by kernel_rfl) (fun _ _ _ h => h) (Or.inl ⟨by rfl, ?_⟩) ?_ ?_
            rotate_left
            · intro w'
              go_simp
              with_reducible rfl
            rotate_left
            · simp only [Act.put, List.setIfInBounds_toArray, List.set_cons_zero, List.set_cons_succ, i64_w, i32_w]
              rfl
            refine done_ (by kernel_rfl) ?_
            have hnb70 := NB869_847.out
            have hnc70 := NB847_869.out
            have hnb71 := NB869_862.out
            have hnc71 := NB862_869.out
            have hnb72 := NB869_877.out
            have hnc72 := NB877_869.out
            have hcz73_0 : w69.cell? ⟨gb869, 0, none⟩ = some (.slice Ao28 t863.length co28) := (blk_cell BK869.out 0).trans rfl
            have hcz73_1 : w69.cell? ⟨gb869, 1, none⟩ = some (.slice Ao32 t866.length co32) := (blk_cell BK869.out 1).trans rfl
            have hfz73_0 := blk_frozen BK869.out 0
            have hfz73_1 := blk_frozen BK869.out 1
            go_upto_region 14 with (first | ((with_reducible refine gate_callee (f := 42) rfl ?_); refine goesL_ (some 48) rfl rfl Try.func42 (by kernel_rfl) rfl #[.agg #[.slice Ao28 t863.length co28, .slice Ao32 t866.length co32], .int .i64 1] rfl (by (try simp only [List.map_toArray, List.map_cons, List.map_nil]); first | done | rfl | (simp only [List.length_drop, List.length_take]; rfl)) ?_; (with_reducible refine (laws_markSurface.calls kj10 (fun k_ => some k_ = (.slice Ao28 t863.length co28 : Value).ownBlock) (.slice Ao28 t863.length co28) t863 (fun k_ => some k_ = (.slice Ao32 t866.length co32 : Value).ownBlock) (.slice Ao32 t866.length co32) t866 1 t886 t887 t888 w _ ?side1 ?side2 ?side3 ?side4 ?side5 A63.out).mono ?_); (case side1 => repeat (first | (with_reducible first | exact HB.out | apply below_alloc | apply pw_below_drewN | apply below_drew1 | refine below_set ?_ GE847.out | refine below_set ?_ GE862.out | refine below_set ?_ GE869.out | refine below_set ?_ GE877.out) | exact HB.out)); (case side2 => exact Kd.R_tight rfl HO_870000.out); (case side3 => exact fun k_ e_ => (HO_870000.out.1 k_ e_.symm).1.1.2.2.1); (case side4 => exact Kd.R_tight rfl HO_870001.out); (case side5 => exact fun k_ e_ => (HO_870001.out.1 k_ e_.symm).1.1.2.2.1); rintro e w74 ⟨rfl, hy0, hy1, hb, hkp⟩; refine ⟨_, rfl, ?_⟩; have n0_ := Aside0.mk (Kd.R_mono (ok' := fun k_ => some k_ ≠ (.slice Ao24 t858.length co24 : Value).ownBlock ∧ some k_ ≠ (.slice Ao28 t863.length co28 : Value).ownBlock ∧ some k_ ≠ (.slice Ao32 t866.length co32 : Value).ownBlock ∧ some k_ ≠ (.slice Ao35 t870.length co35 : Value).ownBlock ∧ some k_ ≠ (.slice Ao40 t873.length co40 : Value).ownBlock ∧ some k_ ≠ (.slice Ao67 t879.length co67 : Value).ownBlock ∧ some k_ ≠ (.slice Ao68 t882.length co68 : Value).ownBlock) (Kd.R_keptB (HO_863000.out) hkp (fun k_ hk_ hs_ => Or.elim hs_ (fun e_ => (hk_.1.1.2.1) e_) (fun e_ => (hk_.1.1.2.2.1) e_))) (fun k_ hk_ => ⟨hk_.1.1.1.1, hk_.1.1.1.2.1, hk_.1.1.1.2.2.1, hk_.1.1.1.2.2.2.1, hk_.1.1.1.2.2.2.2, hk_.1.1.2, hk_.1.2⟩)); have n1_ := Aside0.mk (Kd.R_mono (ok' := fun k_ => some k_ ≠ (.slice Ao21 t855.length co21 : Value).ownBlock ∧ some k_ ≠ (.slice Ao28 t863.length co28 : Value).ownBlock ∧ some k_ ≠ (.slice Ao32 t866.length co32 : Value).ownBlock ∧ some k_ ≠ (.slice Ao35 t870.length co35 : Value).ownBlock ∧ some k_ ≠ (.slice Ao40 t873.length co40 : Value).ownBlock ∧ some k_ ≠ (.slice Ao67 t879.length co67 : Value).ownBlock ∧ some k_ ≠ (.slice Ao68 t882.length co68 : Value).ownBlock) (Kd.R_keptB (HO_863001.out) hkp (fun k_ hk_ hs_ => Or.elim hs_ (fun e_ => (hk_.1.1.2.1) e_) (fun e_ => (hk_.1.1.2.2.1) e_))) (fun k_ hk_ => ⟨hk_.1.1.1.1, hk_.1.1.1.2.1, hk_.1.1.1.2.2.1, hk_.1.1.1.2.2.2.1, hk_.1.1.1.2.2.2.2, hk_.1.1.2, hk_.1.2⟩)); have n2_ := Aside0.mk (Kd.R_reok rfl hy0 (fun k_ e_ => HO_870000.out.1 k_ e_)); have n3_ := Aside0.mk (Kd.R_reok rfl hy1 (fun k_ e_ => HO_870001.out.1 k_ e_)); have n4_ := Aside0.mk (Kd.R_mono (ok' := fun k_ => some k_ ≠ (.slice Ao21 t855.length co21 : Value).ownBlock ∧ some k_ ≠ (.slice Ao24 t858.length co24 : Value).ownBlock ∧ some k_ ≠ (.slice Ao28 t863.length co28 : Value).ownBlock ∧ some k_ ≠ (.slice Ao32 t866.length co32 : Value).ownBlock ∧ some k_ ≠ (.slice Ao40 t873.length co40 : Value).ownBlock ∧ some k_ ≠ (.slice Ao67 t879.length co67 : Value).ownBlock ∧ some k_ ≠ (.slice Ao68 t882.length co68 : Value).ownBlock) (Kd.R_keptB (HO_878000.out) hkp (fun k_ hk_ hs_ => Or.elim hs_ (fun e_ => (hk_.1.1.2.2.1) e_) (fun e_ => (hk_.1.1.2.2.2.1) e_))) (fun k_ hk_ => ⟨hk_.1.1.1.1, hk_.1.1.1.2.1, hk_.1.1.1.2.2.1, hk_.1.1.1.2.2.2.1, hk_.1.1.1.2.2.2.2, hk_.1.1.2, hk_.1.2⟩)); have n5_ := Aside0.mk (Kd.R_mono (ok' := fun k_ => some k_ ≠ (.slice Ao21 t855.length co21 : Value).ownBlock ∧ some k_ ≠ (.slice Ao24 t858.length co24 : Value).ownBlock ∧ some k_ ≠ (.slice Ao28 t863.length co28 : Value).ownBlock ∧ some k_ ≠ (.slice Ao32 t866.length co32 : Value).ownBlock ∧ some k_ ≠ (.slice Ao35 t870.length co35 : Value).ownBlock ∧ some k_ ≠ (.slice Ao67 t879.length co67 : Value).ownBlock ∧ some k_ ≠ (.slice Ao68 t882.length co68 : Value).ownBlock) (Kd.R_keptB (HO_878001.out) hkp (fun k_ hk_ hs_ => Or.elim hs_ (fun e_ => (hk_.1.1.2.2.1) e_) (fun e_ => (hk_.1.1.2.2.2.1) e_))) (fun k_ hk_ => ⟨hk_.1.1.1.1, hk_.1.1.1.2.1, hk_.1.1.1.2.2.1, hk_.1.1.1.2.2.2.1, hk_.1.1.1.2.2.2.2, hk_.1.1.2, hk_.1.2⟩)); have n6_ := Aside0.mk (blk_kept (by (with_reducible repeat (first | refine blk_drewN ?_ _ | refine blk_drew ?_ | refine blk_alloc ?_ _)); exact BK847.out) hkp (fun hs_ => Or.elim hs_ (fun e_ => (fun e_ => (Kd.R_ne HO_870000.out BK847.out (by decide)) e_) e_) (fun e_ => (fun e_ => (Kd.R_ne HO_870001.out BK847.out (by decide)) e_) e_))); have n7_ := Aside0.mk (blk_kept (by (with_reducible repeat (first | refine blk_drewN ?_ _ | refine blk_drew ?_ | refine blk_alloc ?_ _)); exact BK862.out) hkp (fun hs_ => Or.elim hs_ (fun e_ => (fun e_ => (Kd.R_ne HO_870000.out BK862.out (by decide)) e_) e_) (fun e_ => (fun e_ => (Kd.R_ne HO_870001.out BK862.out (by decide)) e_) e_))); have n8_ := Aside0.mk (blk_kept (by (with_reducible repeat (first | refine blk_drewN ?_ _ | refine blk_drew ?_ | refine blk_alloc ?_ _)); exact BK869.out) hkp (fun hs_ => Or.elim hs_ (fun e_ => (fun e_ => (Kd.R_ne HO_870000.out BK869.out (by decide)) e_) e_) (fun e_ => (fun e_ => (Kd.R_ne HO_870001.out BK869.out (by decide)) e_) e_))); have n9_ := Aside0.mk (blk_kept (by (with_reducible repeat (first | refine blk_drewN ?_ _ | refine blk_drew ?_ | refine blk_alloc ?_ _)); exact BK877.out) hkp (fun hs_ => Or.elim hs_ (fun e_ => (fun e_ => (Kd.R_ne HO_870000.out BK877.out (by decide)) e_) e_) (fun e_ => (fun e_ => (Kd.R_ne HO_870001.out BK877.out (by decide)) e_) e_))); have n10_ := Aside0.mk (Kd.R_mono (ok' := fun k_ => some k_ ≠ (.slice Ao21 t855.length co21 : Value).ownBlock ∧ some k_ ≠ (.slice Ao24 t858.length co24 : Value).ownBlock ∧ some k_ ≠ (.slice Ao28 t863.length co28 : Value).ownBlock ∧ some k_ ≠ (.slice Ao32 t866.length co32 : Value).ownBlock ∧ some k_ ≠ (.slice Ao35 t870.length co35 : Value).ownBlock ∧ some k_ ≠ (.slice Ao40 t873.length co40 : Value).ownBlock ∧ some k_ ≠ (.slice Ao68 t882.length co68 : Value).ownBlock) (Kd.R_keptB (HO881.out) hkp (fun k_ hk_ hs_ => Or.elim hs_ (fun e_ => (hk_.1.1.1.2) e_) (fun e_ => (hk_.1.1.2) e_))) (fun k_ hk_ => ⟨hk_.1.1.1.1.1.1.2, hk_.1.1.1.1.1.2, hk_.1.1.1.1.2, hk_.1.1.1.2, hk_.1.1.2, hk_.1.2, hk_.1.1.1.1.1.1.1⟩)); have n11_ := Aside0.mk (Kd.R_mono (ok' := fun k_ => some k_ ≠ (.slice Ao21 t855.length co21 : Value).ownBlock ∧ some k_ ≠ (.slice Ao24 t858.length co24 : Value).ownBlock ∧ some k_ ≠ (.slice Ao28 t863.length co28 : Value).ownBlock ∧ some k_ ≠ (.slice Ao32 t866.length co32 : Value).ownBlock ∧ some k_ ≠ (.slice Ao35 t870.length co35 : Value).ownBlock ∧ some k_ ≠ (.slice Ao40 t873.length co40 : Value).ownBlock ∧ some k_ ≠ (.slice Ao67 t879.length co67 : Value).ownBlock) (Kd.R_keptB (HO884.out) hkp (fun k_ hk_ hs_ => Or.elim hs_ (fun e_ => (hk_.1.1.1.2) e_) (fun e_ => (hk_.1.1.2) e_))) (fun k_ hk_ => ⟨hk_.1.1.1.1.1.1.2, hk_.1.1.1.1.1.2, hk_.1.1.1.1.2, hk_.1.1.1.2, hk_.1.1.2, hk_.1.2, hk_.1.1.1.1.1.1.1⟩)); have n12_ := Aside0.mk (hb); clear HO_863000; clear HO_863001; clear HO_870000; clear HO_870001; clear HO_878000; clear HO_878001; clear BK847; clear BK862; clear BK869; clear BK877; clear HO881; clear HO884; clear HB; have HO_863000 := n0_; have HO_863001 := n1_; have HO_870000 := n2_; have HO_870001 := n3_; have HO_878000 := n4_; have HO_878001 := n5_; have BK847 := n6_; have BK862 := n7_; have BK869 := n8_; have BK877 := n9_; have HO881 := n10_; have HO884 := n11_; have HB := n12_; clear n0_ n1_ n2_ n3_ n4_ n5_ n6_ n7_ n8_ n9_ n10_ n11_ n12_; (try clear hb); (try clear hkp); (try clear hy0); (try clear hy1)))
            (try simp only [Act.put, List.setIfInBounds_toArray, List.set_cons_zero, List.set_cons_succ])
            go_cut [61] (fun v61 wc => ∃ (kq : Nat) (x61_63 : Bool), v61 = .bool x61_63 ∧ Aside0 (laws_FnExactUnshearSurface.j1 kq t861 x61_63 l0_0 l0_1 t855 t858 t870 t873 = some true) ∧ Aside0 (kq ≤ kj10) ∧ Aside0 (Kd.R (Kd.int .i64) 3 wc w.heap.size (fun k_ => some k_ ≠ ((.slice Ao24 t858.length co24) : Value).ownBlock ∧ some k_ ≠ ((.slice Ao28 t863.length co28) : Value).ownBlock ∧ some k_ ≠ ((.slice Ao32 t866.length co32) : Value).ownBlock ∧ some k_ ≠ ((.slice Ao35 t870.length co35) : Value).ownBlock ∧ some k_ ≠ ((.slice Ao40 t873.length co40) : Value).ownBlock) (.slice Ao21 t855.length co21) t855) ∧ Aside0 (Kd.R (Kd.int .i64) 3 wc w.heap.size (fun k_ => some k_ ≠ ((.slice Ao21 t855.length co21) : Value).ownBlock ∧ some k_ ≠ ((.slice Ao28 t863.length co28) : Value).ownBlock ∧ some k_ ≠ ((.slice Ao32 t866.length co32) : Value).ownBlock ∧ some k_ ≠ ((.slice Ao35 t870.length co35) : Value).ownBlock ∧ some k_ ≠ ((.slice Ao40 t873.length co40) : Value).ownBlock) (.slice Ao24 t858.length co24) t858) ∧ Aside0 (Kd.R (Kd.int .i64) 3 wc w.heap.size (fun k_ => some k_ ≠ ((.slice Ao21 t855.length co21) : Value).ownBlock ∧ some k_ ≠ ((.slice Ao24 t858.length co24) : Value).ownBlock ∧ some k_ ≠ ((.slice Ao32 t866.length co32) : Value).ownBlock ∧ some k_ ≠ ((.slice Ao35 t870.length co35) : Value).ownBlock ∧ some k_ ≠ ((.slice Ao40 t873.length co40) : Value).ownBlock) (.slice Ao28 t863.length co28) t887) ∧ Aside0 (Kd.R (Kd.int .i64) 3 wc w.heap.size (fun k_ => some k_ ≠ ((.slice Ao21 t855.length co21) : Value).ownBlock ∧ some k_ ≠ ((.slice Ao24 t858.length co24) : Value).ownBlock ∧ some k_ ≠ ((.slice Ao28 t863.length co28) : Value).ownBlock ∧ some k_ ≠ ((.slice Ao35 t870.length co35) : Value).ownBlock ∧ some k_ ≠ ((.slice Ao40 t873.length co40) : Value).ownBlock) (.slice Ao32 t866.length co32) t888) ∧ Aside0 (Kd.R (Kd.int .i64) 3 wc w.heap.size (fun k_ => some k_ ≠ ((.slice Ao21 t855.length co21) : Value).ownBlock ∧ some k_ ≠ ((.slice Ao24 t858.length co24) : Value).ownBlock ∧ some k_ ≠ ((.slice Ao28 t863.length co28) : Value).ownBlock ∧ some k_ ≠ ((.slice Ao32 t866.length co32) : Value).ownBlock ∧ some k_ ≠ ((.slice Ao40 t873.length co40) : Value).ownBlock) (.slice Ao35 t870.length co35) t870) ∧ Aside0 (Kd.R (Kd.int .i64) 3 wc w.heap.size (fun k_ => some k_ ≠ ((.slice Ao21 t855.length co21) : Value).ownBlock ∧ some k_ ≠ ((.slice Ao24 t858.length co24) : Value).ownBlock ∧ some k_ ≠ ((.slice Ao28 t863.length co28) : Value).ownBlock ∧ some k_ ≠ ((.slice Ao32 t866.length co32) : Value).ownBlock ∧ some k_ ≠ ((.slice Ao35 t870.length co35) : Value).ownBlock) (.slice Ao40 t873.length co40) t873) ∧ Aside0 (wc.heap[gb847]? = some (.cells #[(.slice A0_0 l0_0.length c0_0), (.slice A0_1 l0_1.length c0_1)] 24 (0, 0))) ∧ Aside0 (wc.heap[gb862]? = some (.cells #[(.slice Ao21 t855.length co21), (.slice Ao24 t858.length co24)] 27 (0, 0))) ∧ Aside0 (wc.heap[gb869]? = some (.cells #[(.slice Ao28 t863.length co28), (.slice Ao32 t866.length co32)] 27 (0, 0))) ∧ Aside0 (wc.heap[gb877]? = some (.cells #[(.slice Ao35 t870.length co35), (.slice Ao40 t873.length co40)] 27 (0, 0))) ∧ Aside0 (Below w.heap.size w wc))
            case first =>
              have H := HC64.out
              clear HC64
              by_cases c75 : t886 < 0
              · rw [if_pos c75] at H
                have c75b0 : decide (t886 < 0) = true := decide_eq_true c75
                clear c75
                (first | rw [c75b0] | (simp only [i64_w, i32_w]; rw [c75b0]) | skip)
                exact absurd H (by cases kj10 <;> simp [laws_FnExactUnshearSurface.j1])
              · rw [if_neg c75] at H
                have c75b0 : decide (t886 < 0) = false := decide_eq_false c75
                clear c75
                (first | rw [c75b0] | (simp only [i64_w, i32_w]; rw [c75b0]) | skip)
                replace H := Option.bind_eq_some_iff.mp H
                obtain ⟨t889, A760, H⟩ := H
                replace H : (if t889 = true then (laws_FnExactUnshearSurface.j1 kj10 t861 (t876 != t861) l0_0 l0_1 t855 t858 t870 t873) else (laws_FnExactUnshearSurface.j1 kj10 t861 true l0_0 l0_1 t855 t858 t870 t873)) = some true := H
                have A76 := Aside0.mk A760
                clear A760
                by_cases c77 : t889 = true
                · subst c77
                  have H1 : (laws_FnExactUnshearSurface.j1 kj10 t861 (t876 != t861) l0_0 l0_1 t855 t858 t870 t873) = some true := by rw [if_pos rfl] at H; exact H
                  clear H
                  have H := H1
                  clear H1
                  have H' := Aside0.mk H
                  clear H
                  have hnb78 := NB877_847.out
                  have hnc78 := NB847_877.out
                  have hnb79 := NB877_862.out
                  have hnc79 := NB862_877.out
                  have hnb80 := NB877_869.out
                  have hnc80 := NB869_877.out
                  have hcz81_0 : w74.cell? ⟨gb877, 0, none⟩ = some (.slice Ao35 t870.length co35) := (blk_cell BK877.out 0).trans rfl
                  have hcz81_1 : w74.cell? ⟨gb877, 1, none⟩ = some (.slice Ao40 t873.length co40) := (blk_cell BK877.out 1).trans rfl
                  have hfz81_0 := blk_frozen BK877.out 0
                  have hfz81_1 := blk_frozen BK877.out 1
                  have hnb82 := NB862_847.out
                  have hnc82 := NB847_862.out
                  have hnb83 := NB862_869.out
                  have hnc83 := NB869_862.out
                  have hcz84_0 : w74.cell? ⟨gb862, 0, none⟩ = some (.slice Ao21 t855.length co21) := (blk_cell BK862.out 0).trans rfl
                  have hcz84_1 : w74.cell? ⟨gb862, 1, none⟩ = some (.slice Ao24 t858.length co24) := (blk_cell BK862.out 1).trans rfl
                  have hfz84_0 := blk_frozen BK862.out 0
                  have hfz84_1 := blk_frozen BK862.out 1
                  go_wp2_with (first | (go_at_call 19; (with_reducible refine (laws_eqSurface.calls kj10 _ _ t870 _ _ t873 _ _ t855 _ _ t858 true _ ?side1 ?side2 ?side3 ?side4 ?side5 ?side6 ?side7 ?side8 A76.out).mono ?_); (case side1 => repeat (first | exact (Kd.R_reads' HO_878000.out).2.2 | (with_reducible refine Kd.C_alloc ?_ _) | (with_reducible refine Kd.C_drewN ?_ _) | (with_reducible refine Kd.C_drew ?_))); (case side2 => exact (Kd.R_reads' HO_878000.out).2.1); (case side3 => repeat (first | exact (Kd.R_reads' HO_878001.out).2.2 | (with_reducible refine Kd.C_alloc ?_ _) | (with_reducible refine Kd.C_drewN ?_ _) | (with_reducible refine Kd.C_drew ?_))); (case side4 => exact (Kd.R_reads' HO_878001.out).2.1); (case side5 => repeat (first | exact (Kd.R_reads' HO_863000.out).2.2 | (with_reducible refine Kd.C_alloc ?_ _) | (with_reducible refine Kd.C_drewN ?_ _) | (with_reducible refine Kd.C_drew ?_))); (case side6 => exact (Kd.R_reads' HO_863000.out).2.1); (case side7 => repeat (first | exact (Kd.R_reads' HO_863001.out).2.2 | (with_reducible refine Kd.C_alloc ?_ _) | (with_reducible refine Kd.C_drewN ?_ _) | (with_reducible refine Kd.C_drew ?_))); (case side8 => exact (Kd.R_reads' HO_863001.out).2.1); rintro e w85 ⟨rfl, hb⟩; have n0_ := Aside0.mk (Kd.R_below (by (with_reducible repeat (first | apply Kd.R_alloc | apply Kd.R_drewN | apply Kd.R_drew)); exact HO_863000.out) hb); have n1_ := Aside0.mk (Kd.R_below (by (with_reducible repeat (first | apply Kd.R_alloc | apply Kd.R_drewN | apply Kd.R_drew)); exact HO_863001.out) hb); have n2_ := Aside0.mk (Kd.R_below (by (with_reducible repeat (first | apply Kd.R_alloc | apply Kd.R_drewN | apply Kd.R_drew)); exact HO_870000.out) hb); have n3_ := Aside0.mk (Kd.R_below (by (with_reducible repeat (first | apply Kd.R_alloc | apply Kd.R_drewN | apply Kd.R_drew)); exact HO_870001.out) hb); have n4_ := Aside0.mk (Kd.R_below (by (with_reducible repeat (first | apply Kd.R_alloc | apply Kd.R_drewN | apply Kd.R_drew)); exact HO_878000.out) hb); have n5_ := Aside0.mk (Kd.R_below (by (with_reducible repeat (first | apply Kd.R_alloc | apply Kd.R_drewN | apply Kd.R_drew)); exact HO_878001.out) hb); have n6_ := Aside0.mk (Kd.R_below (by (with_reducible repeat (first | apply Kd.R_alloc | apply Kd.R_drewN | apply Kd.R_drew)); exact HO881.out) hb); have n7_ := Aside0.mk (Kd.R_below (by (with_reducible repeat (first | apply Kd.R_alloc | apply Kd.R_drewN | apply Kd.R_drew)); exact HO884.out) hb); have n8_ := Aside0.mk (blk_below (g := gb847) (o := .cells #[.slice A0_0 l0_0.length c0_0, .slice A0_1 l0_1.length c0_1] 24 (0, 0)) (by (with_reducible repeat (first | refine blk_drewN ?_ _ | refine blk_drew ?_ | refine blk_alloc ?_ _)); exact BK847.out) hb); have n9_ := Aside0.mk (blk_below (g := gb862) (o := .cells #[.slice Ao21 t855.length co21, .slice Ao24 t858.length co24] 27 (0, 0)) (by (with_reducible repeat (first | refine blk_drewN ?_ _ | refine blk_drew ?_ | refine blk_alloc ?_ _)); exact BK862.out) hb); have n10_ := Aside0.mk (blk_below (g := gb869) (o := .cells #[.slice Ao28 t863.length co28, .slice Ao32 t866.length co32] 27 (0, 0)) (by (with_reducible repeat (first | refine blk_drewN ?_ _ | refine blk_drew ?_ | refine blk_alloc ?_ _)); exact BK869.out) hb); have n11_ := Aside0.mk (blk_below (g := gb877) (o := .cells #[.slice Ao35 t870.length co35, .slice Ao40 t873.length co40] 27 (0, 0)) (by (with_reducible repeat (first | refine blk_drewN ?_ _ | refine blk_drew ?_ | refine blk_alloc ?_ _)); exact BK877.out) hb); have n12_ := Aside0.mk (below_step (by repeat (first | (with_reducible first | exact HB.out | apply below_alloc | apply pw_below_drewN | apply below_drew1 | refine below_set ?_ GE847.out | refine below_set ?_ GE862.out | refine below_set ?_ GE869.out | refine below_set ?_ GE877.out) | exact HB.out)) hb); clear HO_863000; clear HO_863001; clear HO_870000; clear HO_870001; clear HO_878000; clear HO_878001; clear HO881; clear HO884; clear BK847; clear BK862; clear BK869; clear BK877; clear HB; have HO_863000 := n0_; have HO_863001 := n1_; have HO_870000 := n2_; have HO_870001 := n3_; have HO_878000 := n4_; have HO_878001 := n5_; have HO881 := n6_; have HO884 := n7_; have BK847 := n8_; have BK862 := n9_; have BK869 := n10_; have BK877 := n11_; have HB := n12_; clear n0_ n1_ n2_ n3_ n4_ n5_ n6_ n7_ n8_ n9_ n10_ n11_ n12_; (try clear hb); (try clear hb2); (try clear hk); (try clear hi)))
                  go_meet
                  case rel => exact ⟨_, ((t876 != t861)), (by first | rfl | (simp; done) | (simp [*]; done)), H', ⟨by have := HJ10.out; first | omega | exact Nat.le_refl _⟩, ⟨by (with_reducible repeat (first | apply Kd.R_alloc | apply Kd.R_drewN | apply Kd.R_drew)); exact Kd.R_mono HO_863000.out (fun _ hk => ⟨hk.1, ⟨hk.2.1, ⟨hk.2.2.1, ⟨hk.2.2.2.1, hk.2.2.2.2.1⟩⟩⟩⟩)⟩, ⟨by (with_reducible repeat (first | apply Kd.R_alloc | apply Kd.R_drewN | apply Kd.R_drew)); exact Kd.R_mono HO_863001.out (fun _ hk => ⟨hk.1, ⟨hk.2.1, ⟨hk.2.2.1, ⟨hk.2.2.2.1, hk.2.2.2.2.1⟩⟩⟩⟩)⟩, ⟨by (with_reducible repeat (first | apply Kd.R_alloc | apply Kd.R_drewN | apply Kd.R_drew)); exact Kd.R_mono HO_870000.out (fun _ hk => ⟨hk.1.1.1, ⟨hk.1.1.2.1, ⟨hk.1.1.2.2.1, ⟨hk.1.1.2.2.2.1, hk.1.1.2.2.2.2⟩⟩⟩⟩)⟩, ⟨by (with_reducible repeat (first | apply Kd.R_alloc | apply Kd.R_drewN | apply Kd.R_drew)); exact Kd.R_mono HO_870001.out (fun _ hk => ⟨hk.1.1.1, ⟨hk.1.1.2.1, ⟨hk.1.1.2.2.1, ⟨hk.1.1.2.2.2.1, hk.1.1.2.2.2.2⟩⟩⟩⟩)⟩, ⟨by (with_reducible repeat (first | apply Kd.R_alloc | apply Kd.R_drewN | apply Kd.R_drew)); exact Kd.R_mono HO_878000.out (fun _ hk => ⟨hk.1, ⟨hk.2.1, ⟨hk.2.2.1, ⟨hk.2.2.2.1, hk.2.2.2.2.1⟩⟩⟩⟩)⟩, ⟨by (with_reducible repeat (first | apply Kd.R_alloc | apply Kd.R_drewN | apply Kd.R_drew)); exact Kd.R_mono HO_878001.out (fun _ hk => ⟨hk.1, ⟨hk.2.1, ⟨hk.2.2.1, ⟨hk.2.2.2.1, hk.2.2.2.2.1⟩⟩⟩⟩)⟩, ⟨by (with_reducible repeat (first | refine blk_drewN ?_ _ | refine blk_drew ?_ | refine blk_alloc ?_ _)); exact BK847.out⟩, ⟨by (with_reducible repeat (first | refine blk_drewN ?_ _ | refine blk_drew ?_ | refine blk_alloc ?_ _)); exact BK862.out⟩, ⟨by (with_reducible repeat (first | refine blk_drewN ?_ _ | refine blk_drew ?_ | refine blk_alloc ?_ _)); exact BK869.out⟩, ⟨by (with_reducible repeat (first | refine blk_drewN ?_ _ | refine blk_drew ?_ | refine blk_alloc ?_ _)); exact BK877.out⟩, ⟨by repeat (first | (with_reducible first | exact HB.out | apply below_alloc | apply pw_below_drewN | apply below_drew1 | refine below_set ?_ GE847.out | refine below_set ?_ GE862.out | refine below_set ?_ GE869.out | refine below_set ?_ GE877.out) | exact HB.out)⟩⟩
                · replace c77 := Bool.eq_false_iff.mpr c77
                  subst c77
                  have H1 : (laws_FnExactUnshearSurface.j1 kj10 t861 true l0_0 l0_1 t855 t858 t870 t873) = some true := by rw [if_neg (show ¬ (false = true) by decide)] at H; exact H
                  clear H
                  have H := H1
                  clear H1
                  exact absurd H (by cases kj10 <;> simp [laws_FnExactUnshearSurface.j1])
            case rest =>
              clear HC64
              try clear c1
              try clear c2
              try clear p2
              try clear c3
              try clear c3b0
              try clear c4
              try clear c5
              try clear c6
              try clear c7
              try clear c8
              try clear c9
              try clear c11
              try clear c15
              try clear c17
              try clear c19
              try clear c22
              try clear c29
              try clear c30
              try clear c36
              try clear c37
              try clear c38
              try clear c42
              try clear c43
              try clear c44
              try clear c45
              try clear c47
              try clear c48
              try clear c49
              try clear c50
              try clear c51
              try clear c52
              try clear c53
              try clear c55
              try clear c56
              try clear c59
              try clear c62
              try clear c70
              try clear c71
              try clear c72
              try clear c75
              try clear c75b0
              try clear c77
              try clear c78
              try clear c79
              try clear c80
              try clear c82
              try clear c83
              try clear c86
              try clear c87
              try clear c88
              try clear c90
              try clear c91
              try clear hcz13_0
              try clear hcz13_1
              try clear hcz15_0
              try clear hcz15_1
              try clear hcz23_0
              try clear hcz23_1
              try clear hcz25_0
              try clear hcz25_1
              try clear hcz31_0
              try clear hcz31_1
              try clear hcz39_0
              try clear hcz39_1
              try clear hcz46_0
              try clear hcz46_1
              try clear hcz49_0
              try clear hcz49_1
              try clear hcz54_0
              try clear hcz54_1
              try clear hcz57_0
              try clear hcz57_1
              try clear hcz5_0
              try clear hcz5_1
              try clear hcz73_0
              try clear hcz73_1
              try clear hcz81_0
              try clear hcz81_1
              try clear hcz84_0
              try clear hcz84_1
              try clear hcz89_0
              try clear hcz89_1
              try clear hcz92_0
              try clear hcz92_1
              try clear hfz13_0
              try clear hfz13_1
              try clear hfz15_0
              try clear hfz15_1
              try clear hfz23_0
              try clear hfz23_1
              try clear hfz25_0
              try clear hfz25_1
              try clear hfz31_0
              try clear hfz31_1
              try clear hfz39_0
              try clear hfz39_1
              try clear hfz46_0
              try clear hfz46_1
              try clear hfz49_0
              try clear hfz49_1
              try clear hfz54_0
              try clear hfz54_1
              try clear hfz57_0
              try clear hfz57_1
              try clear hfz5_0
              try clear hfz5_1
              try clear hfz73_0
              try clear hfz73_1
              try clear hfz81_0
              try clear hfz81_1
              try clear hfz84_0
              try clear hfz84_1
              try clear hfz89_0
              try clear hfz89_1
              try clear hfz92_0
              try clear hfz92_1
              try clear p2
              obtain ⟨kq, x61_63, rfl, HA, HJ63, HO_863000, HO_863001, HO_870000, HO_870001, HO_878000, HO_878001, BK847, BK862, BK869, BK877, HB⟩ := hcut
              have hl870000_63 := (Kd.R_reads' HO_870000.out).1
              rw [hl870000_63] at HO_870000
              (try simp only [hl870000_63])
              (try simp only [hl870000_63] at BK847)
              (try simp only [hl870000_63] at BK862)
              (try simp only [hl870000_63] at BK869)
              (try simp only [hl870000_63] at BK877)
              (try simp only [hl870000_63] at HO_863000)
              (try simp only [hl870000_63] at HO_863001)
              (try simp only [hl870000_63] at HO_870001)
              (try simp only [hl870000_63] at HO_878000)
              (try simp only [hl870000_63] at HO_878001)
              have hl870001_63 := (Kd.R_reads' HO_870001.out).1
              rw [hl870001_63] at HO_870001
              (try simp only [hl870001_63])
              (try simp only [hl870001_63] at BK847)
              (try simp only [hl870001_63] at BK862)
              (try simp only [hl870001_63] at BK869)
              (try simp only [hl870001_63] at BK877)
              (try simp only [hl870001_63] at HO_863000)
              (try simp only [hl870001_63] at HO_863001)
              (try simp only [hl870001_63] at HO_870000)
              (try simp only [hl870001_63] at HO_878000)
              (try simp only [hl870001_63] at HO_878001)
              cases kq with
              | zero => exact absurd HA.out (by simp [laws_FnExactUnshearSurface.j1])
              | succ kj63 =>
                have H := HA.out
                clear HA
                simp only [laws_FnExactUnshearSurface.j1] at H
                by_cases c94 : x61_63 = true
                · subst c94
                  have H1 : (some false) = some true := by rw [if_pos rfl] at H; exact H
                  clear H
                  have H := H1
                  clear H1
                  exact absurd H (by simp)
                · replace c94 := Bool.eq_false_iff.mpr c94
                  subst c94
                  have H1 : ((laws_markSurface.f kj63 t870 t873 1).bind fun bt890 => ((laws_heldSurface.f kj63 bt890.2.1 bt890.2.2 1).bind fun t893 => (if t893 < 0 then (some false) else (if t893 = bt890.1 then ((laws_toSurface.f kj63 l0_0 l0_1).bind fun bt894 => ((impl_UnshearSurface.f kj63 bt894.1 bt894.2).bind fun bt900 => ((laws_eqSurface.f kj63 bt900.1 bt900.2.1 t855 t858).bind fun t908 => (if t908 = true then (laws_FnExactUnshearSurface.j2 kj63 bt890.1 (bt900.2.2 != t861) bt890.2.1 bt890.2.2) else (laws_FnExactUnshearSurface.j2 kj63 bt890.1 true bt890.2.1 bt890.2.2))))) else (some false))))) = some true := by rw [if_neg (show ¬ (false = true) by decide)] at H; exact H
                  clear H
                  have H := H1
                  clear H1
                  replace H := Option.bind_eq_some_iff.mp H
                  obtain ⟨⟨t890, t891, t892⟩, A950, H⟩ := H
                  replace H : ((laws_heldSurface.f kj63 t891 t892 1).bind fun t893 => (if t893 < 0 then (some false) else (if t893 = t890 then ((laws_toSurface.f kj63 l0_0 l0_1).bind fun bt894 => ((impl_UnshearSurface.f kj63 bt894.1 bt894.2).bind fun bt900 => ((laws_eqSurface.f kj63 bt900.1 bt900.2.1 t855 t858).bind fun t908 => (if t908 = true then (laws_FnExactUnshearSurface.j2 kj63 t890 (bt900.2.2 != t861) t891 t892) else (laws_FnExactUnshearSurface.j2 kj63 t890 true t891 t892))))) else (some false)))) = some true := H
                  have A95 := Aside0.mk A950
                  clear A950
                  replace H := Option.bind_eq_some_iff.mp H
                  obtain ⟨t893, A960, H⟩ := H
                  replace H : (if t893 < 0 then (some false) else (if t893 = t890 then ((laws_toSurface.f kj63 l0_0 l0_1).bind fun bt894 => ((impl_UnshearSurface.f kj63 bt894.1 bt894.2).bind fun bt900 => ((laws_eqSurface.f kj63 bt900.1 bt900.2.1 t855 t858).bind fun t908 => (if t908 = true then (laws_FnExactUnshearSurface.j2 kj63 t890 (bt900.2.2 != t861) t891 t892) else (laws_FnExactUnshearSurface.j2 kj63 t890 true t891 t892))))) else (some false))) = some true := H
                  have A96 := Aside0.mk A960
                  clear A960
                  by_cases c97 : t893 < 0
                  · rw [if_pos c97] at H
                    have c97b0 : decide (t893 < 0) = true := decide_eq_true c97
                    clear c97
                    exact absurd H (by simp)
                  · rw [if_neg c97] at H
                    have c97b0 : decide (t893 < 0) = false := decide_eq_false c97
                    clear c97
                    by_cases c105 : t893 = t890
                    · rw [if_pos c105] at H
                      have c105b0 : (t893 == t890) = true := beq_iff_eq.mpr c105
                      have c105b1 : (t893 != t890) = false := bne_eq_false_iff_eq.mpr c105
                      clear c105
                      replace H := Option.bind_eq_some_iff.mp H
                      obtain ⟨⟨t894, t897⟩, A1060, H⟩ := H
                      replace H : ((impl_UnshearSurface.f kj63 t894 t897).bind fun bt900 => ((laws_eqSurface.f kj63 bt900.1 bt900.2.1 t855 t858).bind fun t908 => (if t908 = true then (laws_FnExactUnshearSurface.j2 kj63 t890 (bt900.2.2 != t861) t891 t892) else (laws_FnExactUnshearSurface.j2 kj63 t890 true t891 t892)))) = some true := H
                      have A106 := Aside0.mk A1060
                      clear A1060
                      replace H := Option.bind_eq_some_iff.mp H
                      obtain ⟨⟨t900, t903, t906⟩, A1070, H⟩ := H
                      replace H : ((laws_eqSurface.f kj63 t900 t903 t855 t858).bind fun t908 => (if t908 = true then (laws_FnExactUnshearSurface.j2 kj63 t890 (t906 != t861) t891 t892) else (laws_FnExactUnshearSurface.j2 kj63 t890 true t891 t892))) = some true := H
                      have A107 := Aside0.mk A1070
                      clear A1070
                      have HC108 := Aside0.mk H
                      clear H
                      have hnb109 := NB877_847.out
                      have hnc109 := NB847_877.out
                      have hnb110 := NB877_862.out
                      have hnc110 := NB862_877.out
                      have hnb111 := NB877_869.out
                      have hnc111 := NB869_877.out
                      have hcz112_0 : wc.cell? ⟨gb877, 0, none⟩ = some (.slice Ao35 t870.length co35) := (blk_cell BK877.out 0).trans rfl
                      have hcz112_1 : wc.cell? ⟨gb877, 1, none⟩ = some (.slice Ao40 t873.length co40) := (blk_cell BK877.out 1).trans rfl
                      have hfz112_0 := blk_frozen BK877.out 0
                      have hfz112_1 := blk_frozen BK877.out 1
                      go_upto_region 25 with (first | ((with_reducible refine gate_callee (f := 42) rfl ?_); refine goesL_ (some 64) rfl rfl Try.func42 (by kernel_rfl) rfl #[.agg #[.slice Ao35 t870.length co35, .slice Ao40 t873.length co40], .int .i64 1] rfl (by (try simp only [List.map_toArray, List.map_cons, List.map_nil]); first | done | rfl | (simp only [List.length_drop, List.length_take]; rfl)) ?_; (with_reducible refine (laws_markSurface.calls kj63 (fun k_ => some k_ = (.slice Ao35 t870.length co35 : Value).ownBlock) (.slice Ao35 t870.length co35) t870 (fun k_ => some k_ = (.slice Ao40 t873.length co40 : Value).ownBlock) (.slice Ao40 t873.length co40) t873 1 t890 t891 t892 w _ ?side1 ?side2 ?side3 ?side4 ?side5 A95.out).mono ?_); (case side1 => repeat (first | (with_reducible first | exact HB.out | apply below_alloc | apply pw_below_drewN | apply below_drew1 | refine below_set ?_ GE847.out | refine below_set ?_ GE862.out | refine below_set ?_ GE869.out | refine below_set ?_ GE877.out) | exact HB.out)); (case side2 => exact Kd.R_tight rfl HO_878000.out); (case side3 => exact fun k_ e_ => (HO_878000.out.1 k_ e_.symm).2.2.2.2); (case side4 => exact Kd.R_tight rfl HO_878001.out); (case side5 => exact fun k_ e_ => (HO_878001.out.1 k_ e_.symm).2.2.2.2); rintro e w113 ⟨rfl, hy0, hy1, hb, hkp⟩; refine ⟨_, rfl, ?_⟩; have n0_ := Aside0.mk (Kd.R_mono (ok' := fun k_ => some k_ ≠ (.slice Ao24 t858.length co24 : Value).ownBlock ∧ some k_ ≠ (.slice Ao28 t887.length co28 : Value).ownBlock ∧ some k_ ≠ (.slice Ao32 t888.length co32 : Value).ownBlock ∧ some k_ ≠ (.slice Ao35 t870.length co35 : Value).ownBlock ∧ some k_ ≠ (.slice Ao40 t873.length co40 : Value).ownBlock) (Kd.R_keptB (HO_863000.out) hkp (fun k_ hk_ hs_ => Or.elim hs_ (fun e_ => (hk_.2.2.2.1) e_) (fun e_ => (hk_.2.2.2.2) e_))) (fun k_ hk_ => ⟨hk_.1.1, hk_.1.2.1, hk_.1.2.2.1, hk_.1.2.2.2.1, hk_.1.2.2.2.2⟩)); have n1_ := Aside0.mk (Kd.R_mono (ok' := fun k_ => some k_ ≠ (.slice Ao21 t855.length co21 : Value).ownBlock ∧ some k_ ≠ (.slice Ao28 t887.length co28 : Value).ownBlock ∧ some k_ ≠ (.slice Ao32 t888.length co32 : Value).ownBlock ∧ some k_ ≠ (.slice Ao35 t870.length co35 : Value).ownBlock ∧ some k_ ≠ (.slice Ao40 t873.length co40 : Value).ownBlock) (Kd.R_keptB (HO_863001.out) hkp (fun k_ hk_ hs_ => Or.elim hs_ (fun e_ => (hk_.2.2.2.1) e_) (fun e_ => (hk_.2.2.2.2) e_))) (fun k_ hk_ => ⟨hk_.1.1, hk_.1.2.1, hk_.1.2.2.1, hk_.1.2.2.2.1, hk_.1.2.2.2.2⟩)); have n2_ := Aside0.mk (Kd.R_mono (ok' := fun k_ => some k_ ≠ (.slice Ao21 t855.length co21 : Value).ownBlock ∧ some k_ ≠ (.slice Ao24 t858.length co24 : Value).ownBlock ∧ some k_ ≠ (.slice Ao32 t888.length co32 : Value).ownBlock ∧ some k_ ≠ (.slice Ao35 t870.length co35 : Value).ownBlock ∧ some k_ ≠ (.slice Ao40 t873.length co40 : Value).ownBlock) (Kd.R_keptB (HO_870000.out) hkp (fun k_ hk_ hs_ => Or.elim hs_ (fun e_ => (hk_.2.2.2.1) e_) (fun e_ => (hk_.2.2.2.2) e_))) (fun k_ hk_ => ⟨hk_.1.1, hk_.1.2.1, hk_.1.2.2.1, hk_.1.2.2.2.1, hk_.1.2.2.2.2⟩)); have n3_ := Aside0.mk (Kd.R_mono (ok' := fun k_ => some k_ ≠ (.slice Ao21 t855.length co21 : Value).ownBlock ∧ some k_ ≠ (.slice Ao24 t858.length co24 : Value).ownBlock ∧ some k_ ≠ (.slice Ao28 t887.length co28 : Value).ownBlock ∧ some k_ ≠ (.slice Ao35 t870.length co35 : Value).ownBlock ∧ some k_ ≠ (.slice Ao40 t873.length co40 : Value).ownBlock) (Kd.R_keptB (HO_870001.out) hkp (fun k_ hk_ hs_ => Or.elim hs_ (fun e_ => (hk_.2.2.2.1) e_) (fun e_ => (hk_.2.2.2.2) e_))) (fun k_ hk_ => ⟨hk_.1.1, hk_.1.2.1, hk_.1.2.2.1, hk_.1.2.2.2.1, hk_.1.2.2.2.2⟩)); have n4_ := Aside0.mk (Kd.R_reok rfl hy0 (fun k_ e_ => HO_878000.out.1 k_ e_)); have n5_ := Aside0.mk (Kd.R_reok rfl hy1 (fun k_ e_ => HO_878001.out.1 k_ e_)); have n6_ := Aside0.mk (blk_kept (by (with_reducible repeat (first | refine blk_drewN ?_ _ | refine blk_drew ?_ | refine blk_alloc ?_ _)); exact BK847.out) hkp (fun hs_ => Or.elim hs_ (fun e_ => (fun e_ => (Kd.R_ne HO_878000.out BK847.out (by decide)) e_) e_) (fun e_ => (fun e_ => (Kd.R_ne HO_878001.out BK847.out (by decide)) e_) e_))); have n7_ := Aside0.mk (blk_kept (by (with_reducible repeat (first | refine blk_drewN ?_ _ | refine blk_drew ?_ | refine blk_alloc ?_ _)); exact BK862.out) hkp (fun hs_ => Or.elim hs_ (fun e_ => (fun e_ => (Kd.R_ne HO_878000.out BK862.out (by decide)) e_) e_) (fun e_ => (fun e_ => (Kd.R_ne HO_878001.out BK862.out (by decide)) e_) e_))); have n8_ := Aside0.mk (blk_kept (by (with_reducible repeat (first | refine blk_drewN ?_ _ | refine blk_drew ?_ | refine blk_alloc ?_ _)); exact BK869.out) hkp (fun hs_ => Or.elim hs_ (fun e_ => (fun e_ => (Kd.R_ne HO_878000.out BK869.out (by decide)) e_) e_) (fun e_ => (fun e_ => (Kd.R_ne HO_878001.out BK869.out (by decide)) e_) e_))); have n9_ := Aside0.mk (blk_kept (by (with_reducible repeat (first | refine blk_drewN ?_ _ | refine blk_drew ?_ | refine blk_alloc ?_ _)); exact BK877.out) hkp (fun hs_ => Or.elim hs_ (fun e_ => (fun e_ => (Kd.R_ne HO_878000.out BK877.out (by decide)) e_) e_) (fun e_ => (fun e_ => (Kd.R_ne HO_878001.out BK877.out (by decide)) e_) e_))); have n10_ := Aside0.mk (hb); clear HO_863000; clear HO_863001; clear HO_870000; clear HO_870001; clear HO_878000; clear HO_878001; clear BK847; clear BK862; clear BK869; clear BK877; clear HB; have HO_863000 := n0_; have HO_863001 := n1_; have HO_870000 := n2_; have HO_870001 := n3_; have HO_878000 := n4_; have HO_878001 := n5_; have BK847 := n6_; have BK862 := n7_; have BK869 := n8_; have BK877 := n9_; have HB := n10_; clear n0_ n1_ n2_ n3_ n4_ n5_ n6_ n7_ n8_ n9_ n10_; (try clear hb); (try clear hkp); (try clear hy0); (try clear hy1); have hcz114_0 : w113.cell? ⟨gb877, 0, none⟩ = some (.slice Ao35 t870.length co35) := (blk_cell BK877.out 0).trans rfl; have hcz114_1 : w113.cell? ⟨gb877, 1, none⟩ = some (.slice Ao40 t873.length co40) := (blk_cell BK877.out 1).trans rfl; have hfz114_0 := blk_frozen BK877.out 0; have hfz114_1 := blk_frozen BK877.out 1) | ((with_reducible refine gate_callee (f := 46) rfl ?_); refine goesL_ (some 67) rfl rfl Try.func46 (by kernel_rfl) rfl #[.agg #[.slice Ao35 t891.length co35, .slice Ao40 t892.length co40], .int .i64 1] rfl (by (try simp only [List.map_toArray, List.map_cons, List.map_nil]); first | done | (rw [show t891.length = t870.length from (Kd.R_reads' HO_878000.out).1.symm, show t892.length = t873.length from (Kd.R_reads' HO_878001.out).1.symm] <;> rfl) | rfl | (simp only [List.length_drop, List.length_take]; rfl)) ?_; (with_reducible refine (laws_heldSurface.calls kj63 _ _ t891 _ _ t892 1 t893 _ ?side1 ?side2 ?side3 ?side4 A96.out).mono ?_); (case side1 => repeat (first | exact (Kd.R_reads' HO_878000.out).2.2 | (with_reducible refine Kd.C_alloc ?_ _) | (with_reducible refine Kd.C_drewN ?_ _) | (with_reducible refine Kd.C_drew ?_))); (case side2 => rw [show t891.length = t870.length from (Kd.R_reads' HO_878000.out).1.symm]; exact (Kd.R_reads' HO_878000.out).2.1); (case side3 => repeat (first | exact (Kd.R_reads' HO_878001.out).2.2 | (with_reducible refine Kd.C_alloc ?_ _) | (with_reducible refine Kd.C_drewN ?_ _) | (with_reducible refine Kd.C_drew ?_))); (case side4 => rw [show t892.length = t873.length from (Kd.R_reads' HO_878001.out).1.symm]; exact (Kd.R_reads' HO_878001.out).2.1); rintro e w115 ⟨rfl, hb⟩; refine ⟨_, rfl, ?_⟩; have n0_ := Aside0.mk (Kd.R_below (by (with_reducible repeat (first | apply Kd.R_alloc | apply Kd.R_drewN | apply Kd.R_drew)); exact HO_863000.out) hb); have n1_ := Aside0.mk (Kd.R_below (by (with_reducible repeat (first | apply Kd.R_alloc | apply Kd.R_drewN | apply Kd.R_drew)); exact HO_863001.out) hb); have n2_ := Aside0.mk (Kd.R_below (by (with_reducible repeat (first | apply Kd.R_alloc | apply Kd.R_drewN | apply Kd.R_drew)); exact HO_870000.out) hb); have n3_ := Aside0.mk (Kd.R_below (by (with_reducible repeat (first | apply Kd.R_alloc | apply Kd.R_drewN | apply Kd.R_drew)); exact HO_870001.out) hb); have n4_ := Aside0.mk (Kd.R_below (by (with_reducible repeat (first | apply Kd.R_alloc | apply Kd.R_drewN | apply Kd.R_drew)); exact HO_878000.out) hb); have n5_ := Aside0.mk (Kd.R_below (by (with_reducible repeat (first | apply Kd.R_alloc | apply Kd.R_drewN | apply Kd.R_drew)); exact HO_878001.out) hb); have n6_ := Aside0.mk (blk_below (g := gb847) (o := .cells #[.slice A0_0 l0_0.length c0_0, .slice A0_1 l0_1.length c0_1] 24 (0, 0)) (by (with_reducible repeat (first | refine blk_drewN ?_ _ | refine blk_drew ?_ | refine blk_alloc ?_ _)); exact BK847.out) hb); have n7_ := Aside0.mk (blk_below (g := gb862) (o := .cells #[.slice Ao21 t855.length co21, .slice Ao24 t858.length co24] 27 (0, 0)) (by (with_reducible repeat (first | refine blk_drewN ?_ _ | refine blk_drew ?_ | refine blk_alloc ?_ _)); exact BK862.out) hb); have n8_ := Aside0.mk (blk_below (g := gb869) (o := .cells #[.slice Ao28 t887.length co28, .slice Ao32 t888.length co32] 27 (0, 0)) (by (with_reducible repeat (first | refine blk_drewN ?_ _ | refine blk_drew ?_ | refine blk_alloc ?_ _)); exact BK869.out) hb); have n9_ := Aside0.mk (blk_below (g := gb877) (o := .cells #[.slice Ao35 t870.length co35, .slice Ao40 t873.length co40] 27 (0, 0)) (by (with_reducible repeat (first | refine blk_drewN ?_ _ | refine blk_drew ?_ | refine blk_alloc ?_ _)); exact BK877.out) hb); have n10_ := Aside0.mk (below_step (by repeat (first | (with_reducible first | exact HB.out | apply below_alloc | apply pw_below_drewN | apply below_drew1 | refine below_set ?_ GE847.out | refine below_set ?_ GE862.out | refine below_set ?_ GE869.out | refine below_set ?_ GE877.out) | exact HB.out)) hb); clear HO_863000; clear HO_863001; clear HO_870000; clear HO_870001; clear HO_878000; clear HO_878001; clear BK847; clear BK862; clear BK869; clear BK877; clear HB; have HO_863000 := n0_; have HO_863001 := n1_; have HO_870000 := n2_; have HO_870001 := n3_; have HO_878000 := n4_; have HO_878001 := n5_; have BK847 := n6_; have BK862 := n7_; have BK869 := n8_; have BK877 := n9_; have HB := n10_; clear n0_ n1_ n2_ n3_ n4_ n5_ n6_ n7_ n8_ n9_ n10_; (try clear hb); (try clear hb2); (try clear hk); (try clear hi); have hnb116 := NB847_862.out; have hnc116 := NB862_847.out; have hnb117 := NB847_869.out; have hnc117 := NB869_847.out; have hcz118_0 : w115.cell? ⟨gb847, 0, none⟩ = some (.slice A0_0 l0_0.length c0_0) := (blk_cell BK847.out 0).trans rfl; have hcz118_1 : w115.cell? ⟨gb847, 1, none⟩ = some (.slice A0_1 l0_1.length c0_1) := (blk_cell BK847.out 1).trans rfl; have hfz118_0 := blk_frozen BK847.out 0; have hfz118_1 := blk_frozen BK847.out 1) | ((with_reducible refine gate_callee (f := 17) rfl ?_); refine goesL_ (some 75) rfl rfl Try.func17 (by kernel_rfl) rfl #[.agg #[.slice A0_0 l0_0.length c0_0, .slice A0_1 l0_1.length c0_1]] rfl (by (try simp only [List.map_toArray, List.map_cons, List.map_nil]); first | done | rfl | (simp only [List.length_drop, List.length_take]; rfl)) ?_; (with_reducible refine (laws_toSurface.calls kj63 _ _ l0_0 _ _ l0_1 t894 t897 _ ?side1 ?side2 ?side3 ?side4 A106.out).mono ?_); (case side1 => repeat (first | exact (Kd.C_below HR0_0.out HB.out) | (with_reducible refine Kd.C_alloc ?_ _) | (with_reducible refine Kd.C_drewN ?_ _) | (with_reducible refine Kd.C_drew ?_))); (case side2 => exact HC0_0.out); (case side3 => repeat (first | exact (Kd.C_below HR0_1.out HB.out) | (with_reducible refine Kd.C_alloc ?_ _) | (with_reducible refine Kd.C_drewN ?_ _) | (with_reducible refine Kd.C_drew ?_))); (case side4 => exact HC0_1.out); rintro e w119 ⟨v895, v898, rfl, ho0, ho1, hb⟩; refine ⟨_, rfl, ?_⟩; have n0_ := Aside0.mk (Kd.R_mono (Kd.R_told (Kd.R_told (Kd.R_old (by (with_reducible repeat (first | apply Kd.R_alloc | apply Kd.R_drewN | apply Kd.R_drew)); exact HO_863000.out) hb) (Kd.R_base ho0)) (Kd.R_base ho1)) (fun _ h_ => h_.1)); have n1_ := Aside0.mk (Kd.R_mono (Kd.R_told (Kd.R_told (Kd.R_old (by (with_reducible repeat (first | apply Kd.R_alloc | apply Kd.R_drewN | apply Kd.R_drew)); exact HO_863001.out) hb) (Kd.R_base ho0)) (Kd.R_base ho1)) (fun _ h_ => h_.1)); have n2_ := Aside0.mk (Kd.R_mono (Kd.R_told (Kd.R_told (Kd.R_old (by (with_reducible repeat (first | apply Kd.R_alloc | apply Kd.R_drewN | apply Kd.R_drew)); exact HO_870000.out) hb) (Kd.R_base ho0)) (Kd.R_base ho1)) (fun _ h_ => h_.1)); have n3_ := Aside0.mk (Kd.R_mono (Kd.R_told (Kd.R_told (Kd.R_old (by (with_reducible repeat (first | apply Kd.R_alloc | apply Kd.R_drewN | apply Kd.R_drew)); exact HO_870001.out) hb) (Kd.R_base ho0)) (Kd.R_base ho1)) (fun _ h_ => h_.1)); have n4_ := Aside0.mk (Kd.R_mono (Kd.R_told (Kd.R_told (Kd.R_old (by (with_reducible repeat (first | apply Kd.R_alloc | apply Kd.R_drewN | apply Kd.R_drew)); exact HO_878000.out) hb) (Kd.R_base ho0)) (Kd.R_base ho1)) (fun _ h_ => h_.1)); have n5_ := Aside0.mk (Kd.R_mono (Kd.R_told (Kd.R_told (Kd.R_old (by (with_reducible repeat (first | apply Kd.R_alloc | apply Kd.R_drewN | apply Kd.R_drew)); exact HO_878001.out) hb) (Kd.R_base ho0)) (Kd.R_base ho1)) (fun _ h_ => h_.1)); have n6_ := Aside0.mk (Kd.R_lower (Kd.R_new' (Kd.R_new' (Kd.R_new' (Kd.R_new' (Kd.R_new' (Kd.R_new' ho0 (Kd.R_lt (by (with_reducible repeat (first | apply Kd.R_alloc | apply Kd.R_drewN | apply Kd.R_drew)); exact HO_863000.out))) (Kd.R_lt (by (with_reducible repeat (first | apply Kd.R_alloc | apply Kd.R_drewN | apply Kd.R_drew)); exact HO_863001.out))) (Kd.R_lt (by (with_reducible repeat (first | apply Kd.R_alloc | apply Kd.R_drewN | apply Kd.R_drew)); exact HO_870000.out))) (Kd.R_lt (by (with_reducible repeat (first | apply Kd.R_alloc | apply Kd.R_drewN | apply Kd.R_drew)); exact HO_870001.out))) (Kd.R_lt (by (with_reducible repeat (first | apply Kd.R_alloc | apply Kd.R_drewN | apply Kd.R_drew)); exact HO_878000.out))) (Kd.R_lt (by (with_reducible repeat (first | apply Kd.R_alloc | apply Kd.R_drewN | apply Kd.R_drew)); exact HO_878001.out))) (below_size (by repeat (first | (with_reducible first | exact HB.out | apply below_alloc | apply pw_below_drewN | apply below_drew1 | refine below_set ?_ GE847.out | refine below_set ?_ GE862.out | refine below_set ?_ GE869.out | refine below_set ?_ GE877.out) | exact HB.out)))); have n7_ := Aside0.mk (Kd.R_lower (Kd.R_new' (Kd.R_new' (Kd.R_new' (Kd.R_new' (Kd.R_new' (Kd.R_new' ho1 (Kd.R_lt (by (with_reducible repeat (first | apply Kd.R_alloc | apply Kd.R_drewN | apply Kd.R_drew)); exact HO_863000.out))) (Kd.R_lt (by (with_reducible repeat (first | apply Kd.R_alloc | apply Kd.R_drewN | apply Kd.R_drew)); exact HO_863001.out))) (Kd.R_lt (by (with_reducible repeat (first | apply Kd.R_alloc | apply Kd.R_drewN | apply Kd.R_drew)); exact HO_870000.out))) (Kd.R_lt (by (with_reducible repeat (first | apply Kd.R_alloc | apply Kd.R_drewN | apply Kd.R_drew)); exact HO_870001.out))) (Kd.R_lt (by (with_reducible repeat (first | apply Kd.R_alloc | apply Kd.R_drewN | apply Kd.R_drew)); exact HO_878000.out))) (Kd.R_lt (by (with_reducible repeat (first | apply Kd.R_alloc | apply Kd.R_drewN | apply Kd.R_drew)); exact HO_878001.out))) (below_size (by repeat (first | (with_reducible first | exact HB.out | apply below_alloc | apply pw_below_drewN | apply below_drew1 | refine below_set ?_ GE847.out | refine below_set ?_ GE862.out | refine below_set ?_ GE869.out | refine below_set ?_ GE877.out) | exact HB.out)))); have n8_ := Aside0.mk (blk_below (g := gb847) (o := .cells #[.slice A0_0 l0_0.length c0_0, .slice A0_1 l0_1.length c0_1] 24 (0, 0)) (by (with_reducible repeat (first | refine blk_drewN ?_ _ | refine blk_drew ?_ | refine blk_alloc ?_ _)); exact BK847.out) hb); have n9_ := Aside0.mk (blk_below (g := gb862) (o := .cells #[.slice Ao21 t855.length co21, .slice Ao24 t858.length co24] 27 (0, 0)) (by (with_reducible repeat (first | refine blk_drewN ?_ _ | refine blk_drew ?_ | refine blk_alloc ?_ _)); exact BK862.out) hb); have n10_ := Aside0.mk (blk_below (g := gb869) (o := .cells #[.slice Ao28 t887.length co28, .slice Ao32 t888.length co32] 27 (0, 0)) (by (with_reducible repeat (first | refine blk_drewN ?_ _ | refine blk_drew ?_ | refine blk_alloc ?_ _)); exact BK869.out) hb); have n11_ := Aside0.mk (blk_below (g := gb877) (o := .cells #[.slice Ao35 t870.length co35, .slice Ao40 t873.length co40] 27 (0, 0)) (by (with_reducible repeat (first | refine blk_drewN ?_ _ | refine blk_drew ?_ | refine blk_alloc ?_ _)); exact BK877.out) hb); have n12_ := Aside0.mk (below_step (by repeat (first | (with_reducible first | exact HB.out | apply below_alloc | apply pw_below_drewN | apply below_drew1 | refine below_set ?_ GE847.out | refine below_set ?_ GE862.out | refine below_set ?_ GE869.out | refine below_set ?_ GE877.out) | exact HB.out)) hb); clear HO_863000; clear HO_863001; clear HO_870000; clear HO_870001; clear HO_878000; clear HO_878001; clear BK847; clear BK862; clear BK869; clear BK877; clear HB; have HO_863000 := n0_; have HO_863001 := n1_; have HO_870000 := n2_; have HO_870001 := n3_; have HO_878000 := n4_; have HO_878001 := n5_; have HO896 := n6_; have HO899 := n7_; have BK847 := n8_; have BK862 := n9_; have BK869 := n10_; have BK877 := n11_; have HB := n12_; clear n0_ n1_ n2_ n3_ n4_ n5_ n6_ n7_ n8_ n9_ n10_ n11_ n12_; (try clear hb); (try clear hb2); (try clear hk); (try clear hi); (try clear ho0); (try clear ho1); obtain ⟨Ao120, co120, eo120⟩ := Kd.R_slice HO896.out; subst eo120; obtain ⟨Ao121, co121, eo121⟩ := Kd.R_slice HO899.out; subst eo121) | ((with_reducible refine gate_callee (f := 50) rfl ?_); refine goesL_ (some 76) rfl rfl Try.func50 (by kernel_rfl) rfl #[.agg #[.slice Ao120 t894.length co120, .slice Ao121 t897.length co121]] rfl (by (try simp only [List.map_toArray, List.map_cons, List.map_nil]); first | done | rfl | (simp only [List.length_drop, List.length_take]; rfl)) ?_; (with_reducible refine (impl_UnshearSurface.calls kj63 _ _ t894 _ _ t897 t900 t903 t906 _ ?side1 ?side2 ?side3 ?side4 A107.out).mono ?_); (case side1 => repeat (first | exact (Kd.R_reads' HO896.out).2.2 | (with_reducible refine Kd.C_alloc ?_ _) | (with_reducible refine Kd.C_drewN ?_ _) | (with_reducible refine Kd.C_drew ?_))); (case side2 => exact (Kd.R_reads' HO896.out).2.1); (case side3 => repeat (first | exact (Kd.R_reads' HO899.out).2.2 | (with_reducible refine Kd.C_alloc ?_ _) | (with_reducible refine Kd.C_drewN ?_ _) | (with_reducible refine Kd.C_drew ?_))); (case side4 => exact (Kd.R_reads' HO899.out).2.1); rintro e w122 ⟨v901, v904, rfl, ho0, ho1, hb⟩; refine ⟨_, rfl, ?_⟩; have n0_ := Aside0.mk (Kd.R_mono (Kd.R_told (Kd.R_told (Kd.R_old (by (with_reducible repeat (first | apply Kd.R_alloc | apply Kd.R_drewN | apply Kd.R_drew)); exact HO_863000.out) hb) (Kd.R_base ho0)) (Kd.R_base ho1)) (fun _ h_ => h_.1)); have n1_ := Aside0.mk (Kd.R_mono (Kd.R_told (Kd.R_told (Kd.R_old (by (with_reducible repeat (first | apply Kd.R_alloc | apply Kd.R_drewN | apply Kd.R_drew)); exact HO_863001.out) hb) (Kd.R_base ho0)) (Kd.R_base ho1)) (fun _ h_ => h_.1)); have n2_ := Aside0.mk (Kd.R_mono (Kd.R_told (Kd.R_told (Kd.R_old (by (with_reducible repeat (first | apply Kd.R_alloc | apply Kd.R_drewN | apply Kd.R_drew)); exact HO_870000.out) hb) (Kd.R_base ho0)) (Kd.R_base ho1)) (fun _ h_ => h_.1)); have n3_ := Aside0.mk (Kd.R_mono (Kd.R_told (Kd.R_told (Kd.R_old (by (with_reducible repeat (first | apply Kd.R_alloc | apply Kd.R_drewN | apply Kd.R_drew)); exact HO_870001.out) hb) (Kd.R_base ho0)) (Kd.R_base ho1)) (fun _ h_ => h_.1)); have n4_ := Aside0.mk (Kd.R_mono (Kd.R_told (Kd.R_told (Kd.R_old (by (with_reducible repeat (first | apply Kd.R_alloc | apply Kd.R_drewN | apply Kd.R_drew)); exact HO_878000.out) hb) (Kd.R_base ho0)) (Kd.R_base ho1)) (fun _ h_ => h_.1)); have n5_ := Aside0.mk (Kd.R_mono (Kd.R_told (Kd.R_told (Kd.R_old (by (with_reducible repeat (first | apply Kd.R_alloc | apply Kd.R_drewN | apply Kd.R_drew)); exact HO_878001.out) hb) (Kd.R_base ho0)) (Kd.R_base ho1)) (fun _ h_ => h_.1)); have n6_ := Aside0.mk (Kd.R_mono (Kd.R_told (Kd.R_told (Kd.R_old (by (with_reducible repeat (first | apply Kd.R_alloc | apply Kd.R_drewN | apply Kd.R_drew)); exact HO896.out) hb) (Kd.R_base ho0)) (Kd.R_base ho1)) (fun _ h_ => h_.1)); have n7_ := Aside0.mk (Kd.R_mono (Kd.R_told (Kd.R_told (Kd.R_old (by (with_reducible repeat (first | apply Kd.R_alloc | apply Kd.R_drewN | apply Kd.R_drew)); exact HO899.out) hb) (Kd.R_base ho0)) (Kd.R_base ho1)) (fun _ h_ => h_.1)); have n8_ := Aside0.mk (Kd.R_lower (Kd.R_new' (Kd.R_new' (Kd.R_new' (Kd.R_new' (Kd.R_new' (Kd.R_new' (Kd.R_new' (Kd.R_new' ho0 (Kd.R_lt (by (with_reducible repeat (first | apply Kd.R_alloc | apply Kd.R_drewN | apply Kd.R_drew)); exact HO_863000.out))) (Kd.R_lt (by (with_reducible repeat (first | apply Kd.R_alloc | apply Kd.R_drewN | apply Kd.R_drew)); exact HO_863001.out))) (Kd.R_lt (by (with_reducible repeat (first | apply Kd.R_alloc | apply Kd.R_drewN | apply Kd.R_drew)); exact HO_870000.out))) (Kd.R_lt (by (with_reducible repeat (first | apply Kd.R_alloc | apply Kd.R_drewN | apply Kd.R_drew)); exact HO_870001.out))) (Kd.R_lt (by (with_reducible repeat (first | apply Kd.R_alloc | apply Kd.R_drewN | apply Kd.R_drew)); exact HO_878000.out))) (Kd.R_lt (by (with_reducible repeat (first | apply Kd.R_alloc | apply Kd.R_drewN | apply Kd.R_drew)); exact HO_878001.out))) (Kd.R_lt (by (with_reducible repeat (first | apply Kd.R_alloc | apply Kd.R_drewN | apply Kd.R_drew)); exact HO896.out))) (Kd.R_lt (by (with_reducible repeat (first | apply Kd.R_alloc | apply Kd.R_drewN | apply Kd.R_drew)); exact HO899.out))) (below_size (by repeat (first | (with_reducible first | exact HB.out | apply below_alloc | apply pw_below_drewN | apply below_drew1 | refine below_set ?_ GE847.out | refine below_set ?_ GE862.out | refine below_set ?_ GE869.out | refine below_set ?_ GE877.out) | exact HB.out)))); have n9_ := Aside0.mk (Kd.R_lower (Kd.R_new' (Kd.R_new' (Kd.R_new' (Kd.R_new' (Kd.R_new' (Kd.R_new' (Kd.R_new' (Kd.R_new' ho1 (Kd.R_lt (by (with_reducible repeat (first | apply Kd.R_alloc | apply Kd.R_drewN | apply Kd.R_drew)); exact HO_863000.out))) (Kd.R_lt (by (with_reducible repeat (first | apply Kd.R_alloc | apply Kd.R_drewN | apply Kd.R_drew)); exact HO_863001.out))) (Kd.R_lt (by (with_reducible repeat (first | apply Kd.R_alloc | apply Kd.R_drewN | apply Kd.R_drew)); exact HO_870000.out))) (Kd.R_lt (by (with_reducible repeat (first | apply Kd.R_alloc | apply Kd.R_drewN | apply Kd.R_drew)); exact HO_870001.out))) (Kd.R_lt (by (with_reducible repeat (first | apply Kd.R_alloc | apply Kd.R_drewN | apply Kd.R_drew)); exact HO_878000.out))) (Kd.R_lt (by (with_reducible repeat (first | apply Kd.R_alloc | apply Kd.R_drewN | apply Kd.R_drew)); exact HO_878001.out))) (Kd.R_lt (by (with_reducible repeat (first | apply Kd.R_alloc | apply Kd.R_drewN | apply Kd.R_drew)); exact HO896.out))) (Kd.R_lt (by (with_reducible repeat (first | apply Kd.R_alloc | apply Kd.R_drewN | apply Kd.R_drew)); exact HO899.out))) (below_size (by repeat (first | (with_reducible first | exact HB.out | apply below_alloc | apply pw_below_drewN | apply below_drew1 | refine below_set ?_ GE847.out | refine below_set ?_ GE862.out | refine below_set ?_ GE869.out | refine below_set ?_ GE877.out) | exact HB.out)))); have n10_ := Aside0.mk (blk_below (g := gb847) (o := .cells #[.slice A0_0 l0_0.length c0_0, .slice A0_1 l0_1.length c0_1] 24 (0, 0)) (by (with_reducible repeat (first | refine blk_drewN ?_ _ | refine blk_drew ?_ | refine blk_alloc ?_ _)); exact BK847.out) hb); have n11_ := Aside0.mk (blk_below (g := gb862) (o := .cells #[.slice Ao21 t855.length co21, .slice Ao24 t858.length co24] 27 (0, 0)) (by (with_reducible repeat (first | refine blk_drewN ?_ _ | refine blk_drew ?_ | refine blk_alloc ?_ _)); exact BK862.out) hb); have n12_ := Aside0.mk (blk_below (g := gb869) (o := .cells #[.slice Ao28 t887.length co28, .slice Ao32 t888.length co32] 27 (0, 0)) (by (with_reducible repeat (first | refine blk_drewN ?_ _ | refine blk_drew ?_ | refine blk_alloc ?_ _)); exact BK869.out) hb); have n13_ := Aside0.mk (blk_below (g := gb877) (o := .cells #[.slice Ao35 t870.length co35, .slice Ao40 t873.length co40] 27 (0, 0)) (by (with_reducible repeat (first | refine blk_drewN ?_ _ | refine blk_drew ?_ | refine blk_alloc ?_ _)); exact BK877.out) hb); have n14_ := Aside0.mk (below_step (by repeat (first | (with_reducible first | exact HB.out | apply below_alloc | apply pw_below_drewN | apply below_drew1 | refine below_set ?_ GE847.out | refine below_set ?_ GE862.out | refine below_set ?_ GE869.out | refine below_set ?_ GE877.out) | exact HB.out)) hb); clear HO_863000; clear HO_863001; clear HO_870000; clear HO_870001; clear HO_878000; clear HO_878001; clear HO896; clear HO899; clear BK847; clear BK862; clear BK869; clear BK877; clear HB; have HO_863000 := n0_; have HO_863001 := n1_; have HO_870000 := n2_; have HO_870001 := n3_; have HO_878000 := n4_; have HO_878001 := n5_; have HO896 := n6_; have HO899 := n7_; have HO902 := n8_; have HO905 := n9_; have BK847 := n10_; have BK862 := n11_; have BK869 := n12_; have BK877 := n13_; have HB := n14_; clear n0_ n1_ n2_ n3_ n4_ n5_ n6_ n7_ n8_ n9_ n10_ n11_ n12_ n13_ n14_; (try clear hb); (try clear hb2); (try clear hk); (try clear hi); (try clear ho0); (try clear ho1)) | ((with_reducible refine gate_dst (N := 12) rfl ?_); refine box_event ?hg (N := 12) ?hd (cs := #[.slice none 0 0, .slice none 0 0]) (t := 27) ?hr ?_; (case hd => rfl); (case hg => rfl); (case hr => first | (go_simp; done) | (go_simp; rfl)); intro gb907 hg w123 hbox hb; have n0_ := Aside0.mk (Kd.R_below (by (with_reducible repeat (first | apply Kd.R_alloc | apply Kd.R_drewN | apply Kd.R_drew)); exact HO_863000.out) hb); have n1_ := Aside0.mk (Kd.R_below (by (with_reducible repeat (first | apply Kd.R_alloc | apply Kd.R_drewN | apply Kd.R_drew)); exact HO_863001.out) hb); have n2_ := Aside0.mk (Kd.R_below (by (with_reducible repeat (first | apply Kd.R_alloc | apply Kd.R_drewN | apply Kd.R_drew)); exact HO_870000.out) hb); have n3_ := Aside0.mk (Kd.R_below (by (with_reducible repeat (first | apply Kd.R_alloc | apply Kd.R_drewN | apply Kd.R_drew)); exact HO_870001.out) hb); have n4_ := Aside0.mk (Kd.R_below (by (with_reducible repeat (first | apply Kd.R_alloc | apply Kd.R_drewN | apply Kd.R_drew)); exact HO_878000.out) hb); have n5_ := Aside0.mk (Kd.R_below (by (with_reducible repeat (first | apply Kd.R_alloc | apply Kd.R_drewN | apply Kd.R_drew)); exact HO_878001.out) hb); have n6_ := Aside0.mk (Kd.R_below (by (with_reducible repeat (first | apply Kd.R_alloc | apply Kd.R_drewN | apply Kd.R_drew)); exact HO896.out) hb); have n7_ := Aside0.mk (Kd.R_below (by (with_reducible repeat (first | apply Kd.R_alloc | apply Kd.R_drewN | apply Kd.R_drew)); exact HO899.out) hb); have n8_ := Aside0.mk (Kd.R_below (by (with_reducible repeat (first | apply Kd.R_alloc | apply Kd.R_drewN | apply Kd.R_drew)); exact HO902.out) hb); have n9_ := Aside0.mk (Kd.R_below (by (with_reducible repeat (first | apply Kd.R_alloc | apply Kd.R_drewN | apply Kd.R_drew)); exact HO905.out) hb); have n10_ := Aside0.mk (blk_below (g := gb847) (o := .cells #[.slice A0_0 l0_0.length c0_0, .slice A0_1 l0_1.length c0_1] 24 (0, 0)) (by (with_reducible repeat (first | refine blk_drewN ?_ _ | refine blk_drew ?_ | refine blk_alloc ?_ _)); exact BK847.out) hb); have n11_ := Aside0.mk (blk_below (g := gb862) (o := .cells #[.slice Ao21 t855.length co21, .slice Ao24 t858.length co24] 27 (0, 0)) (by (with_reducible repeat (first | refine blk_drewN ?_ _ | refine blk_drew ?_ | refine blk_alloc ?_ _)); exact BK862.out) hb); have n12_ := Aside0.mk (blk_below (g := gb869) (o := .cells #[.slice Ao28 t887.length co28, .slice Ao32 t888.length co32] 27 (0, 0)) (by (with_reducible repeat (first | refine blk_drewN ?_ _ | refine blk_drew ?_ | refine blk_alloc ?_ _)); exact BK869.out) hb); have n13_ := Aside0.mk (blk_below (g := gb877) (o := .cells #[.slice Ao35 t870.length co35, .slice Ao40 t873.length co40] 27 (0, 0)) (by (with_reducible repeat (first | refine blk_drewN ?_ _ | refine blk_drew ?_ | refine blk_alloc ?_ _)); exact BK877.out) hb); have n14_ := Aside0.mk (below_step (by repeat (first | (with_reducible first | exact HB.out | apply below_alloc | apply pw_below_drewN | apply below_drew1 | refine below_set ?_ GE847.out | refine below_set ?_ GE862.out | refine below_set ?_ GE869.out | refine below_set ?_ GE877.out) | exact HB.out)) hb); have n15_ := Aside0.mk (hbox); have n16_ := Aside0.mk ((by rw [hg]; exact (below_size (by repeat (first | (with_reducible first | exact HB.out | apply below_alloc | apply pw_below_drewN | apply below_drew1 | refine below_set ?_ GE847.out | refine below_set ?_ GE862.out | refine below_set ?_ GE869.out | refine below_set ?_ GE877.out) | exact HB.out))) : w.heap.size ≤ gb907)); have n17_ := Aside0.mk ((by rw [hg]; exact (below_size (by repeat (first | (with_reducible first | exact HB.out | apply below_alloc | apply pw_below_drewN | apply below_drew1 | refine below_set ?_ GE847.out | refine below_set ?_ GE862.out | refine below_set ?_ GE869.out | refine below_set ?_ GE877.out) | exact HB.out))) : w.heap.size ≤ gb907)); have n18_ := Aside0.mk ((by rw [hg]; exact Nat.ne_of_lt (blk_lt (g := gb847) (o := .cells #[.slice A0_0 l0_0.length c0_0, .slice A0_1 l0_1.length c0_1] 24 (0, 0)) (by (with_reducible repeat (first | refine blk_drewN ?_ _ | refine blk_drew ?_ | refine blk_alloc ?_ _)); exact BK847.out)) : gb847 ≠ gb907)); have n19_ := Aside0.mk ((by rw [hg]; exact Nat.ne_of_gt (blk_lt (g := gb847) (o := .cells #[.slice A0_0 l0_0.length c0_0, .slice A0_1 l0_1.length c0_1] 24 (0, 0)) (by (with_reducible repeat (first | refine blk_drewN ?_ _ | refine blk_drew ?_ | refine blk_alloc ?_ _)); exact BK847.out)) : gb907 ≠ gb847)); have n20_ := Aside0.mk ((by rw [hg]; exact Nat.ne_of_lt (blk_lt (g := gb862) (o := .cells #[.slice Ao21 t855.length co21, .slice Ao24 t858.length co24] 27 (0, 0)) (by (with_reducible repeat (first | refine blk_drewN ?_ _ | refine blk_drew ?_ | refine blk_alloc ?_ _)); exact BK862.out)) : gb862 ≠ gb907)); have n21_ := Aside0.mk ((by rw [hg]; exact Nat.ne_of_gt (blk_lt (g := gb862) (o := .cells #[.slice Ao21 t855.length co21, .slice Ao24 t858.length co24] 27 (0, 0)) (by (with_reducible repeat (first | refine blk_drewN ?_ _ | refine blk_drew ?_ | refine blk_alloc ?_ _)); exact BK862.out)) : gb907 ≠ gb862)); have n22_ := Aside0.mk ((by rw [hg]; exact Nat.ne_of_lt (blk_lt (g := gb869) (o := .cells #[.slice Ao28 t887.length co28, .slice Ao32 t888.length co32] 27 (0, 0)) (by (with_reducible repeat (first | refine blk_drewN ?_ _ | refine blk_drew ?_ | refine blk_alloc ?_ _)); exact BK869.out)) : gb869 ≠ gb907)); have n23_ := Aside0.mk ((by rw [hg]; exact Nat.ne_of_gt (blk_lt (g := gb869) (o := .cells #[.slice Ao28 t887.length co28, .slice Ao32 t888.length co32] 27 (0, 0)) (by (with_reducible repeat (first | refine blk_drewN ?_ _ | refine blk_drew ?_ | refine blk_alloc ?_ _)); exact BK869.out)) : gb907 ≠ gb869)); have n24_ := Aside0.mk ((by rw [hg]; exact Nat.ne_of_lt (blk_lt (g := gb877) (o := .cells #[.slice Ao35 t870.length co35, .slice Ao40 t873.length co40] 27 (0, 0)) (by (with_reducible repeat (first | refine blk_drewN ?_ _ | refine blk_drew ?_ | refine blk_alloc ?_ _)); exact BK877.out)) : gb877 ≠ gb907)); have n25_ := Aside0.mk ((by rw [hg]; exact Nat.ne_of_gt (blk_lt (g := gb877) (o := .cells #[.slice Ao35 t870.length co35, .slice Ao40 t873.length co40] 27 (0, 0)) (by (with_reducible repeat (first | refine blk_drewN ?_ _ | refine blk_drew ?_ | refine blk_alloc ?_ _)); exact BK877.out)) : gb907 ≠ gb877)); clear HO_863000; clear HO_863001; clear HO_870000; clear HO_870001; clear HO_878000; clear HO_878001; clear HO896; clear HO899; clear HO902; clear HO905; clear BK847; clear BK862; clear BK869; clear BK877; clear HB; have HO_863000 := n0_; have HO_863001 := n1_; have HO_870000 := n2_; have HO_870001 := n3_; have HO_878000 := n4_; have HO_878001 := n5_; have HO896 := n6_; have HO899 := n7_; have HO902 := n8_; have HO905 := n9_; have BK847 := n10_; have BK862 := n11_; have BK869 := n12_; have BK877 := n13_; have HB := n14_; have BK907 := n15_; have GW907 := n16_; have GE907 := n17_; have NB847_907 := n18_; have NB907_847 := n19_; have NB862_907 := n20_; have NB907_862 := n21_; have NB869_907 := n22_; have NB907_869 := n23_; have NB877_907 := n24_; have NB907_877 := n25_; clear n0_ n1_ n2_ n3_ n4_ n5_ n6_ n7_ n8_ n9_ n10_ n11_ n12_ n13_ n14_ n15_ n16_ n17_ n18_ n19_ n20_ n21_ n22_ n23_ n24_ n25_; clear hb hbox hg; obtain ⟨Ao124, co124, eo124⟩ := Kd.R_slice HO902.out; subst eo124; have hnb125 := NB907_847.out; have hnc125 := NB847_907.out; have hnb126 := NB907_862.out; have hnc126 := NB862_907.out; have hnb127 := NB907_869.out; have hnc127 := NB869_907.out; have hnb128 := NB907_877.out; have hnc128 := NB877_907.out; have hcz129_0 : w123.cell? ⟨gb907, 0, none⟩ = some (.slice none 0 0) := (blk_cell BK907.out 0).trans rfl; have hcz129_1 : w123.cell? ⟨gb907, 1, none⟩ = some (.slice none 0 0) := (blk_cell BK907.out 1).trans rfl; have hfz129_0 := blk_frozen BK907.out 0; have hfz129_1 := blk_frozen BK907.out 1; obtain ⟨Ao130, co130, eo130⟩ := Kd.R_slice HO905.out; subst eo130))
                      (try simp only [Act.put, List.setIfInBounds_toArray, List.set_cons_zero, List.set_cons_succ])
                      go_cut [87] (fun v87 wc => ∃ (kq : Nat) (x87_107 : Bool), v87 = .bool x87_107 ∧ Aside0 (laws_FnExactUnshearSurface.j2 kq t890 x87_107 t891 t892 = some true) ∧ Aside0 (kq ≤ kj63) ∧ Aside0 (Kd.R (Kd.int .i64) 3 wc w.heap.size (fun k_ => some k_ ≠ ((.slice Ao24 t858.length co24) : Value).ownBlock ∧ some k_ ≠ ((.slice Ao28 t887.length co28) : Value).ownBlock ∧ some k_ ≠ ((.slice Ao32 t888.length co32) : Value).ownBlock ∧ some k_ ≠ ((.slice Ao35 t870.length co35) : Value).ownBlock ∧ some k_ ≠ ((.slice Ao40 t873.length co40) : Value).ownBlock ∧ some k_ ≠ ((.slice Ao124 t900.length co124) : Value).ownBlock ∧ some k_ ≠ ((.slice Ao130 t903.length co130) : Value).ownBlock) (.slice Ao21 t855.length co21) t855) ∧ Aside0 (Kd.R (Kd.int .i64) 3 wc w.heap.size (fun k_ => some k_ ≠ ((.slice Ao21 t855.length co21) : Value).ownBlock ∧ some k_ ≠ ((.slice Ao28 t887.length co28) : Value).ownBlock ∧ some k_ ≠ ((.slice Ao32 t888.length co32) : Value).ownBlock ∧ some k_ ≠ ((.slice Ao35 t870.length co35) : Value).ownBlock ∧ some k_ ≠ ((.slice Ao40 t873.length co40) : Value).ownBlock ∧ some k_ ≠ ((.slice Ao124 t900.length co124) : Value).ownBlock ∧ some k_ ≠ ((.slice Ao130 t903.length co130) : Value).ownBlock) (.slice Ao24 t858.length co24) t858) ∧ Aside0 (Kd.R (Kd.int .i64) 3 wc w.heap.size (fun k_ => some k_ ≠ ((.slice Ao21 t855.length co21) : Value).ownBlock ∧ some k_ ≠ ((.slice Ao24 t858.length co24) : Value).ownBlock ∧ some k_ ≠ ((.slice Ao32 t888.length co32) : Value).ownBlock ∧ some k_ ≠ ((.slice Ao35 t870.length co35) : Value).ownBlock ∧ some k_ ≠ ((.slice Ao40 t873.length co40) : Value).ownBlock ∧ some k_ ≠ ((.slice Ao124 t900.length co124) : Value).ownBlock ∧ some k_ ≠ ((.slice Ao130 t903.length co130) : Value).ownBlock) (.slice Ao28 t887.length co28) t887) ∧ Aside0 (Kd.R (Kd.int .i64) 3 wc w.heap.size (fun k_ => some k_ ≠ ((.slice Ao21 t855.length co21) : Value).ownBlock ∧ some k_ ≠ ((.slice Ao24 t858.length co24) : Value).ownBlock ∧ some k_ ≠ ((.slice Ao28 t887.length co28) : Value).ownBlock ∧ some k_ ≠ ((.slice Ao35 t870.length co35) : Value).ownBlock ∧ some k_ ≠ ((.slice Ao40 t873.length co40) : Value).ownBlock ∧ some k_ ≠ ((.slice Ao124 t900.length co124) : Value).ownBlock ∧ some k_ ≠ ((.slice Ao130 t903.length co130) : Value).ownBlock) (.slice Ao32 t888.length co32) t888) ∧ Aside0 (Kd.R (Kd.int .i64) 3 wc w.heap.size (fun k_ => some k_ ≠ ((.slice Ao21 t855.length co21) : Value).ownBlock ∧ some k_ ≠ ((.slice Ao24 t858.length co24) : Value).ownBlock ∧ some k_ ≠ ((.slice Ao28 t887.length co28) : Value).ownBlock ∧ some k_ ≠ ((.slice Ao32 t888.length co32) : Value).ownBlock ∧ some k_ ≠ ((.slice Ao40 t873.length co40) : Value).ownBlock ∧ some k_ ≠ ((.slice Ao124 t900.length co124) : Value).ownBlock ∧ some k_ ≠ ((.slice Ao130 t903.length co130) : Value).ownBlock) (.slice Ao35 t870.length co35) t891) ∧ Aside0 (Kd.R (Kd.int .i64) 3 wc w.heap.size (fun k_ => some k_ ≠ ((.slice Ao21 t855.length co21) : Value).ownBlock ∧ some k_ ≠ ((.slice Ao24 t858.length co24) : Value).ownBlock ∧ some k_ ≠ ((.slice Ao28 t887.length co28) : Value).ownBlock ∧ some k_ ≠ ((.slice Ao32 t888.length co32) : Value).ownBlock ∧ some k_ ≠ ((.slice Ao35 t870.length co35) : Value).ownBlock ∧ some k_ ≠ ((.slice Ao124 t900.length co124) : Value).ownBlock ∧ some k_ ≠ ((.slice Ao130 t903.length co130) : Value).ownBlock) (.slice Ao40 t873.length co40) t892) ∧ Aside0 (Kd.R (Kd.int .i64) 3 wc w.heap.size (fun k_ => some k_ ≠ ((.slice Ao21 t855.length co21) : Value).ownBlock ∧ some k_ ≠ ((.slice Ao24 t858.length co24) : Value).ownBlock ∧ some k_ ≠ ((.slice Ao28 t887.length co28) : Value).ownBlock ∧ some k_ ≠ ((.slice Ao32 t888.length co32) : Value).ownBlock ∧ some k_ ≠ ((.slice Ao35 t870.length co35) : Value).ownBlock ∧ some k_ ≠ ((.slice Ao40 t873.length co40) : Value).ownBlock ∧ some k_ ≠ ((.slice Ao130 t903.length co130) : Value).ownBlock) (.slice Ao124 t900.length co124) t900) ∧ Aside0 (Kd.R (Kd.int .i64) 3 wc w.heap.size (fun k_ => some k_ ≠ ((.slice Ao21 t855.length co21) : Value).ownBlock ∧ some k_ ≠ ((.slice Ao24 t858.length co24) : Value).ownBlock ∧ some k_ ≠ ((.slice Ao28 t887.length co28) : Value).ownBlock ∧ some k_ ≠ ((.slice Ao32 t888.length co32) : Value).ownBlock ∧ some k_ ≠ ((.slice Ao35 t870.length co35) : Value).ownBlock ∧ some k_ ≠ ((.slice Ao40 t873.length co40) : Value).ownBlock ∧ some k_ ≠ ((.slice Ao124 t900.length co124) : Value).ownBlock) (.slice Ao130 t903.length co130) t903) ∧ Aside0 (wc.heap[gb847]? = some (.cells #[(.slice A0_0 l0_0.length c0_0), (.slice A0_1 l0_1.length c0_1)] 24 (0, 0))) ∧ Aside0 (wc.heap[gb862]? = some (.cells #[(.slice Ao21 t855.length co21), (.slice Ao24 t858.length co24)] 27 (0, 0))) ∧ Aside0 (wc.heap[gb869]? = some (.cells #[(.slice Ao28 t887.length co28), (.slice Ao32 t888.length co32)] 27 (0, 0))) ∧ Aside0 (wc.heap[gb877]? = some (.cells #[(.slice Ao35 t870.length co35), (.slice Ao40 t873.length co40)] 27 (0, 0))) ∧ Aside0 (wc.heap[gb907]? = some (.cells #[(.slice Ao124 t900.length co124), (.slice Ao130 t903.length co130)] 27 (0, 0))) ∧ Aside0 (Below w.heap.size w wc))
                      case first =>
                        have H := HC108.out
                        clear HC108
                        replace H := Option.bind_eq_some_iff.mp H
                        obtain ⟨t908, A1310, H⟩ := H
                        replace H : (if t908 = true then (laws_FnExactUnshearSurface.j2 kj63 t890 (t906 != t861) t891 t892) else (laws_FnExactUnshearSurface.j2 kj63 t890 true t891 t892)) = some true := H
                        have A131 := Aside0.mk A1310
                        clear A1310
                        by_cases c132 : t908 = true
                        · subst c132
                          have H1 : (laws_FnExactUnshearSurface.j2 kj63 t890 (t906 != t861) t891 t892) = some true := by rw [if_pos rfl] at H; exact H
                          clear H
                          have H := H1
                          clear H1
                          have H' := Aside0.mk H
                          clear H
                          have hnb133 := NB907_847.out
                          have hnc133 := NB847_907.out
                          have hnb134 := NB907_862.out
                          have hnc134 := NB862_907.out
                          have hnb135 := NB907_869.out
                          have hnc135 := NB869_907.out
                          have hnb136 := NB907_877.out
                          have hnc136 := NB877_907.out
                          have hcz137_0 : w123.cell? ⟨gb907, 0, none⟩ = some (.slice none 0 0) := (blk_cell BK907.out 0).trans rfl
                          have hcz137_1 : w123.cell? ⟨gb907, 1, none⟩ = some (.slice none 0 0) := (blk_cell BK907.out 1).trans rfl
                          have hfz137_0 := blk_frozen BK907.out 0
                          have hfz137_1 := blk_frozen BK907.out 1
                          have hnb138 := NB862_847.out
                          have hnc138 := NB847_862.out
                          have hnb139 := NB862_869.out
                          have hnc139 := NB869_862.out
                          have hnb140 := NB862_877.out
                          have hnc140 := NB877_862.out
                          have hcz141_0 : w123.cell? ⟨gb862, 0, none⟩ = some (.slice Ao21 t855.length co21) := (blk_cell BK862.out 0).trans rfl
                          have hcz141_1 : w123.cell? ⟨gb862, 1, none⟩ = some (.slice Ao24 t858.length co24) := (blk_cell BK862.out 1).trans rfl
                          have hfz141_0 := blk_frozen BK862.out 0
                          have hfz141_1 := blk_frozen BK862.out 1
                          go_wp2_with (first | ((with_reducible refine gate_callee (f := 19) rfl ?_); refine goesL_ (some 81) rfl rfl Try.func19 (by kernel_rfl) rfl #[.agg #[.slice Ao124 t900.length co124, .slice Ao130 t903.length co130], .agg #[.slice Ao21 t855.length co21, .slice Ao24 t858.length co24]] rfl (by (try simp only [List.map_toArray, List.map_cons, List.map_nil]); first | done | rfl | (simp only [List.length_drop, List.length_take]; rfl)) ?_; (with_reducible refine (laws_eqSurface.calls kj63 _ _ t900 _ _ t903 _ _ t855 _ _ t858 true _ ?side1 ?side2 ?side3 ?side4 ?side5 ?side6 ?side7 ?side8 A131.out).mono ?_); (case side1 => refine (Kd.R_reads' (e := 3) (base := w.heap.size) (ok := fun k_ => ((((((((some k_ ≠ (.slice Ao130 t903.length co130 : Value).ownBlock ∧ some k_ ≠ (.slice Ao21 t855.length co21 : Value).ownBlock) ∧ some k_ ≠ (.slice Ao24 t858.length co24 : Value).ownBlock) ∧ some k_ ≠ (.slice Ao28 t887.length co28 : Value).ownBlock) ∧ some k_ ≠ (.slice Ao32 t888.length co32 : Value).ownBlock) ∧ some k_ ≠ (.slice Ao35 t870.length co35 : Value).ownBlock) ∧ some k_ ≠ (.slice Ao40 t873.length co40 : Value).ownBlock) ∧ some k_ ≠ (.slice Ao120 t894.length co120 : Value).ownBlock) ∧ some k_ ≠ (.slice Ao121 t897.length co121 : Value).ownBlock)) (n := t900.length) (c := co124) ?_).2.2; exact (by (with_reducible repeat (first | apply Kd.R_alloc | apply Kd.R_drewN | apply Kd.R_drew)); exact (Kd.R_mono (Kd.R_far (p := ⟨gb907, 1, none⟩) (Kd.R_far (p := ⟨gb907, 0, none⟩) (Kd.R_types HO902.out BK907.out (by decide)) (fun _ hk => hk.2) (.slice Ao124 t900.length co124)) (fun _ hk => hk.2) (.slice Ao130 t903.length co130)) (fun _ h_ => h_.1)))); (case side2 => exact (Kd.R_reads' HO902.out).2.1); (case side3 => refine (Kd.R_reads' (e := 3) (base := w.heap.size) (ok := fun k_ => ((((((((some k_ ≠ (.slice Ao124 t900.length co124 : Value).ownBlock ∧ some k_ ≠ (.slice Ao21 t855.length co21 : Value).ownBlock) ∧ some k_ ≠ (.slice Ao24 t858.length co24 : Value).ownBlock) ∧ some k_ ≠ (.slice Ao28 t887.length co28 : Value).ownBlock) ∧ some k_ ≠ (.slice Ao32 t888.length co32 : Value).ownBlock) ∧ some k_ ≠ (.slice Ao35 t870.length co35 : Value).ownBlock) ∧ some k_ ≠ (.slice Ao40 t873.length co40 : Value).ownBlock) ∧ some k_ ≠ (.slice Ao120 t894.length co120 : Value).ownBlock) ∧ some k_ ≠ (.slice Ao121 t897.length co121 : Value).ownBlock)) (n := t903.length) (c := co130) ?_).2.2; exact (by (with_reducible repeat (first | apply Kd.R_alloc | apply Kd.R_drewN | apply Kd.R_drew)); exact (Kd.R_mono (Kd.R_far (p := ⟨gb907, 1, none⟩) (Kd.R_far (p := ⟨gb907, 0, none⟩) (Kd.R_types HO905.out BK907.out (by decide)) (fun _ hk => hk.2) (.slice Ao124 t900.length co124)) (fun _ hk => hk.2) (.slice Ao130 t903.length co130)) (fun _ h_ => h_.1)))); (case side4 => exact (Kd.R_reads' HO905.out).2.1); (case side5 => refine (Kd.R_reads' (e := 3) (base := w.heap.size) (ok := fun k_ => (((((some k_ ≠ (.slice Ao24 t858.length co24 : Value).ownBlock ∧ (some k_ ≠ (.slice Ao28 t887.length co28 : Value).ownBlock ∧ (some k_ ≠ (.slice Ao32 t888.length co32 : Value).ownBlock ∧ (some k_ ≠ (.slice Ao35 t870.length co35 : Value).ownBlock ∧ some k_ ≠ (.slice Ao40 t873.length co40 : Value).ownBlock)))) ∧ some k_ ≠ (.slice Ao120 t894.length co120 : Value).ownBlock) ∧ some k_ ≠ (.slice Ao121 t897.length co121 : Value).ownBlock) ∧ some k_ ≠ (.slice Ao124 t900.length co124 : Value).ownBlock) ∧ some k_ ≠ (.slice Ao130 t903.length co130 : Value).ownBlock)) (n := t855.length) (c := co21) ?_).2.2; exact (by (with_reducible repeat (first | apply Kd.R_alloc | apply Kd.R_drewN | apply Kd.R_drew)); exact (Kd.R_mono (Kd.R_far (p := ⟨gb907, 1, none⟩) (Kd.R_far (p := ⟨gb907, 0, none⟩) (Kd.R_types HO_863000.out BK907.out (by decide)) (fun _ hk => hk.2) (.slice Ao124 t900.length co124)) (fun _ hk => hk.2) (.slice Ao130 t903.length co130)) (fun _ h_ => h_.1)))); (case side6 => exact (Kd.R_reads' HO_863000.out).2.1); (case side7 => refine (Kd.R_reads' (e := 3) (base := w.heap.size) (ok := fun k_ => (((((some k_ ≠ (.slice Ao21 t855.length co21 : Value).ownBlock ∧ (some k_ ≠ (.slice Ao28 t887.length co28 : Value).ownBlock ∧ (some k_ ≠ (.slice Ao32 t888.length co32 : Value).ownBlock ∧ (some k_ ≠ (.slice Ao35 t870.length co35 : Value).ownBlock ∧ some k_ ≠ (.slice Ao40 t873.length co40 : Value).ownBlock)))) ∧ some k_ ≠ (.slice Ao120 t894.length co120 : Value).ownBlock) ∧ some k_ ≠ (.slice Ao121 t897.length co121 : Value).ownBlock) ∧ some k_ ≠ (.slice Ao124 t900.length co124 : Value).ownBlock) ∧ some k_ ≠ (.slice Ao130 t903.length co130 : Value).ownBlock)) (n := t858.length) (c := co24) ?_).2.2; exact (by (with_reducible repeat (first | apply Kd.R_alloc | apply Kd.R_drewN | apply Kd.R_drew)); exact (Kd.R_mono (Kd.R_far (p := ⟨gb907, 1, none⟩) (Kd.R_far (p := ⟨gb907, 0, none⟩) (Kd.R_types HO_863001.out BK907.out (by decide)) (fun _ hk => hk.2) (.slice Ao124 t900.length co124)) (fun _ hk => hk.2) (.slice Ao130 t903.length co130)) (fun _ h_ => h_.1)))); (case side8 => exact (Kd.R_reads' HO_863001.out).2.1); rintro e w142 ⟨rfl, hb⟩; refine ⟨_, rfl, ?_⟩; have n0_ := Aside0.mk (Kd.R_below (by (with_reducible repeat (first | apply Kd.R_alloc | apply Kd.R_drewN | apply Kd.R_drew)); exact (Kd.R_mono (Kd.R_far (p := ⟨gb907, 1, none⟩) (Kd.R_far (p := ⟨gb907, 0, none⟩) (Kd.R_types HO_863000.out BK907.out (by decide)) (fun _ hk => hk.2) (.slice Ao124 t900.length co124)) (fun _ hk => hk.2) (.slice Ao130 t903.length co130)) (fun _ h_ => h_.1))) hb); have n1_ := Aside0.mk (Kd.R_below (by (with_reducible repeat (first | apply Kd.R_alloc | apply Kd.R_drewN | apply Kd.R_drew)); exact (Kd.R_mono (Kd.R_far (p := ⟨gb907, 1, none⟩) (Kd.R_far (p := ⟨gb907, 0, none⟩) (Kd.R_types HO_863001.out BK907.out (by decide)) (fun _ hk => hk.2) (.slice Ao124 t900.length co124)) (fun _ hk => hk.2) (.slice Ao130 t903.length co130)) (fun _ h_ => h_.1))) hb); have n2_ := Aside0.mk (Kd.R_below (by (with_reducible repeat (first | apply Kd.R_alloc | apply Kd.R_drewN | apply Kd.R_drew)); exact (Kd.R_mono (Kd.R_far (p := ⟨gb907, 1, none⟩) (Kd.R_far (p := ⟨gb907, 0, none⟩) (Kd.R_types HO_870000.out BK907.out (by decide)) (fun _ hk => hk.2) (.slice Ao124 t900.length co124)) (fun _ hk => hk.2) (.slice Ao130 t903.length co130)) (fun _ h_ => h_.1))) hb); have n3_ := Aside0.mk (Kd.R_below (by (with_reducible repeat (first | apply Kd.R_alloc | apply Kd.R_drewN | apply Kd.R_drew)); exact (Kd.R_mono (Kd.R_far (p := ⟨gb907, 1, none⟩) (Kd.R_far (p := ⟨gb907, 0, none⟩) (Kd.R_types HO_870001.out BK907.out (by decide)) (fun _ hk => hk.2) (.slice Ao124 t900.length co124)) (fun _ hk => hk.2) (.slice Ao130 t903.length co130)) (fun _ h_ => h_.1))) hb); have n4_ := Aside0.mk (Kd.R_below (by (with_reducible repeat (first | apply Kd.R_alloc | apply Kd.R_drewN | apply Kd.R_drew)); exact (Kd.R_mono (Kd.R_far (p := ⟨gb907, 1, none⟩) (Kd.R_far (p := ⟨gb907, 0, none⟩) (Kd.R_types HO_878000.out BK907.out (by decide)) (fun _ hk => hk.2) (.slice Ao124 t900.length co124)) (fun _ hk => hk.2) (.slice Ao130 t903.length co130)) (fun _ h_ => h_.1))) hb); have n5_ := Aside0.mk (Kd.R_below (by (with_reducible repeat (first | apply Kd.R_alloc | apply Kd.R_drewN | apply Kd.R_drew)); exact (Kd.R_mono (Kd.R_far (p := ⟨gb907, 1, none⟩) (Kd.R_far (p := ⟨gb907, 0, none⟩) (Kd.R_types HO_878001.out BK907.out (by decide)) (fun _ hk => hk.2) (.slice Ao124 t900.length co124)) (fun _ hk => hk.2) (.slice Ao130 t903.length co130)) (fun _ h_ => h_.1))) hb); have n6_ := Aside0.mk (Kd.R_below (by (with_reducible repeat (first | apply Kd.R_alloc | apply Kd.R_drewN | apply Kd.R_drew)); exact (Kd.R_mono (Kd.R_far (p := ⟨gb907, 1, none⟩) (Kd.R_far (p := ⟨gb907, 0, none⟩) (Kd.R_types HO896.out BK907.out (by decide)) (fun _ hk => hk.2) (.slice Ao124 t900.length co124)) (fun _ hk => hk.2) (.slice Ao130 t903.length co130)) (fun _ h_ => h_.1))) hb); have n7_ := Aside0.mk (Kd.R_below (by (with_reducible repeat (first | apply Kd.R_alloc | apply Kd.R_drewN | apply Kd.R_drew)); exact (Kd.R_mono (Kd.R_far (p := ⟨gb907, 1, none⟩) (Kd.R_far (p := ⟨gb907, 0, none⟩) (Kd.R_types HO899.out BK907.out (by decide)) (fun _ hk => hk.2) (.slice Ao124 t900.length co124)) (fun _ hk => hk.2) (.slice Ao130 t903.length co130)) (fun _ h_ => h_.1))) hb); have n8_ := Aside0.mk (Kd.R_below (by (with_reducible repeat (first | apply Kd.R_alloc | apply Kd.R_drewN | apply Kd.R_drew)); exact (Kd.R_mono (Kd.R_far (p := ⟨gb907, 1, none⟩) (Kd.R_far (p := ⟨gb907, 0, none⟩) (Kd.R_types HO902.out BK907.out (by decide)) (fun _ hk => hk.2) (.slice Ao124 t900.length co124)) (fun _ hk => hk.2) (.slice Ao130 t903.length co130)) (fun _ h_ => h_.1))) hb); have n9_ := Aside0.mk (Kd.R_below (by (with_reducible repeat (first | apply Kd.R_alloc | apply Kd.R_drewN | apply Kd.R_drew)); exact (Kd.R_mono (Kd.R_far (p := ⟨gb907, 1, none⟩) (Kd.R_far (p := ⟨gb907, 0, none⟩) (Kd.R_types HO905.out BK907.out (by decide)) (fun _ hk => hk.2) (.slice Ao124 t900.length co124)) (fun _ hk => hk.2) (.slice Ao130 t903.length co130)) (fun _ h_ => h_.1))) hb); have n10_ := Aside0.mk (blk_below (g := gb847) (o := .cells #[.slice A0_0 l0_0.length c0_0, .slice A0_1 l0_1.length c0_1] 24 (0, 0)) (by (with_reducible repeat (first | refine blk_drewN ?_ _ | refine blk_drew ?_ | refine blk_alloc ?_ _)); refine blk_far ?_ NB847_907.out _; (with_reducible repeat (first | refine blk_drewN ?_ _ | refine blk_drew ?_ | refine blk_alloc ?_ _)); refine blk_far ?_ NB847_907.out _; (with_reducible repeat (first | refine blk_drewN ?_ _ | refine blk_drew ?_ | refine blk_alloc ?_ _)); exact BK847.out) hb); have n11_ := Aside0.mk (blk_below (g := gb862) (o := .cells #[.slice Ao21 t855.length co21, .slice Ao24 t858.length co24] 27 (0, 0)) (by (with_reducible repeat (first | refine blk_drewN ?_ _ | refine blk_drew ?_ | refine blk_alloc ?_ _)); refine blk_far ?_ NB862_907.out _; (with_reducible repeat (first | refine blk_drewN ?_ _ | refine blk_drew ?_ | refine blk_alloc ?_ _)); refine blk_far ?_ NB862_907.out _; (with_reducible repeat (first | refine blk_drewN ?_ _ | refine blk_drew ?_ | refine blk_alloc ?_ _)); exact BK862.out) hb); have n12_ := Aside0.mk (blk_below (g := gb869) (o := .cells #[.slice Ao28 t887.length co28, .slice Ao32 t888.length co32] 27 (0, 0)) (by (with_reducible repeat (first | refine blk_drewN ?_ _ | refine blk_drew ?_ | refine blk_alloc ?_ _)); refine blk_far ?_ NB869_907.out _; (with_reducible repeat (first | refine blk_drewN ?_ _ | refine blk_drew ?_ | refine blk_alloc ?_ _)); refine blk_far ?_ NB869_907.out _; (with_reducible repeat (first | refine blk_drewN ?_ _ | refine blk_drew ?_ | refine blk_alloc ?_ _)); exact BK869.out) hb); have n13_ := Aside0.mk (blk_below (g := gb877) (o := .cells #[.slice Ao35 t870.length co35, .slice Ao40 t873.length co40] 27 (0, 0)) (by (with_reducible repeat (first | refine blk_drewN ?_ _ | refine blk_drew ?_ | refine blk_alloc ?_ _)); refine blk_far ?_ NB877_907.out _; (with_reducible repeat (first | refine blk_drewN ?_ _ | refine blk_drew ?_ | refine blk_alloc ?_ _)); refine blk_far ?_ NB877_907.out _; (with_reducible repeat (first | refine blk_drewN ?_ _ | refine blk_drew ?_ | refine blk_alloc ?_ _)); exact BK877.out) hb); have n14_ := Aside0.mk (blk_below (g := gb907) (o := .cells #[.slice Ao124 t900.length co124, .slice Ao130 t903.length co130] 27 (0, 0)) (by (with_reducible repeat (first | refine blk_drewN ?_ _ | refine blk_drew ?_ | refine blk_alloc ?_ _)); refine blk_put (cs := #[.slice Ao124 t900.length co124, .slice none 0 0]) ?_ 1 _ rfl; (with_reducible repeat (first | refine blk_drewN ?_ _ | refine blk_drew ?_ | refine blk_alloc ?_ _)); refine blk_put (cs := #[.slice none 0 0, .slice none 0 0]) ?_ 0 _ rfl; (with_reducible repeat (first | refine blk_drewN ?_ _ | refine blk_drew ?_ | refine blk_alloc ?_ _)); exact BK907.out) hb); have n15_ := Aside0.mk (below_step (by repeat (first | (with_reducible first | exact HB.out | apply below_alloc | apply pw_below_drewN | apply below_drew1 | refine below_set ?_ GE847.out | refine below_set ?_ GE862.out | refine below_set ?_ GE869.out | refine below_set ?_ GE877.out | refine below_set ?_ GE907.out) | exact HB.out)) hb); clear HO_863000; clear HO_863001; clear HO_870000; clear HO_870001; clear HO_878000; clear HO_878001; clear HO896; clear HO899; clear HO902; clear HO905; clear BK847; clear BK862; clear BK869; clear BK877; clear BK907; clear HB; have HO_863000 := n0_; have HO_863001 := n1_; have HO_870000 := n2_; have HO_870001 := n3_; have HO_878000 := n4_; have HO_878001 := n5_; have HO896 := n6_; have HO899 := n7_; have HO902 := n8_; have HO905 := n9_; have BK847 := n10_; have BK862 := n11_; have BK869 := n12_; have BK877 := n13_; have BK907 := n14_; have HB := n15_; clear n0_ n1_ n2_ n3_ n4_ n5_ n6_ n7_ n8_ n9_ n10_ n11_ n12_ n13_ n14_ n15_; (try clear hb); (try clear hb2); (try clear hk); (try clear hi)))
                          go_meet
                          case rel => exact ⟨_, ((t906 != t861)), (by first | rfl | (simp; done) | (simp [*]; done)), H', ⟨by have := HJ10.out; have := HJ63.out; first | omega | exact Nat.le_refl _⟩, ⟨by (try simp only [hl870000_63]); (try simp only [hl870001_63]); (with_reducible repeat (first | apply Kd.R_alloc | apply Kd.R_drewN | apply Kd.R_drew)); exact Kd.R_mono HO_863000.out (fun _ hk => ⟨hk.1.1.1.1.1, ⟨hk.1.1.1.1.2.1, ⟨hk.1.1.1.1.2.2.1, ⟨hk.1.1.1.1.2.2.2.1, ⟨hk.1.1.1.1.2.2.2.2, ⟨hk.1.2, hk.2⟩⟩⟩⟩⟩⟩)⟩, ⟨by (try simp only [hl870000_63]); (try simp only [hl870001_63]); (with_reducible repeat (first | apply Kd.R_alloc | apply Kd.R_drewN | apply Kd.R_drew)); exact Kd.R_mono HO_863001.out (fun _ hk => ⟨hk.1.1.1.1.1, ⟨hk.1.1.1.1.2.1, ⟨hk.1.1.1.1.2.2.1, ⟨hk.1.1.1.1.2.2.2.1, ⟨hk.1.1.1.1.2.2.2.2, ⟨hk.1.2, hk.2⟩⟩⟩⟩⟩⟩)⟩, ⟨by (try simp only [hl870000_63]); (try simp only [hl870001_63]); (with_reducible repeat (first | apply Kd.R_alloc | apply Kd.R_drewN | apply Kd.R_drew)); exact Kd.R_mono HO_870000.out (fun _ hk => ⟨hk.1.1.1.1.1, ⟨hk.1.1.1.1.2.1, ⟨hk.1.1.1.1.2.2.1, ⟨hk.1.1.1.1.2.2.2.1, ⟨hk.1.1.1.1.2.2.2.2, ⟨hk.1.2, hk.2⟩⟩⟩⟩⟩⟩)⟩, ⟨by (try simp only [hl870000_63]); (try simp only [hl870001_63]); (with_reducible repeat (first | apply Kd.R_alloc | apply Kd.R_drewN | apply Kd.R_drew)); exact Kd.R_mono HO_870001.out (fun _ hk => ⟨hk.1.1.1.1.1, ⟨hk.1.1.1.1.2.1, ⟨hk.1.1.1.1.2.2.1, ⟨hk.1.1.1.1.2.2.2.1, ⟨hk.1.1.1.1.2.2.2.2, ⟨hk.1.2, hk.2⟩⟩⟩⟩⟩⟩)⟩, ⟨by (try simp only [hl870000_63]); (try simp only [hl870001_63]); (with_reducible repeat (first | apply Kd.R_alloc | apply Kd.R_drewN | apply Kd.R_drew)); exact Kd.R_mono HO_878000.out (fun _ hk => ⟨hk.1.1.1.1.1, ⟨hk.1.1.1.1.2.1, ⟨hk.1.1.1.1.2.2.1, ⟨hk.1.1.1.1.2.2.2.1, ⟨hk.1.1.1.1.2.2.2.2, ⟨hk.1.2, hk.2⟩⟩⟩⟩⟩⟩)⟩, ⟨by (try simp only [hl870000_63]); (try simp only [hl870001_63]); (with_reducible repeat (first | apply Kd.R_alloc | apply Kd.R_drewN | apply Kd.R_drew)); exact Kd.R_mono HO_878001.out (fun _ hk => ⟨hk.1.1.1.1.1, ⟨hk.1.1.1.1.2.1, ⟨hk.1.1.1.1.2.2.1, ⟨hk.1.1.1.1.2.2.2.1, ⟨hk.1.1.1.1.2.2.2.2, ⟨hk.1.2, hk.2⟩⟩⟩⟩⟩⟩)⟩, ⟨by (try simp only [hl870000_63]); (try simp only [hl870001_63]); (with_reducible repeat (first | apply Kd.R_alloc | apply Kd.R_drewN | apply Kd.R_drew)); exact Kd.R_mono HO902.out (fun _ hk => ⟨hk.1.1.1.1.1.1.1.2, ⟨hk.1.1.1.1.1.1.2, ⟨hk.1.1.1.1.1.2, ⟨hk.1.1.1.1.2, ⟨hk.1.1.1.2, ⟨hk.1.1.2, hk.1.1.1.1.1.1.1.1⟩⟩⟩⟩⟩⟩)⟩, ⟨by (try simp only [hl870000_63]); (try simp only [hl870001_63]); (with_reducible repeat (first | apply Kd.R_alloc | apply Kd.R_drewN | apply Kd.R_drew)); exact Kd.R_mono HO905.out (fun _ hk => ⟨hk.1.1.1.1.1.1.1.2, ⟨hk.1.1.1.1.1.1.2, ⟨hk.1.1.1.1.1.2, ⟨hk.1.1.1.1.2, ⟨hk.1.1.1.2, ⟨hk.1.1.2, hk.1.1.1.1.1.1.1.1⟩⟩⟩⟩⟩⟩)⟩, ⟨by (try simp only [hl870000_63]); (try simp only [hl870001_63]); (with_reducible repeat (first | refine blk_drewN ?_ _ | refine blk_drew ?_ | refine blk_alloc ?_ _)); exact BK847.out⟩, ⟨by (try simp only [hl870000_63]); (try simp only [hl870001_63]); (with_reducible repeat (first | refine blk_drewN ?_ _ | refine blk_drew ?_ | refine blk_alloc ?_ _)); exact BK862.out⟩, ⟨by (try simp only [hl870000_63]); (try simp only [hl870001_63]); (with_reducible repeat (first | refine blk_drewN ?_ _ | refine blk_drew ?_ | refine blk_alloc ?_ _)); exact BK869.out⟩, ⟨by (try simp only [hl870000_63]); (try simp only [hl870001_63]); (with_reducible repeat (first | refine blk_drewN ?_ _ | refine blk_drew ?_ | refine blk_alloc ?_ _)); exact BK877.out⟩, ⟨by (try simp only [hl870000_63]); (try simp only [hl870001_63]); (with_reducible repeat (first | refine blk_drewN ?_ _ | refine blk_drew ?_ | refine blk_alloc ?_ _)); exact BK907.out⟩, ⟨by repeat (first | (with_reducible first | exact HB.out | apply below_alloc | apply pw_below_drewN | apply below_drew1 | refine below_set ?_ GE847.out | refine below_set ?_ GE862.out | refine below_set ?_ GE869.out | refine below_set ?_ GE877.out | refine below_set ?_ GE907.out) | exact HB.out)⟩⟩
                        · replace c132 := Bool.eq_false_iff.mpr c132
                          subst c132
                          have H1 : (laws_FnExactUnshearSurface.j2 kj63 t890 true t891 t892) = some true := by rw [if_neg (show ¬ (false = true) by decide)] at H; exact H
                          clear H
                          have H := H1
                          clear H1
                          exact absurd H (by cases kj63 <;> simp [laws_FnExactUnshearSurface.j2])
                      case rest =>
                        clear HC108
                        try clear c1
                        try clear c2
                        try clear p2
                        try clear c3
                        try clear c3b0
                        try clear c4
                        try clear c5
                        try clear c6
                        try clear c7
                        try clear c8
                        try clear c9
                        try clear c10
                        try clear c11
                        try clear c12
                        try clear c13
                        try clear c14
                        try clear c15
                        try clear c17
                        try clear c19
                        try clear c22
                        try clear c29
                        try clear c30
                        try clear c36
                        try clear c37
                        try clear c38
                        try clear c42
                        try clear c43
                        try clear c44
                        try clear c45
                        try clear c46
                        try clear c47
                        try clear c48
                        try clear c49
                        try clear c50
                        try clear c51
                        try clear c52
                        try clear c53
                        try clear c55
                        try clear c56
                        try clear c59
                        try clear c62
                        try clear c70
                        try clear c71
                        try clear c72
                        try clear c75
                        try clear c75b0
                        try clear c77
                        try clear c78
                        try clear c79
                        try clear c80
                        try clear c82
                        try clear c83
                        try clear c86
                        try clear c87
                        try clear c88
                        try clear c90
                        try clear c91
                        try clear c94
                        try clear c97
                        try clear c97b0
                        try clear c98
                        try clear c99
                        try clear c100
                        try clear c105
                        try clear c105b0
                        try clear c105b1
                        try clear c109
                        try clear c110
                        try clear c111
                        try clear c116
                        try clear c117
                        try clear c125
                        try clear c126
                        try clear c127
                        try clear c128
                        try clear c132
                        try clear c133
                        try clear c134
                        try clear c135
                        try clear c136
                        try clear c138
                        try clear c139
                        try clear c140
                        try clear c143
                        try clear c144
                        try clear c145
                        try clear c146
                        try clear c148
                        try clear c149
                        try clear c150
                        try clear hcz101_0
                        try clear hcz101_1
                        try clear hcz103_0
                        try clear hcz103_1
                        try clear hcz112_0
                        try clear hcz112_1
                        try clear hcz114_0
                        try clear hcz114_1
                        try clear hcz118_0
                        try clear hcz118_1
                        try clear hcz129_0
                        try clear hcz129_1
                        try clear hcz137_0
                        try clear hcz137_1
                        try clear hcz13_0
                        try clear hcz13_1
                        try clear hcz141_0
                        try clear hcz141_1
                        try clear hcz147_0
                        try clear hcz147_1
                        try clear hcz151_0
                        try clear hcz151_1
                        try clear hcz15_0
                        try clear hcz15_1
                        try clear hcz23_0
                        try clear hcz23_1
                        try clear hcz25_0
                        try clear hcz25_1
                        try clear hcz31_0
                        try clear hcz31_1
                        try clear hcz39_0
                        try clear hcz39_1
                        try clear hcz46_0
                        try clear hcz46_1
                        try clear hcz49_0
                        try clear hcz49_1
                        try clear hcz54_0
                        try clear hcz54_1
                        try clear hcz57_0
                        try clear hcz57_1
                        try clear hcz5_0
                        try clear hcz5_1
                        try clear hcz73_0
                        try clear hcz73_1
                        try clear hcz81_0
                        try clear hcz81_1
                        try clear hcz84_0
                        try clear hcz84_1
                        try clear hcz89_0
                        try clear hcz89_1
                        try clear hcz92_0
                        try clear hcz92_1
                        try clear hfz101_0
                        try clear hfz101_1
                        try clear hfz103_0
                        try clear hfz103_1
                        try clear hfz112_0
                        try clear hfz112_1
                        try clear hfz114_0
                        try clear hfz114_1
                        try clear hfz118_0
                        try clear hfz118_1
                        try clear hfz129_0
                        try clear hfz129_1
                        try clear hfz137_0
                        try clear hfz137_1
                        try clear hfz13_0
                        try clear hfz13_1
                        try clear hfz141_0
                        try clear hfz141_1
                        try clear hfz147_0
                        try clear hfz147_1
                        try clear hfz151_0
                        try clear hfz151_1
                        try clear hfz15_0
                        try clear hfz15_1
                        try clear hfz23_0
                        try clear hfz23_1
                        try clear hfz25_0
                        try clear hfz25_1
                        try clear hfz31_0
                        try clear hfz31_1
                        try clear hfz39_0
                        try clear hfz39_1
                        try clear hfz46_0
                        try clear hfz46_1
                        try clear hfz49_0
                        try clear hfz49_1
                        try clear hfz54_0
                        try clear hfz54_1
                        try clear hfz57_0
                        try clear hfz57_1
                        try clear hfz5_0
                        try clear hfz5_1
                        try clear hfz73_0
                        try clear hfz73_1
                        try clear hfz81_0
                        try clear hfz81_1
                        try clear hfz84_0
                        try clear hfz84_1
                        try clear hfz89_0
                        try clear hfz89_1
                        try clear hfz92_0
                        try clear hfz92_1
                        try clear p2
                        obtain ⟨kq, x87_107, rfl, HA, HJ107, HO_863000, HO_863001, HO_870000, HO_870001, HO_878000, HO_878001, HO_908000, HO_908001, BK847, BK862, BK869, BK877, BK907, HB⟩ := hcut
                        have hl878000_107 := (Kd.R_reads' HO_878000.out).1
                        rw [hl878000_107] at HO_878000
                        (try simp only [hl878000_107])
                        (try simp only [hl878000_107] at BK847)
                        (try simp only [hl878000_107] at BK862)
                        (try simp only [hl878000_107] at BK869)
                        (try simp only [hl878000_107] at BK877)
                        (try simp only [hl878000_107] at BK907)
                        (try simp only [hl878000_107] at HO_863000)
                        (try simp only [hl878000_107] at HO_863001)
                        (try simp only [hl878000_107] at HO_870000)
                        (try simp only [hl878000_107] at HO_870001)
                        (try simp only [hl878000_107] at HO_878001)
                        (try simp only [hl878000_107] at HO_908000)
                        (try simp only [hl878000_107] at HO_908001)
                        have hl878001_107 := (Kd.R_reads' HO_878001.out).1
                        rw [hl878001_107] at HO_878001
                        (try simp only [hl878001_107])
                        (try simp only [hl878001_107] at BK847)
                        (try simp only [hl878001_107] at BK862)
                        (try simp only [hl878001_107] at BK869)
                        (try simp only [hl878001_107] at BK877)
                        (try simp only [hl878001_107] at BK907)
                        (try simp only [hl878001_107] at HO_863000)
                        (try simp only [hl878001_107] at HO_863001)
                        (try simp only [hl878001_107] at HO_870000)
                        (try simp only [hl878001_107] at HO_870001)
                        (try simp only [hl878001_107] at HO_878000)
                        (try simp only [hl878001_107] at HO_908000)
                        (try simp only [hl878001_107] at HO_908001)
                        cases kq with
                        | zero => exact absurd HA.out (by simp [laws_FnExactUnshearSurface.j2])
                        | succ kj107 =>
                          have H := HA.out
                          clear HA
                          simp only [laws_FnExactUnshearSurface.j2] at H
                          by_cases c153 : x87_107 = true
                          · subst c153
                            have H1 : (some false) = some true := by rw [if_pos rfl] at H; exact H
                            clear H
                            have H := H1
                            clear H1
                            exact absurd H (by simp)
                          · replace c153 := Bool.eq_false_iff.mpr c153
                            subst c153
                            have H1 : ((laws_heldSurface.f kj107 t891 t892 1).bind fun t909 => (if t909 < 0 then (some false) else (if t909 = t890 then (some true) else (some false)))) = some true := by rw [if_neg (show ¬ (false = true) by decide)] at H; exact H
                            clear H
                            have H := H1
                            clear H1
                            replace H := Option.bind_eq_some_iff.mp H
                            obtain ⟨t909, A1540, H⟩ := H
                            replace H : (if t909 < 0 then (some false) else (if t909 = t890 then (some true) else (some false))) = some true := H
                            have A154 := Aside0.mk A1540
                            clear A1540
                            by_cases c155 : t909 < 0
                            · rw [if_pos c155] at H
                              have c155b0 : decide (t909 < 0) = true := decide_eq_true c155
                              clear c155
                              exact absurd H (by simp)
                            · rw [if_neg c155] at H
                              have c155b0 : decide (t909 < 0) = false := decide_eq_false c155
                              clear c155
                              by_cases c162 : t909 = t890
                              · rw [if_pos c162] at H
                                have c162b0 : (t909 == t890) = true := beq_iff_eq.mpr c162
                                have c162b1 : (t909 != t890) = false := bne_eq_false_iff_eq.mpr c162
                                clear c162
                                have hnb163 := NB877_847.out
                                have hnc163 := NB847_877.out
                                have hnb164 := NB877_862.out
                                have hnc164 := NB862_877.out
                                have hnb165 := NB877_869.out
                                have hnc165 := NB869_877.out
                                have hnb166 := NB877_907.out
                                have hnc166 := NB907_877.out
                                have hcz167_0 : wc.cell? ⟨gb877, 0, none⟩ = some (.slice Ao35 t891.length co35) := (blk_cell BK877.out 0).trans rfl
                                have hcz167_1 : wc.cell? ⟨gb877, 1, none⟩ = some (.slice Ao40 t892.length co40) := (blk_cell BK877.out 1).trans rfl
                                have hfz167_0 := blk_frozen BK877.out 0
                                have hfz167_1 := blk_frozen BK877.out 1
                                go_wp2_with (first | ((with_reducible refine gate_callee (f := 46) rfl ?_); refine goesL_ (some 90) rfl rfl Try.func46 (by kernel_rfl) rfl #[.agg #[.slice Ao35 t891.length co35, .slice Ao40 t892.length co40], .int .i64 1] rfl (by (try simp only [List.map_toArray, List.map_cons, List.map_nil]); first | done | rfl | (simp only [List.length_drop, List.length_take]; rfl)) ?_; (with_reducible refine (laws_heldSurface.calls kj107 _ _ t891 _ _ t892 1 t909 _ ?side1 ?side2 ?side3 ?side4 A154.out).mono ?_); (case side1 => repeat (first | exact (Kd.R_reads' HO_878000.out).2.2 | (with_reducible refine Kd.C_alloc ?_ _) | (with_reducible refine Kd.C_drewN ?_ _) | (with_reducible refine Kd.C_drew ?_))); (case side2 => exact (Kd.R_reads' HO_878000.out).2.1); (case side3 => repeat (first | exact (Kd.R_reads' HO_878001.out).2.2 | (with_reducible refine Kd.C_alloc ?_ _) | (with_reducible refine Kd.C_drewN ?_ _) | (with_reducible refine Kd.C_drew ?_))); (case side4 => exact (Kd.R_reads' HO_878001.out).2.1); rintro e w168 ⟨rfl, hb⟩; refine ⟨_, rfl, ?_⟩; have n0_ := Aside0.mk (Kd.R_below (by (with_reducible repeat (first | apply Kd.R_alloc | apply Kd.R_drewN | apply Kd.R_drew)); exact HO_863000.out) hb); have n1_ := Aside0.mk (Kd.R_below (by (with_reducible repeat (first | apply Kd.R_alloc | apply Kd.R_drewN | apply Kd.R_drew)); exact HO_863001.out) hb); have n2_ := Aside0.mk (Kd.R_below (by (with_reducible repeat (first | apply Kd.R_alloc | apply Kd.R_drewN | apply Kd.R_drew)); exact HO_870000.out) hb); have n3_ := Aside0.mk (Kd.R_below (by (with_reducible repeat (first | apply Kd.R_alloc | apply Kd.R_drewN | apply Kd.R_drew)); exact HO_870001.out) hb); have n4_ := Aside0.mk (Kd.R_below (by (with_reducible repeat (first | apply Kd.R_alloc | apply Kd.R_drewN | apply Kd.R_drew)); exact HO_878000.out) hb); have n5_ := Aside0.mk (Kd.R_below (by (with_reducible repeat (first | apply Kd.R_alloc | apply Kd.R_drewN | apply Kd.R_drew)); exact HO_878001.out) hb); have n6_ := Aside0.mk (Kd.R_below (by (with_reducible repeat (first | apply Kd.R_alloc | apply Kd.R_drewN | apply Kd.R_drew)); exact HO_908000.out) hb); have n7_ := Aside0.mk (Kd.R_below (by (with_reducible repeat (first | apply Kd.R_alloc | apply Kd.R_drewN | apply Kd.R_drew)); exact HO_908001.out) hb); have n8_ := Aside0.mk (blk_below (g := gb847) (o := .cells #[.slice A0_0 l0_0.length c0_0, .slice A0_1 l0_1.length c0_1] 24 (0, 0)) (by (with_reducible repeat (first | refine blk_drewN ?_ _ | refine blk_drew ?_ | refine blk_alloc ?_ _)); exact BK847.out) hb); have n9_ := Aside0.mk (blk_below (g := gb862) (o := .cells #[.slice Ao21 t855.length co21, .slice Ao24 t858.length co24] 27 (0, 0)) (by (with_reducible repeat (first | refine blk_drewN ?_ _ | refine blk_drew ?_ | refine blk_alloc ?_ _)); exact BK862.out) hb); have n10_ := Aside0.mk (blk_below (g := gb869) (o := .cells #[.slice Ao28 t887.length co28, .slice Ao32 t888.length co32] 27 (0, 0)) (by (with_reducible repeat (first | refine blk_drewN ?_ _ | refine blk_drew ?_ | refine blk_alloc ?_ _)); exact BK869.out) hb); have n11_ := Aside0.mk (blk_below (g := gb877) (o := .cells #[.slice Ao35 t891.length co35, .slice Ao40 t892.length co40] 27 (0, 0)) (by (with_reducible repeat (first | refine blk_drewN ?_ _ | refine blk_drew ?_ | refine blk_alloc ?_ _)); exact BK877.out) hb); have n12_ := Aside0.mk (blk_below (g := gb907) (o := .cells #[.slice Ao124 t900.length co124, .slice Ao130 t903.length co130] 27 (0, 0)) (by (with_reducible repeat (first | refine blk_drewN ?_ _ | refine blk_drew ?_ | refine blk_alloc ?_ _)); exact BK907.out) hb); have n13_ := Aside0.mk (below_step (by repeat (first | (with_reducible first | exact HB.out | apply below_alloc | apply pw_below_drewN | apply below_drew1 | refine below_set ?_ GE847.out | refine below_set ?_ GE862.out | refine below_set ?_ GE869.out | refine below_set ?_ GE877.out | refine below_set ?_ GE907.out) | exact HB.out)) hb); clear HO_863000; clear HO_863001; clear HO_870000; clear HO_870001; clear HO_878000; clear HO_878001; clear HO_908000; clear HO_908001; clear BK847; clear BK862; clear BK869; clear BK877; clear BK907; clear HB; have HO_863000 := n0_; have HO_863001 := n1_; have HO_870000 := n2_; have HO_870001 := n3_; have HO_878000 := n4_; have HO_878001 := n5_; have HO_908000 := n6_; have HO_908001 := n7_; have BK847 := n8_; have BK862 := n9_; have BK869 := n10_; have BK877 := n11_; have BK907 := n12_; have HB := n13_; clear n0_ n1_ n2_ n3_ n4_ n5_ n6_ n7_ n8_ n9_ n10_ n11_ n12_ n13_; (try clear hb); (try clear hb2); (try clear hk); (try clear hi)))
                                go_ret
                                exact ⟨by first | rfl | (simp [errW_none, errW_some] <;> rfl) | (simp [*, errW_none, errW_some] <;> rfl), by repeat (first | (with_reducible first | exact HB.out | apply below_alloc | apply pw_below_drewN | apply below_drew1 | refine below_set ?_ GE847.out | refine below_set ?_ GE862.out | refine below_set ?_ GE869.out | refine below_set ?_ GE877.out | refine below_set ?_ GE907.out) | exact HB.out)⟩
                              · rw [if_neg c162] at H
                                have c162b0 : (t909 == t890) = false := beq_eq_false_iff_ne.mpr c162
                                have c162b1 : (t909 != t890) = true := bne_iff_ne.mpr c162
                                exact absurd H (by simp)
                    · rw [if_neg c105] at H
                      have c105b0 : (t893 == t890) = false := beq_eq_false_iff_ne.mpr c105
                      have c105b1 : (t893 != t890) = true := bne_iff_ne.mpr c105
                      exact absurd H (by simp)
          · replace c62 := Bool.eq_false_iff.mpr c62
            subst c62
            have H1 : (some false) = some true := by rw [if_neg (show ¬ (false = true) by decide)] at H; exact H
            clear H
            have H := H1
            clear H1
            exact absurd H (by simp)

/-- The pure statement of laws_FnExactUnshearSurface. -/
def laws_FnExactUnshearSurface.Pure : Prop := ∀ (l0_0 : List Int) (l0_1 : List Int), l0_0.length ≤ maxLen → (∀ x ∈ l0_0, (Lit.int .i64 x).wf = true) → l0_1.length ≤ maxLen → (∀ x ∈ l0_1, (Lit.int .i64 x).wf = true) → ∃ k, laws_FnExactUnshearSurface.f k l0_0 l0_1 = some true
theorem laws_FnExactUnshearSurface.walk (P : laws_FnExactUnshearSurface.Pure) (a0_0 : Option Addr) (len0_0 cap0_0 : Nat) (z0_0 : List Int) (a0_1 : Option Addr) (len0_1 cap0_1 : Nat) (z0_1 : List Int) (w : World) (w0_0 : ((a0_0 = none ∧ len0_0 = 0 ∧ cap0_0 = 0 ∧ z0_0 = []) ∨ ∃ x, a0_0 = some x ∧ len0_0 ≤ cap0_0 ∧ cap0_0 ≤ maxLen ∧ z0_0.length = cap0_0 ∧ (∀ i, i < z0_0.length → w.cell? (x.add i) = some (.int .i64 (z0_0.getD i 0))) ∧ ∀ n ∈ z0_0, (Lit.int .i64 n).wf = true)) (w0_1 : ((a0_1 = none ∧ len0_1 = 0 ∧ cap0_1 = 0 ∧ z0_1 = []) ∨ ∃ x, a0_1 = some x ∧ len0_1 ≤ cap0_1 ∧ cap0_1 ≤ maxLen ∧ z0_1.length = cap0_1 ∧ (∀ i, i < z0_1.length → w.cell? (x.add i) = some (.int .i64 (z0_1.getD i 0))) ∧ ∀ n ∈ z0_1, (Lit.int .i64 n).wf = true)) :
    Calls Try.prog 11 #[.agg #[.slice a0_0 len0_0 cap0_0, .slice a0_1 len0_1 cap0_1]] w fun e w' => e = .returned (.bool true) ∧ Below w.heap.size w w' := by
  obtain ⟨l0_0, rfl, hr0_0, hm0_0, hw0_0, hc0_0⟩ := ReadsInt.ofRowC w0_0
  obtain ⟨l0_1, rfl, hr0_1, hm0_1, hw0_1, hc0_1⟩ := ReadsInt.ofRowC w0_1
  obtain ⟨k, h⟩ := P l0_0 l0_1 hm0_0 hw0_0 hm0_1 hw0_1
  refine (laws_FnExactUnshearSurface.calls_true k _ _ l0_0 _ _ l0_1 w (Kd.C_of_reads (d := (0 : Int)) (h1 := fun _ => rfl) hr0_0) hc0_0 (Kd.C_of_reads (d := (0 : Int)) (h1 := fun _ => rfl) hr0_1) hc0_1 h).mono ?_
  rintro e w' ⟨rfl, hd⟩
  exact ⟨rfl, hd⟩

end Go.Proofs.Ytlohmpgbjgidpac.P
