-- MADE by this project's printer (wip/mk) out of the translation; Lean checks it.
import Derived.Test.YtlohmpgbjgidpacPx0
import Derived.Test.YtlohmpgbjgidpacPx2
import Derived.Test.YtlohmpgbjgidpacPx11
import Derived.Test.YtlohmpgbjgidpacPx17
import Derived.Test.YtlohmpgbjgidpacPx69
import Derived.Test.YtlohmpgbjgidpacPx75
import Derived.Test.YtlohmpgbjgidpacPx87
import Derived.Test.YtlohmpgbjgidpacPx88
namespace Go.Proofs.Ytlohmpgbjgidpac.P
open Go.RowKit Go.Proofs.YtlohmpgbjgidpacW.PrintWords Go.Proofs.YtlohmpgbjgidpacW.PrintLast Go.Proofs.YtlohmpgbjgidpacW.PrintMore
attribute [local go_sem] max2_int min2_int max_two min_two max_three min_three max_four min_four   -- for this text's walks alone
set_option linter.unusedVariables false
set_option linter.unusedSimpArgs false

/-! ### laws_FnExactUnturnSurface: function 12 -/
mutual
def laws_FnExactUnturnSurface.j0 : Nat → Bool → Bool → Bool → List Int → List Int → List Int → List Int → List Int → List Int → List Int → List Int → Option (Bool)
  | 0, _, _, _, _, _, _, _, _, _, _, _ => none
  | k + 1, x5, x8, x40, x940000, x940001, x955000, x955001, x962000, x962001, x970000, x970001 => if x40 = true then (some false) else ((laws_toSurface.f k x940000 x940001).bind fun bt971 => ((laws_eqSurface.f k x962000 x962001 bt971.1 bt971.2).bind fun t977 => (if t977 = true then ((laws_markSurface.f k x962000 x962001 1).bind fun bt978 => (if bt978.1 < 0 then (laws_FnExactUnturnSurface.j1 k x5 true x940000 x940001 x955000 x955001 x970000 x970001) else ((laws_eqSurface.f k x970000 x970001 x955000 x955001).bind fun t981 => (if t981 = true then (laws_FnExactUnturnSurface.j1 k x5 (x8 != x5) x940000 x940001 x955000 x955001 x970000 x970001) else (laws_FnExactUnturnSurface.j1 k x5 true x940000 x940001 x955000 x955001 x970000 x970001))))) else (some false))))
def laws_FnExactUnturnSurface.j1 : Nat → Bool → Bool → List Int → List Int → List Int → List Int → List Int → List Int → Option (Bool)
  | 0, _, _, _, _, _, _, _, _ => none
  | k + 1, x5, x61, x940000, x940001, x955000, x955001, x970000, x970001 => if x61 = true then (some false) else ((laws_markSurface.f k x970000 x970001 1).bind fun bt982 => ((laws_heldSurface.f k bt982.2.1 bt982.2.2 1).bind fun t985 => (if t985 < 0 then (some false) else (if t985 = bt982.1 then ((laws_toSurface.f k x940000 x940001).bind fun bt986 => ((impl_UnturnSurface.f k bt986.1 bt986.2).bind fun bt992 => ((laws_eqSurface.f k bt992.1 bt992.2.1 x955000 x955001).bind fun t1000 => (if t1000 = true then (laws_FnExactUnturnSurface.j2 k bt982.1 (bt992.2.2 != x5) bt982.2.1 bt982.2.2) else (laws_FnExactUnturnSurface.j2 k bt982.1 true bt982.2.1 bt982.2.2))))) else (some false)))))
def laws_FnExactUnturnSurface.j2 : Nat → Int → Bool → List Int → List Int → Option (Bool)
  | 0, _, _, _, _ => none
  | k + 1, x10, x87, x970000, x970001 => if x87 = true then (some false) else ((laws_heldSurface.f k x970000 x970001 1).bind fun t1001 => (if t1001 < 0 then (some false) else (if t1001 = x10 then (some true) else (some false))))
end
def laws_FnExactUnturnSurface.f (k : Nat) (l0_0 : List Int) (l0_1 : List Int) : Option (Bool) := (laws_szSurface.f l0_0 l0_1 1048576).bind fun t940 => (if t940 < 0 then (some true) else ((laws_toSurface.f k l0_0 l0_1).bind fun bt941 => ((spec_UnturnSurface.f k bt941.1 bt941.2).bind fun bt947 => ((laws_toSurface.f k l0_0 l0_1).bind fun bt955 => ((impl_UnturnSurface.f k bt955.1 bt955.2).bind fun bt962 => ((laws_eqSurface.f k bt962.1 bt962.2.1 bt947.1 bt947.2.1).bind fun t970 => (if t970 = true then (laws_FnExactUnturnSurface.j0 k bt947.2.2 bt962.2.2 (bt962.2.2 != bt947.2.2) l0_0 l0_1 bt947.1 bt947.2.1 bt955.1 bt955.2 bt962.1 bt962.2.1) else (laws_FnExactUnturnSurface.j0 k bt947.2.2 bt962.2.2 true l0_0 l0_1 bt947.1 bt947.2.1 bt955.1 bt955.2 bt962.1 bt962.2.1))))))))
theorem laws_FnExactUnturnSurface.mono_l : ∀ k, (∀ y0 y1 y2 y3 y4 y5 y6 y7 y8 y9 y10, LeO (laws_FnExactUnturnSurface.j0 k y0 y1 y2 y3 y4 y5 y6 y7 y8 y9 y10) (laws_FnExactUnturnSurface.j0 (k + 1) y0 y1 y2 y3 y4 y5 y6 y7 y8 y9 y10)) ∧ (∀ y0 y1 y2 y3 y4 y5 y6 y7, LeO (laws_FnExactUnturnSurface.j1 k y0 y1 y2 y3 y4 y5 y6 y7) (laws_FnExactUnturnSurface.j1 (k + 1) y0 y1 y2 y3 y4 y5 y6 y7)) ∧ (∀ y0 y1 y2 y3, LeO (laws_FnExactUnturnSurface.j2 k y0 y1 y2 y3) (laws_FnExactUnturnSurface.j2 (k + 1) y0 y1 y2 y3))
  | 0 => ⟨fun _ _ _ _ _ _ _ _ _ _ _ r h => by simp [laws_FnExactUnturnSurface.j0] at h, fun _ _ _ _ _ _ _ _ r h => by simp [laws_FnExactUnturnSurface.j1] at h, fun _ _ _ _ r h => by simp [laws_FnExactUnturnSurface.j2] at h⟩
  | k + 1 => by
    obtain ⟨ih0, ih1, ih2⟩ := laws_FnExactUnturnSurface.mono_l k
    refine ⟨?_, ?_, ?_⟩
    · intro y0 y1 y2 y3 y4 y5 y6 y7 y8 y9 y10
      unfold laws_FnExactUnturnSurface.j0
      repeat' first
      | (with_reducible exact ih0 _ _ _ _ _ _ _ _ _ _ _)
      | (with_reducible exact ih1 _ _ _ _ _ _ _ _)
      | (with_reducible exact ih2 _ _ _ _)
      | (with_reducible exact impl_UnturnSurface.mono _ _ _)
      | (with_reducible exact laws_eqSurface.mono _ _ _ _ _)
      | (with_reducible exact laws_heldSurface.mono _ _ _ _)
      | (with_reducible exact laws_markSurface.mono _ _ _ _)
      | (with_reducible exact laws_toSurface.mono _ _ _)
      | (with_reducible exact spec_UnturnSurface.mono _ _ _)
      | (with_reducible exact LeO.refl _)
      | (with_reducible exact LeO.none _)
      | (with_reducible refine LeO.ite ?_ ?_)
      | (with_reducible refine LeO.bind ?_ (fun _ => ?_))
      | exact ih0 _ _ _ _ _ _ _ _ _ _ _
      | exact ih1 _ _ _ _ _ _ _ _
      | exact ih2 _ _ _ _
      | exact impl_UnturnSurface.mono _ _ _
      | exact laws_eqSurface.mono _ _ _ _ _
      | exact laws_heldSurface.mono _ _ _ _
      | exact laws_markSurface.mono _ _ _ _
      | exact laws_toSurface.mono _ _ _
      | exact spec_UnturnSurface.mono _ _ _
      | exact LeO.none _
      | refine LeO.ite ?_ ?_
      | refine LeO.bind ?_ (fun _ => ?_)
    · intro y0 y1 y2 y3 y4 y5 y6 y7
      unfold laws_FnExactUnturnSurface.j1
      repeat' first
      | (with_reducible exact ih0 _ _ _ _ _ _ _ _ _ _ _)
      | (with_reducible exact ih1 _ _ _ _ _ _ _ _)
      | (with_reducible exact ih2 _ _ _ _)
      | (with_reducible exact impl_UnturnSurface.mono _ _ _)
      | (with_reducible exact laws_eqSurface.mono _ _ _ _ _)
      | (with_reducible exact laws_heldSurface.mono _ _ _ _)
      | (with_reducible exact laws_markSurface.mono _ _ _ _)
      | (with_reducible exact laws_toSurface.mono _ _ _)
      | (with_reducible exact spec_UnturnSurface.mono _ _ _)
      | (with_reducible exact LeO.refl _)
      | (with_reducible exact LeO.none _)
      | (with_reducible refine LeO.ite ?_ ?_)
      | (with_reducible refine LeO.bind ?_ (fun _ => ?_))
      | exact ih0 _ _ _ _ _ _ _ _ _ _ _
      | exact ih1 _ _ _ _ _ _ _ _
      | exact ih2 _ _ _ _
      | exact impl_UnturnSurface.mono _ _ _
      | exact laws_eqSurface.mono _ _ _ _ _
      | exact laws_heldSurface.mono _ _ _ _
      | exact laws_markSurface.mono _ _ _ _
      | exact laws_toSurface.mono _ _ _
      | exact spec_UnturnSurface.mono _ _ _
      | exact LeO.none _
      | refine LeO.ite ?_ ?_
      | refine LeO.bind ?_ (fun _ => ?_)
    · intro y0 y1 y2 y3
      unfold laws_FnExactUnturnSurface.j2
      repeat' first
      | (with_reducible exact ih0 _ _ _ _ _ _ _ _ _ _ _)
      | (with_reducible exact ih1 _ _ _ _ _ _ _ _)
      | (with_reducible exact ih2 _ _ _ _)
      | (with_reducible exact impl_UnturnSurface.mono _ _ _)
      | (with_reducible exact laws_eqSurface.mono _ _ _ _ _)
      | (with_reducible exact laws_heldSurface.mono _ _ _ _)
      | (with_reducible exact laws_markSurface.mono _ _ _ _)
      | (with_reducible exact laws_toSurface.mono _ _ _)
      | (with_reducible exact spec_UnturnSurface.mono _ _ _)
      | (with_reducible exact LeO.refl _)
      | (with_reducible exact LeO.none _)
      | (with_reducible refine LeO.ite ?_ ?_)
      | (with_reducible refine LeO.bind ?_ (fun _ => ?_))
      | exact ih0 _ _ _ _ _ _ _ _ _ _ _
      | exact ih1 _ _ _ _ _ _ _ _
      | exact ih2 _ _ _ _
      | exact impl_UnturnSurface.mono _ _ _
      | exact laws_eqSurface.mono _ _ _ _ _
      | exact laws_heldSurface.mono _ _ _ _
      | exact laws_markSurface.mono _ _ _ _
      | exact laws_toSurface.mono _ _ _
      | exact spec_UnturnSurface.mono _ _ _
      | exact LeO.none _
      | refine LeO.ite ?_ ?_
      | refine LeO.bind ?_ (fun _ => ?_)
theorem laws_FnExactUnturnSurface.mono : ∀ a0 a1 k, LeO (laws_FnExactUnturnSurface.f k a0 a1) (laws_FnExactUnturnSurface.f (k + 1) a0 a1) := by
  intro a0 a1 k
  obtain ⟨ih0, ih1, ih2⟩ := laws_FnExactUnturnSurface.mono_l k
  unfold laws_FnExactUnturnSurface.f
  repeat' first
      | (with_reducible exact ih0 _ _ _ _ _ _ _ _ _ _ _)
      | (with_reducible exact ih1 _ _ _ _ _ _ _ _)
      | (with_reducible exact ih2 _ _ _ _)
      | (with_reducible exact impl_UnturnSurface.mono _ _ _)
      | (with_reducible exact laws_eqSurface.mono _ _ _ _ _)
      | (with_reducible exact laws_heldSurface.mono _ _ _ _)
      | (with_reducible exact laws_markSurface.mono _ _ _ _)
      | (with_reducible exact laws_toSurface.mono _ _ _)
      | (with_reducible exact spec_UnturnSurface.mono _ _ _)
      | (with_reducible exact LeO.refl _)
      | (with_reducible exact LeO.none _)
      | (with_reducible refine LeO.ite ?_ ?_)
      | (with_reducible refine LeO.bind ?_ (fun _ => ?_))
      | exact ih0 _ _ _ _ _ _ _ _ _ _ _
      | exact ih1 _ _ _ _ _ _ _ _
      | exact ih2 _ _ _ _
      | exact impl_UnturnSurface.mono _ _ _
      | exact laws_eqSurface.mono _ _ _ _ _
      | exact laws_heldSurface.mono _ _ _ _
      | exact laws_markSurface.mono _ _ _ _
      | exact laws_toSurface.mono _ _ _
      | exact spec_UnturnSurface.mono _ _ _
      | exact LeO.none _
      | refine LeO.ite ?_ ?_
      | refine LeO.bind ?_ (fun _ => ?_)
set_option maxHeartbeats 8000000 in
set_option maxRecDepth 100000 in
theorem laws_FnExactUnturnSurface.calls_true (k : Nat) (A0_0 : Option Addr) (c0_0 : Nat) (l0_0 : List Int) (A0_1 : Option Addr) (c0_1 : Nat) (l0_1 : List Int) (w : World) (hr0_0 : Kd.C (Kd.int .i64) w A0_0 l0_0.length l0_0) (hc0_0 : l0_0.length ≤ c0_0) (hr0_1 : Kd.C (Kd.int .i64) w A0_1 l0_1.length l0_1) (hc0_1 : l0_1.length ≤ c0_1) (h : laws_FnExactUnturnSurface.f k l0_0 l0_1 = some true) :
    Calls Try.prog 12 #[.agg #[.slice A0_0 l0_0.length c0_0, .slice A0_1 l0_1.length c0_1]] w fun e w' => e = .returned (.bool true) ∧ Below w.heap.size w w' := by
  have hu24 := Try.underlying24
  have hu27 := Try.underlying27
  have HR0_0 := Aside0.mk hr0_0
  have HC0_0 := Aside0.mk hc0_0
  clear hr0_0 hc0_0
  have HR0_1 := Aside0.mk hr0_1
  have HC0_1 := Aside0.mk hc0_1
  clear hr0_1 hc0_1
  have HB := Aside0.mk (Below.refl w.heap.size w)
  have H : ((laws_szSurface.f l0_0 l0_1 1048576).bind fun t940 => (if t940 < 0 then (some true) else ((laws_toSurface.f k l0_0 l0_1).bind fun bt941 => ((spec_UnturnSurface.f k bt941.1 bt941.2).bind fun bt947 => ((laws_toSurface.f k l0_0 l0_1).bind fun bt955 => ((impl_UnturnSurface.f k bt955.1 bt955.2).bind fun bt962 => ((laws_eqSurface.f k bt962.1 bt962.2.1 bt947.1 bt947.2.1).bind fun t970 => (if t970 = true then (laws_FnExactUnturnSurface.j0 k bt947.2.2 bt962.2.2 (bt962.2.2 != bt947.2.2) l0_0 l0_1 bt947.1 bt947.2.1 bt955.1 bt955.2 bt962.1 bt962.2.1) else (laws_FnExactUnturnSurface.j0 k bt947.2.2 bt962.2.2 true l0_0 l0_1 bt947.1 bt947.2.1 bt955.1 bt955.2 bt962.1 bt962.2.1))))))))) = some true := h
  clear h
  replace H := Option.bind_eq_some_iff.mp H
  obtain ⟨t940, A20, H⟩ := H
  replace H : (if t940 < 0 then (some true) else ((laws_toSurface.f k l0_0 l0_1).bind fun bt941 => ((spec_UnturnSurface.f k bt941.1 bt941.2).bind fun bt947 => ((laws_toSurface.f k l0_0 l0_1).bind fun bt955 => ((impl_UnturnSurface.f k bt955.1 bt955.2).bind fun bt962 => ((laws_eqSurface.f k bt962.1 bt962.2.1 bt947.1 bt947.2.1).bind fun t970 => (if t970 = true then (laws_FnExactUnturnSurface.j0 k bt947.2.2 bt962.2.2 (bt962.2.2 != bt947.2.2) l0_0 l0_1 bt947.1 bt947.2.1 bt955.1 bt955.2 bt962.1 bt962.2.1) else (laws_FnExactUnturnSurface.j0 k bt947.2.2 bt962.2.2 true l0_0 l0_1 bt947.1 bt947.2.1 bt955.1 bt955.2 bt962.1 bt962.2.1)))))))) = some true := H
  have A2 := Aside0.mk A20
  clear A20
  by_cases c3 : t940 < 0
  · rw [if_pos c3] at H
    have c3b0 : decide (t940 < 0) = true := decide_eq_true c3
    clear c3
    go_enter Try.func12, Try.ntmps12
    go_wp2_with (first | ((with_reducible refine gate_dst (N := 1) rfl ?_); refine box_event ?hg (N := 1) ?hd (cs := #[.slice A0_0 l0_0.length c0_0, .slice A0_1 l0_1.length c0_1]) (t := 24) ?hr ?_; (case hd => rfl); (case hg => rfl); (case hr => first | (go_simp; done) | (go_simp; rfl)); intro gb939 hg w4 hbox hb; have n0_ := Aside0.mk (below_step (by repeat (first | (with_reducible first | exact HB.out | apply below_alloc | apply pw_below_drewN | apply below_drew1) | exact HB.out)) hb); have n1_ := Aside0.mk (hbox); have n2_ := Aside0.mk ((by rw [hg]; exact (below_size (by repeat (first | (with_reducible first | exact HB.out | apply below_alloc | apply pw_below_drewN | apply below_drew1) | exact HB.out))) : w.heap.size ≤ gb939)); have n3_ := Aside0.mk ((by rw [hg]; exact (below_size (by repeat (first | (with_reducible first | exact HB.out | apply below_alloc | apply pw_below_drewN | apply below_drew1) | exact HB.out))) : w.heap.size ≤ gb939)); clear HB; have HB := n0_; have BK939 := n1_; have GW939 := n2_; have GE939 := n3_; clear n0_ n1_ n2_ n3_; clear hb hbox hg; have hcz5_0 : w4.cell? ⟨gb939, 0, none⟩ = some (.slice A0_0 l0_0.length c0_0) := (blk_cell BK939.out 0).trans rfl; have hcz5_1 : w4.cell? ⟨gb939, 1, none⟩ = some (.slice A0_1 l0_1.length c0_1) := (blk_cell BK939.out 1).trans rfl; have hfz5_0 := blk_frozen BK939.out 0; have hfz5_1 := blk_frozen BK939.out 1) | ((with_reducible refine gate_callee (f := 15) rfl ?_); refine goesL_ (some 16) rfl rfl Try.func15 (by kernel_rfl) rfl #[.agg #[.slice A0_0 l0_0.length c0_0, .slice A0_1 l0_1.length c0_1], .int .i64 1048576] rfl (by (try simp only [List.map_toArray, List.map_cons, List.map_nil]); first | done | rfl | (simp only [List.length_drop, List.length_take]; rfl)) ?_; (with_reducible refine (laws_szSurface.calls _ _ l0_0 _ _ l0_1 1048576 t940 _ ?side1 ?side2 ?side3 ?side4 A2.out).mono ?_); (case side1 => repeat (first | exact (Kd.C_below HR0_0.out HB.out) | (with_reducible refine Kd.C_alloc ?_ _) | (with_reducible refine Kd.C_drewN ?_ _) | (with_reducible refine Kd.C_drew ?_))); (case side2 => exact HC0_0.out); (case side3 => repeat (first | exact (Kd.C_below HR0_1.out HB.out) | (with_reducible refine Kd.C_alloc ?_ _) | (with_reducible refine Kd.C_drewN ?_ _) | (with_reducible refine Kd.C_drew ?_))); (case side4 => exact HC0_1.out); rintro e w6 ⟨rfl, hb⟩; refine ⟨_, rfl, ?_⟩; have n0_ := Aside0.mk (blk_below (g := gb939) (o := .cells #[.slice A0_0 l0_0.length c0_0, .slice A0_1 l0_1.length c0_1] 24 (0, 0)) (by (with_reducible repeat (first | refine blk_drewN ?_ _ | refine blk_drew ?_ | refine blk_alloc ?_ _)); exact BK939.out) hb); have n1_ := Aside0.mk (below_step (by repeat (first | (with_reducible first | exact HB.out | apply below_alloc | apply pw_below_drewN | apply below_drew1 | refine below_set ?_ GE939.out) | exact HB.out)) hb); clear BK939; clear HB; have BK939 := n0_; have HB := n1_; clear n0_ n1_; (try clear hb); (try clear hb2); (try clear hk); (try clear hi)))
    go_ret
    exact ⟨by first | rfl | (simp [errW_none, errW_some] <;> rfl) | (simp [*, errW_none, errW_some] <;> rfl), by repeat (first | (with_reducible first | exact HB.out | apply below_alloc | apply pw_below_drewN | apply below_drew1 | refine below_set ?_ GE939.out) | exact HB.out)⟩
  · rw [if_neg c3] at H
    have c3b0 : decide (t940 < 0) = false := decide_eq_false c3
    clear c3
    replace H := Option.bind_eq_some_iff.mp H
    obtain ⟨⟨t941, t944⟩, A70, H⟩ := H
    replace H : ((spec_UnturnSurface.f k t941 t944).bind fun bt947 => ((laws_toSurface.f k l0_0 l0_1).bind fun bt955 => ((impl_UnturnSurface.f k bt955.1 bt955.2).bind fun bt962 => ((laws_eqSurface.f k bt962.1 bt962.2.1 bt947.1 bt947.2.1).bind fun t970 => (if t970 = true then (laws_FnExactUnturnSurface.j0 k bt947.2.2 bt962.2.2 (bt962.2.2 != bt947.2.2) l0_0 l0_1 bt947.1 bt947.2.1 bt955.1 bt955.2 bt962.1 bt962.2.1) else (laws_FnExactUnturnSurface.j0 k bt947.2.2 bt962.2.2 true l0_0 l0_1 bt947.1 bt947.2.1 bt955.1 bt955.2 bt962.1 bt962.2.1)))))) = some true := H
    have A7 := Aside0.mk A70
    clear A70
    replace H := Option.bind_eq_some_iff.mp H
    obtain ⟨⟨t947, t950, t953⟩, A80, H⟩ := H
    replace H : ((laws_toSurface.f k l0_0 l0_1).bind fun bt955 => ((impl_UnturnSurface.f k bt955.1 bt955.2).bind fun bt962 => ((laws_eqSurface.f k bt962.1 bt962.2.1 t947 t950).bind fun t970 => (if t970 = true then (laws_FnExactUnturnSurface.j0 k t953 bt962.2.2 (bt962.2.2 != t953) l0_0 l0_1 t947 t950 bt955.1 bt955.2 bt962.1 bt962.2.1) else (laws_FnExactUnturnSurface.j0 k t953 bt962.2.2 true l0_0 l0_1 t947 t950 bt955.1 bt955.2 bt962.1 bt962.2.1))))) = some true := H
    have A8 := Aside0.mk A80
    clear A80
    replace H := Option.bind_eq_some_iff.mp H
    obtain ⟨⟨t955, t958⟩, A90, H⟩ := H
    replace H : ((impl_UnturnSurface.f k t955 t958).bind fun bt962 => ((laws_eqSurface.f k bt962.1 bt962.2.1 t947 t950).bind fun t970 => (if t970 = true then (laws_FnExactUnturnSurface.j0 k t953 bt962.2.2 (bt962.2.2 != t953) l0_0 l0_1 t947 t950 t955 t958 bt962.1 bt962.2.1) else (laws_FnExactUnturnSurface.j0 k t953 bt962.2.2 true l0_0 l0_1 t947 t950 t955 t958 bt962.1 bt962.2.1)))) = some true := H
    have A9 := Aside0.mk A90
    clear A90
    replace H := Option.bind_eq_some_iff.mp H
    obtain ⟨⟨t962, t965, t968⟩, A100, H⟩ := H
    replace H : ((laws_eqSurface.f k t962 t965 t947 t950).bind fun t970 => (if t970 = true then (laws_FnExactUnturnSurface.j0 k t953 t968 (t968 != t953) l0_0 l0_1 t947 t950 t955 t958 t962 t965) else (laws_FnExactUnturnSurface.j0 k t953 t968 true l0_0 l0_1 t947 t950 t955 t958 t962 t965))) = some true := H
    have A10 := Aside0.mk A100
    clear A100
    have HC11 := Aside0.mk H
    clear H
    go_enter Try.func12, Try.ntmps12
    go_upto_region 8 with (first | ((with_reducible refine gate_dst (N := 1) rfl ?_); refine box_event ?hg (N := 1) ?hd (cs := #[.slice A0_0 l0_0.length c0_0, .slice A0_1 l0_1.length c0_1]) (t := 24) ?hr ?_; (case hd => rfl); (case hg => rfl); (case hr => first | (go_simp; done) | (go_simp; rfl)); intro gb939 hg w12 hbox hb; have n0_ := Aside0.mk (below_step (by repeat (first | (with_reducible first | exact HB.out | apply below_alloc | apply pw_below_drewN | apply below_drew1) | exact HB.out)) hb); have n1_ := Aside0.mk (hbox); have n2_ := Aside0.mk ((by rw [hg]; exact (below_size (by repeat (first | (with_reducible first | exact HB.out | apply below_alloc | apply pw_below_drewN | apply below_drew1) | exact HB.out))) : w.heap.size ≤ gb939)); have n3_ := Aside0.mk ((by rw [hg]; exact (below_size (by repeat (first | (with_reducible first | exact HB.out | apply below_alloc | apply pw_below_drewN | apply below_drew1) | exact HB.out))) : w.heap.size ≤ gb939)); clear HB; have HB := n0_; have BK939 := n1_; have GW939 := n2_; have GE939 := n3_; clear n0_ n1_ n2_ n3_; clear hb hbox hg; have hcz13_0 : w12.cell? ⟨gb939, 0, none⟩ = some (.slice A0_0 l0_0.length c0_0) := (blk_cell BK939.out 0).trans rfl; have hcz13_1 : w12.cell? ⟨gb939, 1, none⟩ = some (.slice A0_1 l0_1.length c0_1) := (blk_cell BK939.out 1).trans rfl; have hfz13_0 := blk_frozen BK939.out 0; have hfz13_1 := blk_frozen BK939.out 1) | ((with_reducible refine gate_callee (f := 15) rfl ?_); refine goesL_ (some 16) rfl rfl Try.func15 (by kernel_rfl) rfl #[.agg #[.slice A0_0 l0_0.length c0_0, .slice A0_1 l0_1.length c0_1], .int .i64 1048576] rfl (by (try simp only [List.map_toArray, List.map_cons, List.map_nil]); first | done | rfl | (simp only [List.length_drop, List.length_take]; rfl)) ?_; (with_reducible refine (laws_szSurface.calls _ _ l0_0 _ _ l0_1 1048576 t940 _ ?side1 ?side2 ?side3 ?side4 A2.out).mono ?_); (case side1 => repeat (first | exact (Kd.C_below HR0_0.out HB.out) | (with_reducible refine Kd.C_alloc ?_ _) | (with_reducible refine Kd.C_drewN ?_ _) | (with_reducible refine Kd.C_drew ?_))); (case side2 => exact HC0_0.out); (case side3 => repeat (first | exact (Kd.C_below HR0_1.out HB.out) | (with_reducible refine Kd.C_alloc ?_ _) | (with_reducible refine Kd.C_drewN ?_ _) | (with_reducible refine Kd.C_drew ?_))); (case side4 => exact HC0_1.out); rintro e w14 ⟨rfl, hb⟩; refine ⟨_, rfl, ?_⟩; have n0_ := Aside0.mk (blk_below (g := gb939) (o := .cells #[.slice A0_0 l0_0.length c0_0, .slice A0_1 l0_1.length c0_1] 24 (0, 0)) (by (with_reducible repeat (first | refine blk_drewN ?_ _ | refine blk_drew ?_ | refine blk_alloc ?_ _)); exact BK939.out) hb); have n1_ := Aside0.mk (below_step (by repeat (first | (with_reducible first | exact HB.out | apply below_alloc | apply pw_below_drewN | apply below_drew1 | refine below_set ?_ GE939.out) | exact HB.out)) hb); clear BK939; clear HB; have BK939 := n0_; have HB := n1_; clear n0_ n1_; (try clear hb); (try clear hb2); (try clear hk); (try clear hi); have hcz15_0 : w14.cell? ⟨gb939, 0, none⟩ = some (.slice A0_0 l0_0.length c0_0) := (blk_cell BK939.out 0).trans rfl; have hcz15_1 : w14.cell? ⟨gb939, 1, none⟩ = some (.slice A0_1 l0_1.length c0_1) := (blk_cell BK939.out 1).trans rfl; have hfz15_0 := blk_frozen BK939.out 0; have hfz15_1 := blk_frozen BK939.out 1) | ((with_reducible refine gate_callee (f := 17) rfl ?_); refine goesL_ (some 21) rfl rfl Try.func17 (by kernel_rfl) rfl #[.agg #[.slice A0_0 l0_0.length c0_0, .slice A0_1 l0_1.length c0_1]] rfl (by (try simp only [List.map_toArray, List.map_cons, List.map_nil]); first | done | rfl | (simp only [List.length_drop, List.length_take]; rfl)) ?_; (with_reducible refine (laws_toSurface.calls k _ _ l0_0 _ _ l0_1 t941 t944 _ ?side1 ?side2 ?side3 ?side4 A7.out).mono ?_); (case side1 => repeat (first | exact (Kd.C_below HR0_0.out HB.out) | (with_reducible refine Kd.C_alloc ?_ _) | (with_reducible refine Kd.C_drewN ?_ _) | (with_reducible refine Kd.C_drew ?_))); (case side2 => exact HC0_0.out); (case side3 => repeat (first | exact (Kd.C_below HR0_1.out HB.out) | (with_reducible refine Kd.C_alloc ?_ _) | (with_reducible refine Kd.C_drewN ?_ _) | (with_reducible refine Kd.C_drew ?_))); (case side4 => exact HC0_1.out); rintro e w16 ⟨v942, v945, rfl, ho0, ho1, hb⟩; refine ⟨_, rfl, ?_⟩; have n0_ := Aside0.mk (Kd.R_lower ho0 (below_size (by repeat (first | (with_reducible first | exact HB.out | apply below_alloc | apply pw_below_drewN | apply below_drew1 | refine below_set ?_ GE939.out) | exact HB.out)))); have n1_ := Aside0.mk (Kd.R_lower ho1 (below_size (by repeat (first | (with_reducible first | exact HB.out | apply below_alloc | apply pw_below_drewN | apply below_drew1 | refine below_set ?_ GE939.out) | exact HB.out)))); have n2_ := Aside0.mk (blk_below (g := gb939) (o := .cells #[.slice A0_0 l0_0.length c0_0, .slice A0_1 l0_1.length c0_1] 24 (0, 0)) (by (with_reducible repeat (first | refine blk_drewN ?_ _ | refine blk_drew ?_ | refine blk_alloc ?_ _)); exact BK939.out) hb); have n3_ := Aside0.mk (below_step (by repeat (first | (with_reducible first | exact HB.out | apply below_alloc | apply pw_below_drewN | apply below_drew1 | refine below_set ?_ GE939.out) | exact HB.out)) hb); clear BK939; clear HB; have HO943 := n0_; have HO946 := n1_; have BK939 := n2_; have HB := n3_; clear n0_ n1_ n2_ n3_; (try clear hb); (try clear hb2); (try clear hk); (try clear hi); (try clear ho0); (try clear ho1); obtain ⟨Ao17, co17, eo17⟩ := Kd.R_slice HO943.out; subst eo17; obtain ⟨Ao18, co18, eo18⟩ := Kd.R_slice HO946.out; subst eo18) | ((with_reducible refine gate_callee (f := 51) rfl ?_); refine goesL_ (some 22) rfl rfl Try.func51 (by kernel_rfl) rfl #[.agg #[.slice Ao17 t941.length co17, .slice Ao18 t944.length co18]] rfl (by (try simp only [List.map_toArray, List.map_cons, List.map_nil]); first | done | rfl | (simp only [List.length_drop, List.length_take]; rfl)) ?_; (with_reducible refine (spec_UnturnSurface.calls k _ _ t941 _ _ t944 t947 t950 t953 _ ?side1 ?side2 ?side3 ?side4 A8.out).mono ?_); (case side1 => repeat (first | exact (Kd.R_reads' HO943.out).2.2 | (with_reducible refine Kd.C_alloc ?_ _) | (with_reducible refine Kd.C_drewN ?_ _) | (with_reducible refine Kd.C_drew ?_))); (case side2 => exact (Kd.R_reads' HO943.out).2.1); (case side3 => repeat (first | exact (Kd.R_reads' HO946.out).2.2 | (with_reducible refine Kd.C_alloc ?_ _) | (with_reducible refine Kd.C_drewN ?_ _) | (with_reducible refine Kd.C_drew ?_))); (case side4 => exact (Kd.R_reads' HO946.out).2.1); rintro e w19 ⟨v948, v951, rfl, ho0, ho1, hb⟩; refine ⟨_, rfl, ?_⟩; have n0_ := Aside0.mk (Kd.R_mono (Kd.R_told (Kd.R_told (Kd.R_old (by (with_reducible repeat (first | apply Kd.R_alloc | apply Kd.R_drewN | apply Kd.R_drew)); exact HO943.out) hb) (Kd.R_base ho0)) (Kd.R_base ho1)) (fun _ h_ => h_.1)); have n1_ := Aside0.mk (Kd.R_mono (Kd.R_told (Kd.R_told (Kd.R_old (by (with_reducible repeat (first | apply Kd.R_alloc | apply Kd.R_drewN | apply Kd.R_drew)); exact HO946.out) hb) (Kd.R_base ho0)) (Kd.R_base ho1)) (fun _ h_ => h_.1)); have n2_ := Aside0.mk (Kd.R_lower (Kd.R_new' (Kd.R_new' ho0 (Kd.R_lt (by (with_reducible repeat (first | apply Kd.R_alloc | apply Kd.R_drewN | apply Kd.R_drew)); exact HO943.out))) (Kd.R_lt (by (with_reducible repeat (first | apply Kd.R_alloc | apply Kd.R_drewN | apply Kd.R_drew)); exact HO946.out))) (below_size (by repeat (first | (with_reducible first | exact HB.out | apply below_alloc | apply pw_below_drewN | apply below_drew1 | refine below_set ?_ GE939.out) | exact HB.out)))); have n3_ := Aside0.mk (Kd.R_lower (Kd.R_new' (Kd.R_new' ho1 (Kd.R_lt (by (with_reducible repeat (first | apply Kd.R_alloc | apply Kd.R_drewN | apply Kd.R_drew)); exact HO943.out))) (Kd.R_lt (by (with_reducible repeat (first | apply Kd.R_alloc | apply Kd.R_drewN | apply Kd.R_drew)); exact HO946.out))) (below_size (by repeat (first | (with_reducible first | exact HB.out | apply below_alloc | apply pw_below_drewN | apply below_drew1 | refine below_set ?_ GE939.out) | exact HB.out)))); have n4_ := Aside0.mk (blk_below (g := gb939) (o := .cells #[.slice A0_0 l0_0.length c0_0, .slice A0_1 l0_1.length c0_1] 24 (0, 0)) (by (with_reducible repeat (first | refine blk_drewN ?_ _ | refine blk_drew ?_ | refine blk_alloc ?_ _)); exact BK939.out) hb); have n5_ := Aside0.mk (below_step (by repeat (first | (with_reducible first | exact HB.out | apply below_alloc | apply pw_below_drewN | apply below_drew1 | refine below_set ?_ GE939.out) | exact HB.out)) hb); clear HO943; clear HO946; clear BK939; clear HB; have HO943 := n0_; have HO946 := n1_; have HO949 := n2_; have HO952 := n3_; have BK939 := n4_; have HB := n5_; clear n0_ n1_ n2_ n3_ n4_ n5_; (try clear hb); (try clear hb2); (try clear hk); (try clear hi); (try clear ho0); (try clear ho1)) | ((with_reducible refine gate_dst (N := 4) rfl ?_); refine box_event ?hg (N := 4) ?hd (cs := #[.slice none 0 0, .slice none 0 0]) (t := 27) ?hr ?_; (case hd => rfl); (case hg => rfl); (case hr => first | (go_simp; done) | (go_simp; rfl)); intro gb954 hg w20 hbox hb; have n0_ := Aside0.mk (Kd.R_below (by (with_reducible repeat (first | apply Kd.R_alloc | apply Kd.R_drewN | apply Kd.R_drew)); exact HO943.out) hb); have n1_ := Aside0.mk (Kd.R_below (by (with_reducible repeat (first | apply Kd.R_alloc | apply Kd.R_drewN | apply Kd.R_drew)); exact HO946.out) hb); have n2_ := Aside0.mk (Kd.R_below (by (with_reducible repeat (first | apply Kd.R_alloc | apply Kd.R_drewN | apply Kd.R_drew)); exact HO949.out) hb); have n3_ := Aside0.mk (Kd.R_below (by (with_reducible repeat (first | apply Kd.R_alloc | apply Kd.R_drewN | apply Kd.R_drew)); exact HO952.out) hb); have n4_ := Aside0.mk (blk_below (g := gb939) (o := .cells #[.slice A0_0 l0_0.length c0_0, .slice A0_1 l0_1.length c0_1] 24 (0, 0)) (by (with_reducible repeat (first | refine blk_drewN ?_ _ | refine blk_drew ?_ | refine blk_alloc ?_ _)); exact BK939.out) hb); have n5_ := Aside0.mk (below_step (by repeat (first | (with_reducible first | exact HB.out | apply below_alloc | apply pw_below_drewN | apply below_drew1 | refine below_set ?_ GE939.out) | exact HB.out)) hb); have n6_ := Aside0.mk (hbox); have n7_ := Aside0.mk ((by rw [hg]; exact (below_size (by repeat (first | (with_reducible first | exact HB.out | apply below_alloc | apply pw_below_drewN | apply below_drew1 | refine below_set ?_ GE939.out) | exact HB.out))) : w.heap.size ≤ gb954)); have n8_ := Aside0.mk ((by rw [hg]; exact (below_size (by repeat (first | (with_reducible first | exact HB.out | apply below_alloc | apply pw_below_drewN | apply below_drew1 | refine below_set ?_ GE939.out) | exact HB.out))) : w.heap.size ≤ gb954)); have n9_ := Aside0.mk ((by rw [hg]; exact Nat.ne_of_lt (blk_lt (g := gb939) (o := .cells #[.slice A0_0 l0_0.length c0_0, .slice A0_1 l0_1.length c0_1] 24 (0, 0)) (by (with_reducible repeat (first | refine blk_drewN ?_ _ | refine blk_drew ?_ | refine blk_alloc ?_ _)); exact BK939.out)) : gb939 ≠ gb954)); have n10_ := Aside0.mk ((by rw [hg]; exact Nat.ne_of_gt (blk_lt (g := gb939) (o := .cells #[.slice A0_0 l0_0.length c0_0, .slice A0_1 l0_1.length c0_1] 24 (0, 0)) (by (with_reducible repeat (first | refine blk_drewN ?_ _ | refine blk_drew ?_ | refine blk_alloc ?_ _)); exact BK939.out)) : gb954 ≠ gb939)); clear HO943; clear HO946; clear HO949; clear HO952; clear BK939; clear HB; have HO943 := n0_; have HO946 := n1_; have HO949 := n2_; have HO952 := n3_; have BK939 := n4_; have HB := n5_; have BK954 := n6_; have GW954 := n7_; have GE954 := n8_; have NB939_954 := n9_; have NB954_939 := n10_; clear n0_ n1_ n2_ n3_ n4_ n5_ n6_ n7_ n8_ n9_ n10_; clear hb hbox hg; obtain ⟨Ao21, co21, eo21⟩ := Kd.R_slice HO949.out; subst eo21; have hnb22 := NB954_939.out; have hnc22 := NB939_954.out; have hcz23_0 : w20.cell? ⟨gb954, 0, none⟩ = some (.slice none 0 0) := (blk_cell BK954.out 0).trans rfl; have hcz23_1 : w20.cell? ⟨gb954, 1, none⟩ = some (.slice none 0 0) := (blk_cell BK954.out 1).trans rfl; have hfz23_0 := blk_frozen BK954.out 0; have hfz23_1 := blk_frozen BK954.out 1; obtain ⟨Ao24, co24, eo24⟩ := Kd.R_slice HO952.out; subst eo24; have hcz25_0 : w20.cell? ⟨gb939, 0, none⟩ = some (.slice A0_0 l0_0.length c0_0) := (blk_cell BK939.out 0).trans rfl; have hcz25_1 : w20.cell? ⟨gb939, 1, none⟩ = some (.slice A0_1 l0_1.length c0_1) := (blk_cell BK939.out 1).trans rfl; have hfz25_0 := blk_frozen BK939.out 0; have hfz25_1 := blk_frozen BK939.out 1) | ((with_reducible refine gate_callee (f := 17) rfl ?_); refine goesL_ (some 26) rfl rfl Try.func17 (by kernel_rfl) rfl #[.agg #[.slice A0_0 l0_0.length c0_0, .slice A0_1 l0_1.length c0_1]] rfl (by (try simp only [List.map_toArray, List.map_cons, List.map_nil]); first | done | rfl | (simp only [List.length_drop, List.length_take]; rfl)) ?_; (with_reducible refine (laws_toSurface.calls k _ _ l0_0 _ _ l0_1 t955 t958 _ ?side1 ?side2 ?side3 ?side4 A9.out).mono ?_); (case side1 => exact Kd.C_below HR0_0.out (by repeat (first | (with_reducible first | exact HB.out | apply below_alloc | apply pw_below_drewN | apply below_drew1 | refine below_set ?_ GE939.out | refine below_set ?_ GE954.out) | exact HB.out))); (case side2 => exact HC0_0.out); (case side3 => exact Kd.C_below HR0_1.out (by repeat (first | (with_reducible first | exact HB.out | apply below_alloc | apply pw_below_drewN | apply below_drew1 | refine below_set ?_ GE939.out | refine below_set ?_ GE954.out) | exact HB.out))); (case side4 => exact HC0_1.out); rintro e w26 ⟨v956, v959, rfl, ho0, ho1, hb⟩; refine ⟨_, rfl, ?_⟩; have n0_ := Aside0.mk (Kd.R_mono (Kd.R_told (Kd.R_told (Kd.R_old (by (with_reducible repeat (first | apply Kd.R_alloc | apply Kd.R_drewN | apply Kd.R_drew)); exact (Kd.R_mono (Kd.R_far (p := ⟨gb954, 1, none⟩) (Kd.R_far (p := ⟨gb954, 0, none⟩) (Kd.R_types HO943.out BK954.out (by decide)) (fun _ hk => hk.2) (.slice Ao21 t947.length co21)) (fun _ hk => hk.2) (.slice Ao24 t950.length co24)) (fun _ h_ => h_.1))) hb) (Kd.R_base ho0)) (Kd.R_base ho1)) (fun _ h_ => h_.1)); have n1_ := Aside0.mk (Kd.R_mono (Kd.R_told (Kd.R_told (Kd.R_old (by (with_reducible repeat (first | apply Kd.R_alloc | apply Kd.R_drewN | apply Kd.R_drew)); exact (Kd.R_mono (Kd.R_far (p := ⟨gb954, 1, none⟩) (Kd.R_far (p := ⟨gb954, 0, none⟩) (Kd.R_types HO946.out BK954.out (by decide)) (fun _ hk => hk.2) (.slice Ao21 t947.length co21)) (fun _ hk => hk.2) (.slice Ao24 t950.length co24)) (fun _ h_ => h_.1))) hb) (Kd.R_base ho0)) (Kd.R_base ho1)) (fun _ h_ => h_.1)); have n2_ := Aside0.mk (Kd.R_mono (Kd.R_told (Kd.R_told (Kd.R_old (by (with_reducible repeat (first | apply Kd.R_alloc | apply Kd.R_drewN | apply Kd.R_drew)); exact (Kd.R_mono (Kd.R_far (p := ⟨gb954, 1, none⟩) (Kd.R_far (p := ⟨gb954, 0, none⟩) (Kd.R_types HO949.out BK954.out (by decide)) (fun _ hk => hk.2) (.slice Ao21 t947.length co21)) (fun _ hk => hk.2) (.slice Ao24 t950.length co24)) (fun _ h_ => h_.1))) hb) (Kd.R_base ho0)) (Kd.R_base ho1)) (fun _ h_ => h_.1)); have n3_ := Aside0.mk (Kd.R_mono (Kd.R_told (Kd.R_told (Kd.R_old (by (with_reducible repeat (first | apply Kd.R_alloc | apply Kd.R_drewN | apply Kd.R_drew)); exact (Kd.R_mono (Kd.R_far (p := ⟨gb954, 1, none⟩) (Kd.R_far (p := ⟨gb954, 0, none⟩) (Kd.R_types HO952.out BK954.out (by decide)) (fun _ hk => hk.2) (.slice Ao21 t947.length co21)) (fun _ hk => hk.2) (.slice Ao24 t950.length co24)) (fun _ h_ => h_.1))) hb) (Kd.R_base ho0)) (Kd.R_base ho1)) (fun _ h_ => h_.1)); have n4_ := Aside0.mk (Kd.R_lower (Kd.R_new' (Kd.R_new' (Kd.R_new' (Kd.R_new' ho0 (Kd.R_lt (by (with_reducible repeat (first | apply Kd.R_alloc | apply Kd.R_drewN | apply Kd.R_drew)); exact (Kd.R_mono (Kd.R_far (p := ⟨gb954, 1, none⟩) (Kd.R_far (p := ⟨gb954, 0, none⟩) (Kd.R_types HO943.out BK954.out (by decide)) (fun _ hk => hk.2) (.slice Ao21 t947.length co21)) (fun _ hk => hk.2) (.slice Ao24 t950.length co24)) (fun _ h_ => h_.1))))) (Kd.R_lt (by (with_reducible repeat (first | apply Kd.R_alloc | apply Kd.R_drewN | apply Kd.R_drew)); exact (Kd.R_mono (Kd.R_far (p := ⟨gb954, 1, none⟩) (Kd.R_far (p := ⟨gb954, 0, none⟩) (Kd.R_types HO946.out BK954.out (by decide)) (fun _ hk => hk.2) (.slice Ao21 t947.length co21)) (fun _ hk => hk.2) (.slice Ao24 t950.length co24)) (fun _ h_ => h_.1))))) (Kd.R_lt (by (with_reducible repeat (first | apply Kd.R_alloc | apply Kd.R_drewN | apply Kd.R_drew)); exact (Kd.R_mono (Kd.R_far (p := ⟨gb954, 1, none⟩) (Kd.R_far (p := ⟨gb954, 0, none⟩) (Kd.R_types HO949.out BK954.out (by decide)) (fun _ hk => hk.2) (.slice Ao21 t947.length co21)) (fun _ hk => hk.2) (.slice Ao24 t950.length co24)) (fun _ h_ => h_.1))))) (Kd.R_lt (by (with_reducible repeat (first | apply Kd.R_alloc | apply Kd.R_drewN | apply Kd.R_drew)); exact (Kd.R_mono (Kd.R_far (p := ⟨gb954, 1, none⟩) (Kd.R_far (p := ⟨gb954, 0, none⟩) (Kd.R_types HO952.out BK954.out (by decide)) (fun _ hk => hk.2) (.slice Ao21 t947.length co21)) (fun _ hk => hk.2) (.slice Ao24 t950.length co24)) (fun _ h_ => h_.1))))) (below_size (by repeat (first | (with_reducible first | exact HB.out | apply below_alloc | apply pw_below_drewN | apply below_drew1 | refine below_set ?_ GE939.out | refine below_set ?_ GE954.out) | exact HB.out)))); have n5_ := Aside0.mk (Kd.R_lower (Kd.R_new' (Kd.R_new' (Kd.R_new' (Kd.R_new' ho1 (Kd.R_lt (by (with_reducible repeat (first | apply Kd.R_alloc | apply Kd.R_drewN | apply Kd.R_drew)); exact (Kd.R_mono (Kd.R_far (p := ⟨gb954, 1, none⟩) (Kd.R_far (p := ⟨gb954, 0, none⟩) (Kd.R_types HO943.out BK954.out (by decide)) (fun _ hk => hk.2) (.slice Ao21 t947.length co21)) (fun _ hk => hk.2) (.slice Ao24 t950.length co24)) (fun _ h_ => h_.1))))) (Kd.R_lt (by (with_reducible repeat (first | apply Kd.R_alloc | apply Kd.R_drewN | apply Kd.R_drew)); exact (Kd.R_mono (Kd.R_far (p := ⟨gb954, 1, none⟩) (Kd.R_far (p := ⟨gb954, 0, none⟩) (Kd.R_types HO946.out BK954.out (by decide)) (fun _ hk => hk.2) (.slice Ao21 t947.length co21)) (fun _ hk => hk.2) (.slice Ao24 t950.length co24)) (fun _ h_ => h_.1))))) (Kd.R_lt (by (with_reducible repeat (first | apply Kd.R_alloc | apply Kd.R_drewN | apply Kd.R_drew)); exact (Kd.R_mono (Kd.R_far (p := ⟨gb954, 1, none⟩) (Kd.R_far (p := ⟨gb954, 0, none⟩) (Kd.R_types HO949.out BK954.out (by decide)) (fun _ hk => hk.2) (.slice Ao21 t947.length co21)) (fun _ hk => hk.2) (.slice Ao24 t950.length co24)) (fun _ h_ => h_.1))))) (Kd.R_lt (by (with_reducible repeat (first | apply Kd.R_alloc | apply Kd.R_drewN | apply Kd.R_drew)); exact (Kd.R_mono (Kd.R_far (p := ⟨gb954, 1, none⟩) (Kd.R_far (p := ⟨gb954, 0, none⟩) (Kd.R_types HO952.out BK954.out (by decide)) (fun _ hk => hk.2) (.slice Ao21 t947.length co21)) (fun _ hk => hk.2) (.slice Ao24 t950.length co24)) (fun _ h_ => h_.1))))) (below_size (by repeat (first | (with_reducible first | exact HB.out | apply below_alloc | apply pw_below_drewN | apply below_drew1 | refine below_set ?_ GE939.out | refine below_set ?_ GE954.out) | exact HB.out)))); have n6_ := Aside0.mk (blk_below (g := gb939) (o := .cells #[.slice A0_0 l0_0.length c0_0, .slice A0_1 l0_1.length c0_1] 24 (0, 0)) (by (with_reducible repeat (first | refine blk_drewN ?_ _ | refine blk_drew ?_ | refine blk_alloc ?_ _)); refine blk_far ?_ NB939_954.out _; (with_reducible repeat (first | refine blk_drewN ?_ _ | refine blk_drew ?_ | refine blk_alloc ?_ _)); refine blk_far ?_ NB939_954.out _; (with_reducible repeat (first | refine blk_drewN ?_ _ | refine blk_drew ?_ | refine blk_alloc ?_ _)); exact BK939.out) hb); have n7_ := Aside0.mk (blk_below (g := gb954) (o := .cells #[.slice Ao21 t947.length co21, .slice Ao24 t950.length co24] 27 (0, 0)) (by (with_reducible repeat (first | refine blk_drewN ?_ _ | refine blk_drew ?_ | refine blk_alloc ?_ _)); refine blk_put (cs := #[.slice Ao21 t947.length co21, .slice none 0 0]) ?_ 1 _ rfl; (with_reducible repeat (first | refine blk_drewN ?_ _ | refine blk_drew ?_ | refine blk_alloc ?_ _)); refine blk_put (cs := #[.slice none 0 0, .slice none 0 0]) ?_ 0 _ rfl; (with_reducible repeat (first | refine blk_drewN ?_ _ | refine blk_drew ?_ | refine blk_alloc ?_ _)); exact BK954.out) hb); have n8_ := Aside0.mk (below_step (by repeat (first | (with_reducible first | exact HB.out | apply below_alloc | apply pw_below_drewN | apply below_drew1 | refine below_set ?_ GE939.out | refine below_set ?_ GE954.out) | exact HB.out)) hb); clear HO943; clear HO946; clear HO949; clear HO952; clear BK939; clear BK954; clear HB; have HO943 := n0_; have HO946 := n1_; have HO949 := n2_; have HO952 := n3_; have HO957 := n4_; have HO960 := n5_; have BK939 := n6_; have BK954 := n7_; have HB := n8_; clear n0_ n1_ n2_ n3_ n4_ n5_ n6_ n7_ n8_; (try clear hb); (try clear hb2); (try clear hk); (try clear hi); (try clear ho0); (try clear ho1)) | ((with_reducible refine gate_dst (N := 6) rfl ?_); refine box_event ?hg (N := 6) ?hd (cs := #[.slice none 0 0, .slice none 0 0]) (t := 27) ?hr ?_; (case hd => rfl); (case hg => rfl); (case hr => first | (go_simp; done) | (go_simp; rfl)); intro gb961 hg w27 hbox hb; have n0_ := Aside0.mk (Kd.R_below (by (with_reducible repeat (first | apply Kd.R_alloc | apply Kd.R_drewN | apply Kd.R_drew)); exact HO943.out) hb); have n1_ := Aside0.mk (Kd.R_below (by (with_reducible repeat (first | apply Kd.R_alloc | apply Kd.R_drewN | apply Kd.R_drew)); exact HO946.out) hb); have n2_ := Aside0.mk (Kd.R_below (by (with_reducible repeat (first | apply Kd.R_alloc | apply Kd.R_drewN | apply Kd.R_drew)); exact HO949.out) hb); have n3_ := Aside0.mk (Kd.R_below (by (with_reducible repeat (first | apply Kd.R_alloc | apply Kd.R_drewN | apply Kd.R_drew)); exact HO952.out) hb); have n4_ := Aside0.mk (Kd.R_below (by (with_reducible repeat (first | apply Kd.R_alloc | apply Kd.R_drewN | apply Kd.R_drew)); exact HO957.out) hb); have n5_ := Aside0.mk (Kd.R_below (by (with_reducible repeat (first | apply Kd.R_alloc | apply Kd.R_drewN | apply Kd.R_drew)); exact HO960.out) hb); have n6_ := Aside0.mk (blk_below (g := gb939) (o := .cells #[.slice A0_0 l0_0.length c0_0, .slice A0_1 l0_1.length c0_1] 24 (0, 0)) (by (with_reducible repeat (first | refine blk_drewN ?_ _ | refine blk_drew ?_ | refine blk_alloc ?_ _)); exact BK939.out) hb); have n7_ := Aside0.mk (blk_below (g := gb954) (o := .cells #[.slice Ao21 t947.length co21, .slice Ao24 t950.length co24] 27 (0, 0)) (by (with_reducible repeat (first | refine blk_drewN ?_ _ | refine blk_drew ?_ | refine blk_alloc ?_ _)); exact BK954.out) hb); have n8_ := Aside0.mk (below_step (by repeat (first | (with_reducible first | exact HB.out | apply below_alloc | apply pw_below_drewN | apply below_drew1 | refine below_set ?_ GE939.out | refine below_set ?_ GE954.out) | exact HB.out)) hb); have n9_ := Aside0.mk (hbox); have n10_ := Aside0.mk ((by rw [hg]; exact (below_size (by repeat (first | (with_reducible first | exact HB.out | apply below_alloc | apply pw_below_drewN | apply below_drew1 | refine below_set ?_ GE939.out | refine below_set ?_ GE954.out) | exact HB.out))) : w.heap.size ≤ gb961)); have n11_ := Aside0.mk ((by rw [hg]; exact (below_size (by repeat (first | (with_reducible first | exact HB.out | apply below_alloc | apply pw_below_drewN | apply below_drew1 | refine below_set ?_ GE939.out | refine below_set ?_ GE954.out) | exact HB.out))) : w.heap.size ≤ gb961)); have n12_ := Aside0.mk ((by rw [hg]; exact Nat.ne_of_lt (blk_lt (g := gb939) (o := .cells #[.slice A0_0 l0_0.length c0_0, .slice A0_1 l0_1.length c0_1] 24 (0, 0)) (by (with_reducible repeat (first | refine blk_drewN ?_ _ | refine blk_drew ?_ | refine blk_alloc ?_ _)); exact BK939.out)) : gb939 ≠ gb961)); have n13_ := Aside0.mk ((by rw [hg]; exact Nat.ne_of_gt (blk_lt (g := gb939) (o := .cells #[.slice A0_0 l0_0.length c0_0, .slice A0_1 l0_1.length c0_1] 24 (0, 0)) (by (with_reducible repeat (first | refine blk_drewN ?_ _ | refine blk_drew ?_ | refine blk_alloc ?_ _)); exact BK939.out)) : gb961 ≠ gb939)); have n14_ := Aside0.mk ((by rw [hg]; exact Nat.ne_of_lt (blk_lt (g := gb954) (o := .cells #[.slice Ao21 t947.length co21, .slice Ao24 t950.length co24] 27 (0, 0)) (by (with_reducible repeat (first | refine blk_drewN ?_ _ | refine blk_drew ?_ | refine blk_alloc ?_ _)); exact BK954.out)) : gb954 ≠ gb961)); have n15_ := Aside0.mk ((by rw [hg]; exact Nat.ne_of_gt (blk_lt (g := gb954) (o := .cells #[.slice Ao21 t947.length co21, .slice Ao24 t950.length co24] 27 (0, 0)) (by (with_reducible repeat (first | refine blk_drewN ?_ _ | refine blk_drew ?_ | refine blk_alloc ?_ _)); exact BK954.out)) : gb961 ≠ gb954)); clear HO943; clear HO946; clear HO949; clear HO952; clear HO957; clear HO960; clear BK939; clear BK954; clear HB; have HO943 := n0_; have HO946 := n1_; have HO949 := n2_; have HO952 := n3_; have HO957 := n4_; have HO960 := n5_; have BK939 := n6_; have BK954 := n7_; have HB := n8_; have BK961 := n9_; have GW961 := n10_; have GE961 := n11_; have NB939_961 := n12_; have NB961_939 := n13_; have NB954_961 := n14_; have NB961_954 := n15_; clear n0_ n1_ n2_ n3_ n4_ n5_ n6_ n7_ n8_ n9_ n10_ n11_ n12_ n13_ n14_ n15_; clear hb hbox hg; obtain ⟨Ao28, co28, eo28⟩ := Kd.R_slice HO957.out; subst eo28; have hnb29 := NB961_939.out; have hnc29 := NB939_961.out; have hnb30 := NB961_954.out; have hnc30 := NB954_961.out; have hcz31_0 : w27.cell? ⟨gb961, 0, none⟩ = some (.slice none 0 0) := (blk_cell BK961.out 0).trans rfl; have hcz31_1 : w27.cell? ⟨gb961, 1, none⟩ = some (.slice none 0 0) := (blk_cell BK961.out 1).trans rfl; have hfz31_0 := blk_frozen BK961.out 0; have hfz31_1 := blk_frozen BK961.out 1; obtain ⟨Ao32, co32, eo32⟩ := Kd.R_slice HO960.out; subst eo32) | ((with_reducible refine gate_callee (f := 52) rfl ?_); refine goesL_ (some 29) rfl rfl Try.func52 (by kernel_rfl) rfl #[.agg #[.slice Ao28 t955.length co28, .slice Ao32 t958.length co32]] rfl (by (try simp only [List.map_toArray, List.map_cons, List.map_nil]); first | done | rfl | (simp only [List.length_drop, List.length_take]; rfl)) ?_; (with_reducible refine (impl_UnturnSurface.calls k _ _ t955 _ _ t958 t962 t965 t968 _ ?side1 ?side2 ?side3 ?side4 A10.out).mono ?_); (case side1 => refine (Kd.R_reads' (e := 3) (base := w.heap.size) (ok := fun k_ => ((((some k_ ≠ (.slice Ao32 t958.length co32 : Value).ownBlock ∧ some k_ ≠ (.slice Ao17 t941.length co17 : Value).ownBlock) ∧ some k_ ≠ (.slice Ao18 t944.length co18 : Value).ownBlock) ∧ some k_ ≠ (.slice Ao21 t947.length co21 : Value).ownBlock) ∧ some k_ ≠ (.slice Ao24 t950.length co24 : Value).ownBlock)) (n := t955.length) (c := co28) ?_).2.2; exact (by (with_reducible repeat (first | apply Kd.R_alloc | apply Kd.R_drewN | apply Kd.R_drew)); exact (Kd.R_mono (Kd.R_far (p := ⟨gb961, 1, none⟩) (Kd.R_far (p := ⟨gb961, 0, none⟩) (Kd.R_types HO957.out BK961.out (by decide)) (fun _ hk => hk.2) (.slice Ao28 t955.length co28)) (fun _ hk => hk.2) (.slice Ao32 t958.length co32)) (fun _ h_ => h_.1)))); (case side2 => exact (Kd.R_reads' HO957.out).2.1); (case side3 => refine (Kd.R_reads' (e := 3) (base := w.heap.size) (ok := fun k_ => ((((some k_ ≠ (.slice Ao28 t955.length co28 : Value).ownBlock ∧ some k_ ≠ (.slice Ao17 t941.length co17 : Value).ownBlock) ∧ some k_ ≠ (.slice Ao18 t944.length co18 : Value).ownBlock) ∧ some k_ ≠ (.slice Ao21 t947.length co21 : Value).ownBlock) ∧ some k_ ≠ (.slice Ao24 t950.length co24 : Value).ownBlock)) (n := t958.length) (c := co32) ?_).2.2; exact (by (with_reducible repeat (first | apply Kd.R_alloc | apply Kd.R_drewN | apply Kd.R_drew)); exact (Kd.R_mono (Kd.R_far (p := ⟨gb961, 1, none⟩) (Kd.R_far (p := ⟨gb961, 0, none⟩) (Kd.R_types HO960.out BK961.out (by decide)) (fun _ hk => hk.2) (.slice Ao28 t955.length co28)) (fun _ hk => hk.2) (.slice Ao32 t958.length co32)) (fun _ h_ => h_.1)))); (case side4 => exact (Kd.R_reads' HO960.out).2.1); rintro e w33 ⟨v963, v966, rfl, ho0, ho1, hb⟩; refine ⟨_, rfl, ?_⟩; have n0_ := Aside0.mk (Kd.R_mono (Kd.R_told (Kd.R_told (Kd.R_old (by (with_reducible repeat (first | apply Kd.R_alloc | apply Kd.R_drewN | apply Kd.R_drew)); exact (Kd.R_mono (Kd.R_far (p := ⟨gb961, 1, none⟩) (Kd.R_far (p := ⟨gb961, 0, none⟩) (Kd.R_types HO943.out BK961.out (by decide)) (fun _ hk => hk.2) (.slice Ao28 t955.length co28)) (fun _ hk => hk.2) (.slice Ao32 t958.length co32)) (fun _ h_ => h_.1))) hb) (Kd.R_base ho0)) (Kd.R_base ho1)) (fun _ h_ => h_.1)); have n1_ := Aside0.mk (Kd.R_mono (Kd.R_told (Kd.R_told (Kd.R_old (by (with_reducible repeat (first | apply Kd.R_alloc | apply Kd.R_drewN | apply Kd.R_drew)); exact (Kd.R_mono (Kd.R_far (p := ⟨gb961, 1, none⟩) (Kd.R_far (p := ⟨gb961, 0, none⟩) (Kd.R_types HO946.out BK961.out (by decide)) (fun _ hk => hk.2) (.slice Ao28 t955.length co28)) (fun _ hk => hk.2) (.slice Ao32 t958.length co32)) (fun _ h_ => h_.1))) hb) (Kd.R_base ho0)) (Kd.R_base ho1)) (fun _ h_ => h_.1)); have n2_ := Aside0.mk (Kd.R_mono (Kd.R_told (Kd.R_told (Kd.R_old (by (with_reducible repeat (first | apply Kd.R_alloc | apply Kd.R_drewN | apply Kd.R_drew)); exact (Kd.R_mono (Kd.R_far (p := ⟨gb961, 1, none⟩) (Kd.R_far (p := ⟨gb961, 0, none⟩) (Kd.R_types HO949.out BK961.out (by decide)) (fun _ hk => hk.2) (.slice Ao28 t955.length co28)) (fun _ hk => hk.2) (.slice Ao32 t958.length co32)) (fun _ h_ => h_.1))) hb) (Kd.R_base ho0)) (Kd.R_base ho1)) (fun _ h_ => h_.1)); have n3_ := Aside0.mk (Kd.R_mono (Kd.R_told (Kd.R_told (Kd.R_old (by (with_reducible repeat (first | apply Kd.R_alloc | apply Kd.R_drewN | apply Kd.R_drew)); exact (Kd.R_mono (Kd.R_far (p := ⟨gb961, 1, none⟩) (Kd.R_far (p := ⟨gb961, 0, none⟩) (Kd.R_types HO952.out BK961.out (by decide)) (fun _ hk => hk.2) (.slice Ao28 t955.length co28)) (fun _ hk => hk.2) (.slice Ao32 t958.length co32)) (fun _ h_ => h_.1))) hb) (Kd.R_base ho0)) (Kd.R_base ho1)) (fun _ h_ => h_.1)); have n4_ := Aside0.mk (Kd.R_mono (Kd.R_told (Kd.R_told (Kd.R_old (by (with_reducible repeat (first | apply Kd.R_alloc | apply Kd.R_drewN | apply Kd.R_drew)); exact (Kd.R_mono (Kd.R_far (p := ⟨gb961, 1, none⟩) (Kd.R_far (p := ⟨gb961, 0, none⟩) (Kd.R_types HO957.out BK961.out (by decide)) (fun _ hk => hk.2) (.slice Ao28 t955.length co28)) (fun _ hk => hk.2) (.slice Ao32 t958.length co32)) (fun _ h_ => h_.1))) hb) (Kd.R_base ho0)) (Kd.R_base ho1)) (fun _ h_ => h_.1)); have n5_ := Aside0.mk (Kd.R_mono (Kd.R_told (Kd.R_told (Kd.R_old (by (with_reducible repeat (first | apply Kd.R_alloc | apply Kd.R_drewN | apply Kd.R_drew)); exact (Kd.R_mono (Kd.R_far (p := ⟨gb961, 1, none⟩) (Kd.R_far (p := ⟨gb961, 0, none⟩) (Kd.R_types HO960.out BK961.out (by decide)) (fun _ hk => hk.2) (.slice Ao28 t955.length co28)) (fun _ hk => hk.2) (.slice Ao32 t958.length co32)) (fun _ h_ => h_.1))) hb) (Kd.R_base ho0)) (Kd.R_base ho1)) (fun _ h_ => h_.1)); have n6_ := Aside0.mk (Kd.R_lower (Kd.R_new' (Kd.R_new' (Kd.R_new' (Kd.R_new' (Kd.R_new' (Kd.R_new' ho0 (Kd.R_lt (by (with_reducible repeat (first | apply Kd.R_alloc | apply Kd.R_drewN | apply Kd.R_drew)); exact (Kd.R_mono (Kd.R_far (p := ⟨gb961, 1, none⟩) (Kd.R_far (p := ⟨gb961, 0, none⟩) (Kd.R_types HO943.out BK961.out (by decide)) (fun _ hk => hk.2) (.slice Ao28 t955.length co28)) (fun _ hk => hk.2) (.slice Ao32 t958.length co32)) (fun _ h_ => h_.1))))) (Kd.R_lt (by (with_reducible repeat (first | apply Kd.R_alloc | apply Kd.R_drewN | apply Kd.R_drew)); exact (Kd.R_mono (Kd.R_far (p := ⟨gb961, 1, none⟩) (Kd.R_far (p := ⟨gb961, 0, none⟩) (Kd.R_types HO946.out BK961.out (by decide)) (fun _ hk => hk.2) (.slice Ao28 t955.length co28)) (fun _ hk => hk.2) (.slice Ao32 t958.length co32)) (fun _ h_ => h_.1))))) (Kd.R_lt (by (with_reducible repeat (first | apply Kd.R_alloc | apply Kd.R_drewN | apply Kd.R_drew)); exact (Kd.R_mono (Kd.R_far (p := ⟨gb961, 1, none⟩) (Kd.R_far (p := ⟨gb961, 0, none⟩) (Kd.R_types HO949.out BK961.out (by decide)) (fun _ hk => hk.2) (.slice Ao28 t955.length co28)) (fun _ hk => hk.2) (.slice Ao32 t958.length co32)) (fun _ h_ => h_.1))))) (Kd.R_lt (by (with_reducible repeat (first | apply Kd.R_alloc | apply Kd.R_drewN | apply Kd.R_drew)); exact (Kd.R_mono (Kd.R_far (p := ⟨gb961, 1, none⟩) (Kd.R_far (p := ⟨gb961, 0, none⟩) (Kd.R_types HO952.out BK961.out (by decide)) (fun _ hk => hk.2) (.slice Ao28 t955.length co28)) (fun _ hk => hk.2) (.slice Ao32 t958.length co32)) (fun _ h_ => h_.1))))) (Kd.R_lt (by (with_reducible repeat (first | apply Kd.R_alloc | apply Kd.R_drewN | apply Kd.R_drew)); exact (Kd.R_mono (Kd.R_far (p := ⟨gb961, 1, none⟩) (Kd.R_far (p := ⟨gb961, 0, none⟩) (Kd.R_types HO957.out BK961.out (by decide)) (fun _ hk => hk.2) (.slice Ao28 t955.length co28)) (fun _ hk => hk.2) (.slice Ao32 t958.length co32)) (fun _ h_ => h_.1))))) (Kd.R_lt (by (with_reducible repeat (first | apply Kd.R_alloc | apply Kd.R_drewN | apply Kd.R_drew)); exact (Kd.R_mono (Kd.R_far (p := ⟨gb961, 1, none⟩) (Kd.R_far (p := ⟨gb961, 0, none⟩) (Kd.R_types HO960.out BK961.out (by decide)) (fun _ hk => hk.2) (.slice Ao28 t955.length co28)) (fun _ hk => hk.2) (.slice Ao32 t958.length co32)) (fun _ h_ => h_.1))))) (below_size (by repeat (first | (with_reducible first | exact HB.out | apply below_alloc | apply pw_below_drewN | apply below_drew1 | refine below_set ?_ GE939.out | refine below_set ?_ GE954.out | refine below_set ?_ GE961.out) | exact HB.out)))); have n7_ := Aside0.mk (Kd.R_lower (Kd.R_new' (Kd.R_new' (Kd.R_new' (Kd.R_new' (Kd.R_new' (Kd.R_new' ho1 (Kd.R_lt (by (with_reducible repeat (first | apply Kd.R_alloc | apply Kd.R_drewN | apply Kd.R_drew)); exact (Kd.R_mono (Kd.R_far (p := ⟨gb961, 1, none⟩) (Kd.R_far (p := ⟨gb961, 0, none⟩) (Kd.R_types HO943.out BK961.out (by decide)) (fun _ hk => hk.2) (.slice Ao28 t955.length co28)) (fun _ hk => hk.2) (.slice Ao32 t958.length co32)) (fun _ h_ => h_.1))))) (Kd.R_lt (by (with_reducible repeat (first | apply Kd.R_alloc | apply Kd.R_drewN | apply Kd.R_drew)); exact (Kd.R_mono (Kd.R_far (p := ⟨gb961, 1, none⟩) (Kd.R_far (p := ⟨gb961, 0, none⟩) (Kd.R_types HO946.out BK961.out (by decide)) (fun _ hk => hk.2) (.slice Ao28 t955.length co28)) (fun _ hk => hk.2) (.slice Ao32 t958.length co32)) (fun _ h_ => h_.1))))) (Kd.R_lt (by (with_reducible repeat (first | apply Kd.R_alloc | apply Kd.R_drewN | apply Kd.R_drew)); exact (Kd.R_mono (Kd.R_far (p := ⟨gb961, 1, none⟩) (Kd.R_far (p := ⟨gb961, 0, none⟩) (Kd.R_types HO949.out BK961.out (by decide)) (fun _ hk => hk.2) (.slice Ao28 t955.length co28)) (fun _ hk => hk.2) (.slice Ao32 t958.length co32)) (fun _ h_ => h_.1))))) (Kd.R_lt (by (with_reducible repeat (first | apply Kd.R_alloc | apply Kd.R_drewN | apply Kd.R_drew)); exact (Kd.R_mono (Kd.R_far (p := ⟨gb961, 1, none⟩) (Kd.R_far (p := ⟨gb961, 0, none⟩) (Kd.R_types HO952.out BK961.out (by decide)) (fun _ hk => hk.2) (.slice Ao28 t955.length co28)) (fun _ hk => hk.2) (.slice Ao32 t958.length co32)) (fun _ h_ => h_.1))))) (Kd.R_lt (by (with_reducible repeat (first | apply Kd.R_alloc | apply Kd.R_drewN | apply Kd.R_drew)); exact (Kd.R_mono (Kd.R_far (p := ⟨gb961, 1, none⟩) (Kd.R_far (p := ⟨gb961, 0, none⟩) (Kd.R_types HO957.out BK961.out (by decide)) (fun _ hk => hk.2) (.slice Ao28 t955.length co28)) (fun _ hk => hk.2) (.slice Ao32 t958.length co32)) (fun _ h_ => h_.1))))) (Kd.R_lt (by (with_reducible repeat (first | apply Kd.R_alloc | apply Kd.R_drewN | apply Kd.R_drew)); exact (Kd.R_mono (Kd.R_far (p := ⟨gb961, 1, none⟩) (Kd.R_far (p := ⟨gb961, 0, none⟩) (Kd.R_types HO960.out BK961.out (by decide)) (fun _ hk => hk.2) (.slice Ao28 t955.length co28)) (fun _ hk => hk.2) (.slice Ao32 t958.length co32)) (fun _ h_ => h_.1))))) (below_size (by repeat (first | (with_reducible first | exact HB.out | apply below_alloc | apply pw_below_drewN | apply below_drew1 | refine below_set ?_ GE939.out | refine below_set ?_ GE954.out | refine below_set ?_ GE961.out) | exact HB.out)))); have n8_ := Aside0.mk (blk_below (g := gb939) (o := .cells #[.slice A0_0 l0_0.length c0_0, .slice A0_1 l0_1.length c0_1] 24 (0, 0)) (by (with_reducible repeat (first | refine blk_drewN ?_ _ | refine blk_drew ?_ | refine blk_alloc ?_ _)); refine blk_far ?_ NB939_961.out _; (with_reducible repeat (first | refine blk_drewN ?_ _ | refine blk_drew ?_ | refine blk_alloc ?_ _)); refine blk_far ?_ NB939_961.out _; (with_reducible repeat (first | refine blk_drewN ?_ _ | refine blk_drew ?_ | refine blk_alloc ?_ _)); exact BK939.out) hb); have n9_ := Aside0.mk (blk_below (g := gb954) (o := .cells #[.slice Ao21 t947.length co21, .slice Ao24 t950.length co24] 27 (0, 0)) (by (with_reducible repeat (first | refine blk_drewN ?_ _ | refine blk_drew ?_ | refine blk_alloc ?_ _)); refine blk_far ?_ NB954_961.out _; (with_reducible repeat (first | refine blk_drewN ?_ _ | refine blk_drew ?_ | refine blk_alloc ?_ _)); refine blk_far ?_ NB954_961.out _; (with_reducible repeat (first | refine blk_drewN ?_ _ | refine blk_drew ?_ | refine blk_alloc ?_ _)); exact BK954.out) hb); have n10_ := Aside0.mk (blk_below (g := gb961) (o := .cells #[.slice Ao28 t955.length co28, .slice Ao32 t958.length co32] 27 (0, 0)) (by (with_reducible repeat (first | refine blk_drewN ?_ _ | refine blk_drew ?_ | refine blk_alloc ?_ _)); refine blk_put (cs := #[.slice Ao28 t955.length co28, .slice none 0 0]) ?_ 1 _ rfl; (with_reducible repeat (first | refine blk_drewN ?_ _ | refine blk_drew ?_ | refine blk_alloc ?_ _)); refine blk_put (cs := #[.slice none 0 0, .slice none 0 0]) ?_ 0 _ rfl; (with_reducible repeat (first | refine blk_drewN ?_ _ | refine blk_drew ?_ | refine blk_alloc ?_ _)); exact BK961.out) hb); have n11_ := Aside0.mk (below_step (by repeat (first | (with_reducible first | exact HB.out | apply below_alloc | apply pw_below_drewN | apply below_drew1 | refine below_set ?_ GE939.out | refine below_set ?_ GE954.out | refine below_set ?_ GE961.out) | exact HB.out)) hb); clear HO943; clear HO946; clear HO949; clear HO952; clear HO957; clear HO960; clear BK939; clear BK954; clear BK961; clear HB; have HO943 := n0_; have HO946 := n1_; have HO949 := n2_; have HO952 := n3_; have HO957 := n4_; have HO960 := n5_; have HO964 := n6_; have HO967 := n7_; have BK939 := n8_; have BK954 := n9_; have BK961 := n10_; have HB := n11_; clear n0_ n1_ n2_ n3_ n4_ n5_ n6_ n7_ n8_ n9_ n10_ n11_; (try clear hb); (try clear hb2); (try clear hk); (try clear hi); (try clear ho0); (try clear ho1)) | ((with_reducible refine gate_dst (N := 7) rfl ?_); refine box_event ?hg (N := 7) ?hd (cs := #[.slice none 0 0, .slice none 0 0]) (t := 27) ?hr ?_; (case hd => rfl); (case hg => rfl); (case hr => first | (go_simp; done) | (go_simp; rfl)); intro gb969 hg w34 hbox hb; have n0_ := Aside0.mk (Kd.R_below (by (with_reducible repeat (first | apply Kd.R_alloc | apply Kd.R_drewN | apply Kd.R_drew)); exact HO943.out) hb); have n1_ := Aside0.mk (Kd.R_below (by (with_reducible repeat (first | apply Kd.R_alloc | apply Kd.R_drewN | apply Kd.R_drew)); exact HO946.out) hb); have n2_ := Aside0.mk (Kd.R_below (by (with_reducible repeat (first | apply Kd.R_alloc | apply Kd.R_drewN | apply Kd.R_drew)); exact HO949.out) hb); have n3_ := Aside0.mk (Kd.R_below (by (with_reducible repeat (first | apply Kd.R_alloc | apply Kd.R_drewN | apply Kd.R_drew)); exact HO952.out) hb); have n4_ := Aside0.mk (Kd.R_below (by (with_reducible repeat (first | apply Kd.R_alloc | apply Kd.R_drewN | apply Kd.R_drew)); exact HO957.out) hb); have n5_ := Aside0.mk (Kd.R_below (by (with_reducible repeat (first | apply Kd.R_alloc | apply Kd.R_drewN | apply Kd.R_drew)); exact HO960.out) hb); have n6_ := Aside0.mk (Kd.R_below (by (with_reducible repeat (first | apply Kd.R_alloc | apply Kd.R_drewN | apply Kd.R_drew)); exact HO964.out) hb); have n7_ := Aside0.mk (Kd.R_below (by (with_reducible repeat (first | apply Kd.R_alloc | apply Kd.R_drewN | apply Kd.R_drew)); exact HO967.out) hb); have n8_ := Aside0.mk (blk_below (g := gb939) (o := .cells #[.slice A0_0 l0_0.length c0_0, .slice A0_1 l0_1.length c0_1] 24 (0, 0)) (by (with_reducible repeat (first | refine blk_drewN ?_ _ | refine blk_drew ?_ | refine blk_alloc ?_ _)); exact BK939.out) hb); have n9_ := Aside0.mk (blk_below (g := gb954) (o := .cells #[.slice Ao21 t947.length co21, .slice Ao24 t950.length co24] 27 (0, 0)) (by (with_reducible repeat (first | refine blk_drewN ?_ _ | refine blk_drew ?_ | refine blk_alloc ?_ _)); exact BK954.out) hb); have n10_ := Aside0.mk (blk_below (g := gb961) (o := .cells #[.slice Ao28 t955.length co28, .slice Ao32 t958.length co32] 27 (0, 0)) (by (with_reducible repeat (first | refine blk_drewN ?_ _ | refine blk_drew ?_ | refine blk_alloc ?_ _)); exact BK961.out) hb); have n11_ := Aside0.mk (below_step (by repeat (first | (with_reducible first | exact HB.out | apply below_alloc | apply pw_below_drewN | apply below_drew1 | refine below_set ?_ GE939.out | refine below_set ?_ GE954.out | refine below_set ?_ GE961.out) | exact HB.out)) hb); have n12_ := Aside0.mk (hbox); have n13_ := Aside0.mk ((by rw [hg]; exact (below_size (by repeat (first | (with_reducible first | exact HB.out | apply below_alloc | apply pw_below_drewN | apply below_drew1 | refine below_set ?_ GE939.out | refine below_set ?_ GE954.out | refine below_set ?_ GE961.out) | exact HB.out))) : w.heap.size ≤ gb969)); have n14_ := Aside0.mk ((by rw [hg]; exact (below_size (by repeat (first | (with_reducible first | exact HB.out | apply below_alloc | apply pw_below_drewN | apply below_drew1 | refine below_set ?_ GE939.out | refine below_set ?_ GE954.out | refine below_set ?_ GE961.out) | exact HB.out))) : w.heap.size ≤ gb969)); have n15_ := Aside0.mk ((by rw [hg]; exact Nat.ne_of_lt (blk_lt (g := gb939) (o := .cells #[.slice A0_0 l0_0.length c0_0, .slice A0_1 l0_1.length c0_1] 24 (0, 0)) (by (with_reducible repeat (first | refine blk_drewN ?_ _ | refine blk_drew ?_ | refine blk_alloc ?_ _)); exact BK939.out)) : gb939 ≠ gb969)); have n16_ := Aside0.mk ((by rw [hg]; exact Nat.ne_of_gt (blk_lt (g := gb939) (o := .cells #[.slice A0_0 l0_0.length c0_0, .slice A0_1 l0_1.length c0_1] 24 (0, 0)) (by (with_reducible repeat (first | refine blk_drewN ?_ _ | refine blk_drew ?_ | refine blk_alloc ?_ _)); exact BK939.out)) : gb969 ≠ gb939)); have n17_ := Aside0.mk ((by rw [hg]; exact Nat.ne_of_lt (blk_lt (g := gb954) (o := .cells #[.slice Ao21 t947.length co21, .slice Ao24 t950.length co24] 27 (0, 0)) (by (with_reducible repeat (first | refine blk_drewN ?_ _ | refine blk_drew ?_ | refine blk_alloc ?_ _)); exact BK954.out)) : gb954 ≠ gb969)); have n18_ := Aside0.mk ((by rw [hg]; exact Nat.ne_of_gt (blk_lt (g := gb954) (o := .cells #[.slice Ao21 t947.length co21, .slice Ao24 t950.length co24] 27 (0, 0)) (by (with_reducible repeat (first | refine blk_drewN ?_ _ | refine blk_drew ?_ | refine blk_alloc ?_ _)); exact BK954.out)) : gb969 ≠ gb954)); have n19_ := Aside0.mk ((by rw [hg]; exact Nat.ne_of_lt (blk_lt (g := gb961) (o := .cells #[.slice Ao28 t955.length co28, .slice Ao32 t958.length co32] 27 (0, 0)) (by (with_reducible repeat (first | refine blk_drewN ?_ _ | refine blk_drew ?_ | refine blk_alloc ?_ _)); exact BK961.out)) : gb961 ≠ gb969)); have n20_ := Aside0.mk ((by rw [hg]; exact Nat.ne_of_gt (blk_lt (g := gb961) (o := .cells #[.slice Ao28 t955.length co28, .slice Ao32 t958.length co32] 27 (0, 0)) (by (with_reducible repeat (first | refine blk_drewN ?_ _ | refine blk_drew ?_ | refine blk_alloc ?_ _)); exact BK961.out)) : gb969 ≠ gb961)); clear HO943; clear HO946; clear HO949; clear HO952; clear HO957; clear HO960; clear HO964; clear HO967; clear BK939; clear BK954; clear BK961; clear HB; have HO943 := n0_; have HO946 := n1_; have HO949 := n2_; have HO952 := n3_; have HO957 := n4_; have HO960 := n5_; have HO964 := n6_; have HO967 := n7_; have BK939 := n8_; have BK954 := n9_; have BK961 := n10_; have HB := n11_; have BK969 := n12_; have GW969 := n13_; have GE969 := n14_; have NB939_969 := n15_; have NB969_939 := n16_; have NB954_969 := n17_; have NB969_954 := n18_; have NB961_969 := n19_; have NB969_961 := n20_; clear n0_ n1_ n2_ n3_ n4_ n5_ n6_ n7_ n8_ n9_ n10_ n11_ n12_ n13_ n14_ n15_ n16_ n17_ n18_ n19_ n20_; clear hb hbox hg; obtain ⟨Ao35, co35, eo35⟩ := Kd.R_slice HO964.out; subst eo35; have hnb36 := NB969_939.out; have hnc36 := NB939_969.out; have hnb37 := NB969_954.out; have hnc37 := NB954_969.out; have hnb38 := NB969_961.out; have hnc38 := NB961_969.out; have hcz39_0 : w34.cell? ⟨gb969, 0, none⟩ = some (.slice none 0 0) := (blk_cell BK969.out 0).trans rfl; have hcz39_1 : w34.cell? ⟨gb969, 1, none⟩ = some (.slice none 0 0) := (blk_cell BK969.out 1).trans rfl; have hfz39_0 := blk_frozen BK969.out 0; have hfz39_1 := blk_frozen BK969.out 1; obtain ⟨Ao40, co40, eo40⟩ := Kd.R_slice HO967.out; subst eo40))
    (try simp only [Act.put, List.setIfInBounds_toArray, List.set_cons_zero, List.set_cons_succ])
    go_cut [40] (fun v40 wc => ∃ (kq : Nat) (x40_10 : Bool), v40 = .bool x40_10 ∧ Aside0 (laws_FnExactUnturnSurface.j0 kq t953 t968 x40_10 l0_0 l0_1 t947 t950 t955 t958 t962 t965 = some true) ∧ Aside0 (kq ≤ k) ∧ Aside0 (Kd.R (Kd.int .i64) 3 wc w.heap.size (fun k_ => some k_ ≠ ((.slice Ao24 t950.length co24) : Value).ownBlock ∧ some k_ ≠ ((.slice Ao28 t955.length co28) : Value).ownBlock ∧ some k_ ≠ ((.slice Ao32 t958.length co32) : Value).ownBlock ∧ some k_ ≠ ((.slice Ao35 t962.length co35) : Value).ownBlock ∧ some k_ ≠ ((.slice Ao40 t965.length co40) : Value).ownBlock) (.slice Ao21 t947.length co21) t947) ∧ Aside0 (Kd.R (Kd.int .i64) 3 wc w.heap.size (fun k_ => some k_ ≠ ((.slice Ao21 t947.length co21) : Value).ownBlock ∧ some k_ ≠ ((.slice Ao28 t955.length co28) : Value).ownBlock ∧ some k_ ≠ ((.slice Ao32 t958.length co32) : Value).ownBlock ∧ some k_ ≠ ((.slice Ao35 t962.length co35) : Value).ownBlock ∧ some k_ ≠ ((.slice Ao40 t965.length co40) : Value).ownBlock) (.slice Ao24 t950.length co24) t950) ∧ Aside0 (Kd.R (Kd.int .i64) 3 wc w.heap.size (fun k_ => some k_ ≠ ((.slice Ao21 t947.length co21) : Value).ownBlock ∧ some k_ ≠ ((.slice Ao24 t950.length co24) : Value).ownBlock ∧ some k_ ≠ ((.slice Ao32 t958.length co32) : Value).ownBlock ∧ some k_ ≠ ((.slice Ao35 t962.length co35) : Value).ownBlock ∧ some k_ ≠ ((.slice Ao40 t965.length co40) : Value).ownBlock) (.slice Ao28 t955.length co28) t955) ∧ Aside0 (Kd.R (Kd.int .i64) 3 wc w.heap.size (fun k_ => some k_ ≠ ((.slice Ao21 t947.length co21) : Value).ownBlock ∧ some k_ ≠ ((.slice Ao24 t950.length co24) : Value).ownBlock ∧ some k_ ≠ ((.slice Ao28 t955.length co28) : Value).ownBlock ∧ some k_ ≠ ((.slice Ao35 t962.length co35) : Value).ownBlock ∧ some k_ ≠ ((.slice Ao40 t965.length co40) : Value).ownBlock) (.slice Ao32 t958.length co32) t958) ∧ Aside0 (Kd.R (Kd.int .i64) 3 wc w.heap.size (fun k_ => some k_ ≠ ((.slice Ao21 t947.length co21) : Value).ownBlock ∧ some k_ ≠ ((.slice Ao24 t950.length co24) : Value).ownBlock ∧ some k_ ≠ ((.slice Ao28 t955.length co28) : Value).ownBlock ∧ some k_ ≠ ((.slice Ao32 t958.length co32) : Value).ownBlock ∧ some k_ ≠ ((.slice Ao40 t965.length co40) : Value).ownBlock) (.slice Ao35 t962.length co35) t962) ∧ Aside0 (Kd.R (Kd.int .i64) 3 wc w.heap.size (fun k_ => some k_ ≠ ((.slice Ao21 t947.length co21) : Value).ownBlock ∧ some k_ ≠ ((.slice Ao24 t950.length co24) : Value).ownBlock ∧ some k_ ≠ ((.slice Ao28 t955.length co28) : Value).ownBlock ∧ some k_ ≠ ((.slice Ao32 t958.length co32) : Value).ownBlock ∧ some k_ ≠ ((.slice Ao35 t962.length co35) : Value).ownBlock) (.slice Ao40 t965.length co40) t965) ∧ Aside0 (wc.heap[gb939]? = some (.cells #[(.slice A0_0 l0_0.length c0_0), (.slice A0_1 l0_1.length c0_1)] 24 (0, 0))) ∧ Aside0 (wc.heap[gb954]? = some (.cells #[(.slice Ao21 t947.length co21), (.slice Ao24 t950.length co24)] 27 (0, 0))) ∧ Aside0 (wc.heap[gb961]? = some (.cells #[(.slice Ao28 t955.length co28), (.slice Ao32 t958.length co32)] 27 (0, 0))) ∧ Aside0 (wc.heap[gb969]? = some (.cells #[(.slice Ao35 t962.length co35), (.slice Ao40 t965.length co40)] 27 (0, 0))) ∧ Aside0 (Below w.heap.size w wc))
    case first =>
      have H := HC11.out
      clear HC11
      replace H := Option.bind_eq_some_iff.mp H
      obtain ⟨t970, A410, H⟩ := H
      replace H : (if t970 = true then (laws_FnExactUnturnSurface.j0 k t953 t968 (t968 != t953) l0_0 l0_1 t947 t950 t955 t958 t962 t965) else (laws_FnExactUnturnSurface.j0 k t953 t968 true l0_0 l0_1 t947 t950 t955 t958 t962 t965)) = some true := H
      have A41 := Aside0.mk A410
      clear A410
      by_cases c42 : t970 = true
      · subst c42
        have H1 : (laws_FnExactUnturnSurface.j0 k t953 t968 (t968 != t953) l0_0 l0_1 t947 t950 t955 t958 t962 t965) = some true := by rw [if_pos rfl] at H; exact H
        clear H
        have H := H1
        clear H1
        have H' := Aside0.mk H
        clear H
        have hnb43 := NB969_939.out
        have hnc43 := NB939_969.out
        have hnb44 := NB969_954.out
        have hnc44 := NB954_969.out
        have hnb45 := NB969_961.out
        have hnc45 := NB961_969.out
        have hcz46_0 : w34.cell? ⟨gb969, 0, none⟩ = some (.slice none 0 0) := (blk_cell BK969.out 0).trans rfl
        have hcz46_1 : w34.cell? ⟨gb969, 1, none⟩ = some (.slice none 0 0) := (blk_cell BK969.out 1).trans rfl
        have hfz46_0 := blk_frozen BK969.out 0
        have hfz46_1 := blk_frozen BK969.out 1
        have hnb47 := NB954_939.out
        have hnc47 := NB939_954.out
        have hnb48 := NB954_961.out
        have hnc48 := NB961_954.out
        have hcz49_0 : w34.cell? ⟨gb954, 0, none⟩ = some (.slice Ao21 t947.length co21) := (blk_cell BK954.out 0).trans rfl
        have hcz49_1 : w34.cell? ⟨gb954, 1, none⟩ = some (.slice Ao24 t950.length co24) := (blk_cell BK954.out 1).trans rfl
        have hfz49_0 := blk_frozen BK954.out 0
        have hfz49_1 := blk_frozen BK954.out 1
        go_wp2_with (first | ((with_reducible refine gate_callee (f := 19) rfl ?_); refine goesL_ (some 34) rfl rfl Try.func19 (by kernel_rfl) rfl #[.agg #[.slice Ao35 t962.length co35, .slice Ao40 t965.length co40], .agg #[.slice Ao21 t947.length co21, .slice Ao24 t950.length co24]] rfl (by (try simp only [List.map_toArray, List.map_cons, List.map_nil]); first | done | rfl | (simp only [List.length_drop, List.length_take]; rfl)) ?_; (with_reducible refine (laws_eqSurface.calls k _ _ t962 _ _ t965 _ _ t947 _ _ t950 true _ ?side1 ?side2 ?side3 ?side4 ?side5 ?side6 ?side7 ?side8 A41.out).mono ?_); (case side1 => refine (Kd.R_reads' (e := 3) (base := w.heap.size) (ok := fun k_ => ((((((some k_ ≠ (.slice Ao40 t965.length co40 : Value).ownBlock ∧ some k_ ≠ (.slice Ao17 t941.length co17 : Value).ownBlock) ∧ some k_ ≠ (.slice Ao18 t944.length co18 : Value).ownBlock) ∧ some k_ ≠ (.slice Ao21 t947.length co21 : Value).ownBlock) ∧ some k_ ≠ (.slice Ao24 t950.length co24 : Value).ownBlock) ∧ some k_ ≠ (.slice Ao28 t955.length co28 : Value).ownBlock) ∧ some k_ ≠ (.slice Ao32 t958.length co32 : Value).ownBlock)) (n := t962.length) (c := co35) ?_).2.2; exact (by (with_reducible repeat (first | apply Kd.R_alloc | apply Kd.R_drewN | apply Kd.R_drew)); exact (Kd.R_mono (Kd.R_far (p := ⟨gb969, 1, none⟩) (Kd.R_far (p := ⟨gb969, 0, none⟩) (Kd.R_types HO964.out BK969.out (by decide)) (fun _ hk => hk.2) (.slice Ao35 t962.length co35)) (fun _ hk => hk.2) (.slice Ao40 t965.length co40)) (fun _ h_ => h_.1)))); (case side2 => exact (Kd.R_reads' HO964.out).2.1); (case side3 => refine (Kd.R_reads' (e := 3) (base := w.heap.size) (ok := fun k_ => ((((((some k_ ≠ (.slice Ao35 t962.length co35 : Value).ownBlock ∧ some k_ ≠ (.slice Ao17 t941.length co17 : Value).ownBlock) ∧ some k_ ≠ (.slice Ao18 t944.length co18 : Value).ownBlock) ∧ some k_ ≠ (.slice Ao21 t947.length co21 : Value).ownBlock) ∧ some k_ ≠ (.slice Ao24 t950.length co24 : Value).ownBlock) ∧ some k_ ≠ (.slice Ao28 t955.length co28 : Value).ownBlock) ∧ some k_ ≠ (.slice Ao32 t958.length co32 : Value).ownBlock)) (n := t965.length) (c := co40) ?_).2.2; exact (by (with_reducible repeat (first | apply Kd.R_alloc | apply Kd.R_drewN | apply Kd.R_drew)); exact (Kd.R_mono (Kd.R_far (p := ⟨gb969, 1, none⟩) (Kd.R_far (p := ⟨gb969, 0, none⟩) (Kd.R_types HO967.out BK969.out (by decide)) (fun _ hk => hk.2) (.slice Ao35 t962.length co35)) (fun _ hk => hk.2) (.slice Ao40 t965.length co40)) (fun _ h_ => h_.1)))); (case side4 => exact (Kd.R_reads' HO967.out).2.1); (case side5 => refine (Kd.R_reads' (e := 3) (base := w.heap.size) (ok := fun k_ => ((((((some k_ ≠ (.slice Ao24 t950.length co24 : Value).ownBlock ∧ some k_ ≠ (.slice Ao17 t941.length co17 : Value).ownBlock) ∧ some k_ ≠ (.slice Ao18 t944.length co18 : Value).ownBlock) ∧ some k_ ≠ (.slice Ao28 t955.length co28 : Value).ownBlock) ∧ some k_ ≠ (.slice Ao32 t958.length co32 : Value).ownBlock) ∧ some k_ ≠ (.slice Ao35 t962.length co35 : Value).ownBlock) ∧ some k_ ≠ (.slice Ao40 t965.length co40 : Value).ownBlock)) (n := t947.length) (c := co21) ?_).2.2; exact (by (with_reducible repeat (first | apply Kd.R_alloc | apply Kd.R_drewN | apply Kd.R_drew)); exact (Kd.R_mono (Kd.R_far (p := ⟨gb969, 1, none⟩) (Kd.R_far (p := ⟨gb969, 0, none⟩) (Kd.R_types HO949.out BK969.out (by decide)) (fun _ hk => hk.2) (.slice Ao35 t962.length co35)) (fun _ hk => hk.2) (.slice Ao40 t965.length co40)) (fun _ h_ => h_.1)))); (case side6 => exact (Kd.R_reads' HO949.out).2.1); (case side7 => refine (Kd.R_reads' (e := 3) (base := w.heap.size) (ok := fun k_ => ((((((some k_ ≠ (.slice Ao21 t947.length co21 : Value).ownBlock ∧ some k_ ≠ (.slice Ao17 t941.length co17 : Value).ownBlock) ∧ some k_ ≠ (.slice Ao18 t944.length co18 : Value).ownBlock) ∧ some k_ ≠ (.slice Ao28 t955.length co28 : Value).ownBlock) ∧ some k_ ≠ (.slice Ao32 t958.length co32 : Value).ownBlock) ∧ some k_ ≠ (.slice Ao35 t962.length co35 : Value).ownBlock) ∧ some k_ ≠ (.slice Ao40 t965.length co40 : Value).ownBlock)) (n := t950.length) (c := co24) ?_).2.2; exact (by (with_reducible repeat (first | apply Kd.R_alloc | apply Kd.R_drewN | apply Kd.R_drew)); exact (Kd.R_mono (Kd.R_far (p := ⟨gb969, 1, none⟩) (Kd.R_far (p := ⟨gb969, 0, none⟩) (Kd.R_types HO952.out BK969.out (by decide)) (fun _ hk => hk.2) (.slice Ao35 t962.length co35)) (fun _ hk => hk.2) (.slice Ao40 t965.length co40)) (fun _ h_ => h_.1)))); (case side8 => exact (Kd.R_reads' HO952.out).2.1); rintro e w50 ⟨rfl, hb⟩; refine ⟨_, rfl, ?_⟩; have n0_ := Aside0.mk (Kd.R_below (by (with_reducible repeat (first | apply Kd.R_alloc | apply Kd.R_drewN | apply Kd.R_drew)); exact (Kd.R_mono (Kd.R_far (p := ⟨gb969, 1, none⟩) (Kd.R_far (p := ⟨gb969, 0, none⟩) (Kd.R_types HO943.out BK969.out (by decide)) (fun _ hk => hk.2) (.slice Ao35 t962.length co35)) (fun _ hk => hk.2) (.slice Ao40 t965.length co40)) (fun _ h_ => h_.1))) hb); have n1_ := Aside0.mk (Kd.R_below (by (with_reducible repeat (first | apply Kd.R_alloc | apply Kd.R_drewN | apply Kd.R_drew)); exact (Kd.R_mono (Kd.R_far (p := ⟨gb969, 1, none⟩) (Kd.R_far (p := ⟨gb969, 0, none⟩) (Kd.R_types HO946.out BK969.out (by decide)) (fun _ hk => hk.2) (.slice Ao35 t962.length co35)) (fun _ hk => hk.2) (.slice Ao40 t965.length co40)) (fun _ h_ => h_.1))) hb); have n2_ := Aside0.mk (Kd.R_below (by (with_reducible repeat (first | apply Kd.R_alloc | apply Kd.R_drewN | apply Kd.R_drew)); exact (Kd.R_mono (Kd.R_far (p := ⟨gb969, 1, none⟩) (Kd.R_far (p := ⟨gb969, 0, none⟩) (Kd.R_types HO949.out BK969.out (by decide)) (fun _ hk => hk.2) (.slice Ao35 t962.length co35)) (fun _ hk => hk.2) (.slice Ao40 t965.length co40)) (fun _ h_ => h_.1))) hb); have n3_ := Aside0.mk (Kd.R_below (by (with_reducible repeat (first | apply Kd.R_alloc | apply Kd.R_drewN | apply Kd.R_drew)); exact (Kd.R_mono (Kd.R_far (p := ⟨gb969, 1, none⟩) (Kd.R_far (p := ⟨gb969, 0, none⟩) (Kd.R_types HO952.out BK969.out (by decide)) (fun _ hk => hk.2) (.slice Ao35 t962.length co35)) (fun _ hk => hk.2) (.slice Ao40 t965.length co40)) (fun _ h_ => h_.1))) hb); have n4_ := Aside0.mk (Kd.R_below (by (with_reducible repeat (first | apply Kd.R_alloc | apply Kd.R_drewN | apply Kd.R_drew)); exact (Kd.R_mono (Kd.R_far (p := ⟨gb969, 1, none⟩) (Kd.R_far (p := ⟨gb969, 0, none⟩) (Kd.R_types HO957.out BK969.out (by decide)) (fun _ hk => hk.2) (.slice Ao35 t962.length co35)) (fun _ hk => hk.2) (.slice Ao40 t965.length co40)) (fun _ h_ => h_.1))) hb); have n5_ := Aside0.mk (Kd.R_below (by (with_reducible repeat (first | apply Kd.R_alloc | apply Kd.R_drewN | apply Kd.R_drew)); exact (Kd.R_mono (Kd.R_far (p := ⟨gb969, 1, none⟩) (Kd.R_far (p := ⟨gb969, 0, none⟩) (Kd.R_types HO960.out BK969.out (by decide)) (fun _ hk => hk.2) (.slice Ao35 t962.length co35)) (fun _ hk => hk.2) (.slice Ao40 t965.length co40)) (fun _ h_ => h_.1))) hb); have n6_ := Aside0.mk (Kd.R_below (by (with_reducible repeat (first | apply Kd.R_alloc | apply Kd.R_drewN | apply Kd.R_drew)); exact (Kd.R_mono (Kd.R_far (p := ⟨gb969, 1, none⟩) (Kd.R_far (p := ⟨gb969, 0, none⟩) (Kd.R_types HO964.out BK969.out (by decide)) (fun _ hk => hk.2) (.slice Ao35 t962.length co35)) (fun _ hk => hk.2) (.slice Ao40 t965.length co40)) (fun _ h_ => h_.1))) hb); have n7_ := Aside0.mk (Kd.R_below (by (with_reducible repeat (first | apply Kd.R_alloc | apply Kd.R_drewN | apply Kd.R_drew)); exact (Kd.R_mono (Kd.R_far (p := ⟨gb969, 1, none⟩) (Kd.R_far (p := ⟨gb969, 0, none⟩) (Kd.R_types HO967.out BK969.out (by decide)) (fun _ hk => hk.2) (.slice Ao35 t962.length co35)) (fun _ hk => hk.2) (.slice Ao40 t965.length co40)) (fun _ h_ => h_.1))) hb); have n8_ := Aside0.mk (blk_below (g := gb939) (o := .cells #[.slice A0_0 l0_0.length c0_0, .slice A0_1 l0_1.length c0_1] 24 (0, 0)) (by (with_reducible repeat (first | refine blk_drewN ?_ _ | refine blk_drew ?_ | refine blk_alloc ?_ _)); refine blk_far ?_ NB939_969.out _; (with_reducible repeat (first | refine blk_drewN ?_ _ | refine blk_drew ?_ | refine blk_alloc ?_ _)); refine blk_far ?_ NB939_969.out _; (with_reducible repeat (first | refine blk_drewN ?_ _ | refine blk_drew ?_ | refine blk_alloc ?_ _)); exact BK939.out) hb); have n9_ := Aside0.mk (blk_below (g := gb954) (o := .cells #[.slice Ao21 t947.length co21, .slice Ao24 t950.length co24] 27 (0, 0)) (by (with_reducible repeat (first | refine blk_drewN ?_ _ | refine blk_drew ?_ | refine blk_alloc ?_ _)); refine blk_far ?_ NB954_969.out _; (with_reducible repeat (first | refine blk_drewN ?_ _ | refine blk_drew ?_ | refine blk_alloc ?_ _)); refine blk_far ?_ NB954_969.out _; (with_reducible repeat (first | refine blk_drewN ?_ _ | refine blk_drew ?_ | refine blk_alloc ?_ _)); exact BK954.out) hb); have n10_ := Aside0.mk (blk_below (g := gb961) (o := .cells #[.slice Ao28 t955.length co28, .slice Ao32 t958.length co32] 27 (0, 0)) (by (with_reducible repeat (first | refine blk_drewN ?_ _ | refine blk_drew ?_ | refine blk_alloc ?_ _)); refine blk_far ?_ NB961_969.out _; (with_reducible repeat (first | refine blk_drewN ?_ _ | refine blk_drew ?_ | refine blk_alloc ?_ _)); refine blk_far ?_ NB961_969.out _; (with_reducible repeat (first | refine blk_drewN ?_ _ | refine blk_drew ?_ | refine blk_alloc ?_ _)); exact BK961.out) hb); have n11_ := Aside0.mk (blk_below (g := gb969) (o := .cells #[.slice Ao35 t962.length co35, .slice Ao40 t965.length co40] 27 (0, 0)) (by (with_reducible repeat (first | refine blk_drewN ?_ _ | refine blk_drew ?_ | refine blk_alloc ?_ _)); refine blk_put (cs := #[.slice Ao35 t962.length co35, .slice none 0 0]) ?_ 1 _ rfl; (with_reducible repeat (first | refine blk_drewN ?_ _ | refine blk_drew ?_ | refine blk_alloc ?_ _)); refine blk_put (cs := #[.slice none 0 0, .slice none 0 0]) ?_ 0 _ rfl; (with_reducible repeat (first | refine blk_drewN ?_ _ | refine blk_drew ?_ | refine blk_alloc ?_ _)); exact BK969.out) hb); have n12_ := Aside0.mk (below_step (by repeat (first | (with_reducible first | exact HB.out | apply below_alloc | apply pw_below_drewN | apply below_drew1 | refine below_set ?_ GE939.out | refine below_set ?_ GE954.out | refine below_set ?_ GE961.out | refine below_set ?_ GE969.out) | exact HB.out)) hb); clear HO943; clear HO946; clear HO949; clear HO952; clear HO957; clear HO960; clear HO964; clear HO967; clear BK939; clear BK954; clear BK961; clear BK969; clear HB; have HO943 := n0_; have HO946 := n1_; have HO949 := n2_; have HO952 := n3_; have HO957 := n4_; have HO960 := n5_; have HO964 := n6_; have HO967 := n7_; have BK939 := n8_; have BK954 := n9_; have BK961 := n10_; have BK969 := n11_; have HB := n12_; clear n0_ n1_ n2_ n3_ n4_ n5_ n6_ n7_ n8_ n9_ n10_ n11_ n12_; (try clear hb); (try clear hb2); (try clear hk); (try clear hi)))
        go_meet
        case rel => exact ⟨_, ((t968 != t953)), (by first | rfl | (simp; done) | (simp [*]; done)), H', ⟨by first | omega | exact Nat.le_refl _⟩, ⟨by (with_reducible repeat (first | apply Kd.R_alloc | apply Kd.R_drewN | apply Kd.R_drew)); exact Kd.R_mono HO949.out (fun _ hk => ⟨hk.1.1.1.1.1.1, ⟨hk.1.1.1.2, ⟨hk.1.1.2, ⟨hk.1.2, hk.2⟩⟩⟩⟩)⟩, ⟨by (with_reducible repeat (first | apply Kd.R_alloc | apply Kd.R_drewN | apply Kd.R_drew)); exact Kd.R_mono HO952.out (fun _ hk => ⟨hk.1.1.1.1.1.1, ⟨hk.1.1.1.2, ⟨hk.1.1.2, ⟨hk.1.2, hk.2⟩⟩⟩⟩)⟩, ⟨by (with_reducible repeat (first | apply Kd.R_alloc | apply Kd.R_drewN | apply Kd.R_drew)); exact Kd.R_mono HO957.out (fun _ hk => ⟨hk.1.1.1.2, ⟨hk.1.1.2, ⟨hk.1.1.1.1.1.1, ⟨hk.1.2, hk.2⟩⟩⟩⟩)⟩, ⟨by (with_reducible repeat (first | apply Kd.R_alloc | apply Kd.R_drewN | apply Kd.R_drew)); exact Kd.R_mono HO960.out (fun _ hk => ⟨hk.1.1.1.2, ⟨hk.1.1.2, ⟨hk.1.1.1.1.1.1, ⟨hk.1.2, hk.2⟩⟩⟩⟩)⟩, ⟨by (with_reducible repeat (first | apply Kd.R_alloc | apply Kd.R_drewN | apply Kd.R_drew)); exact Kd.R_mono HO964.out (fun _ hk => ⟨hk.1.1.1.2, ⟨hk.1.1.2, ⟨hk.1.2, ⟨hk.2, hk.1.1.1.1.1.1⟩⟩⟩⟩)⟩, ⟨by (with_reducible repeat (first | apply Kd.R_alloc | apply Kd.R_drewN | apply Kd.R_drew)); exact Kd.R_mono HO967.out (fun _ hk => ⟨hk.1.1.1.2, ⟨hk.1.1.2, ⟨hk.1.2, ⟨hk.2, hk.1.1.1.1.1.1⟩⟩⟩⟩)⟩, ⟨by (with_reducible repeat (first | refine blk_drewN ?_ _ | refine blk_drew ?_ | refine blk_alloc ?_ _)); exact BK939.out⟩, ⟨by (with_reducible repeat (first | refine blk_drewN ?_ _ | refine blk_drew ?_ | refine blk_alloc ?_ _)); exact BK954.out⟩, ⟨by (with_reducible repeat (first | refine blk_drewN ?_ _ | refine blk_drew ?_ | refine blk_alloc ?_ _)); exact BK961.out⟩, ⟨by (with_reducible repeat (first | refine blk_drewN ?_ _ | refine blk_drew ?_ | refine blk_alloc ?_ _)); exact BK969.out⟩, ⟨by repeat (first | (with_reducible first | exact HB.out | apply below_alloc | apply pw_below_drewN | apply below_drew1 | refine below_set ?_ GE939.out | refine below_set ?_ GE954.out | refine below_set ?_ GE961.out | refine below_set ?_ GE969.out) | exact HB.out)⟩⟩
      · replace c42 := Bool.eq_false_iff.mpr c42
        subst c42
        have H1 : (laws_FnExactUnturnSurface.j0 k t953 t968 true l0_0 l0_1 t947 t950 t955 t958 t962 t965) = some true := by rw [if_neg (show ¬ (false = true) by decide)] at H; exact H
        clear H
        have H := H1
        clear H1
        exact absurd H (by cases k <;> simp [laws_FnExactUnturnSurface.j0])
    case rest =>
      clear HC11
      try clear c1
      try clear c2
      try clear p2
      try clear c3
      try clear c3b0
      try clear c4
      try clear c5
      try clear c12
      try clear c15
      try clear c17
      try clear c19
      try clear c22
      try clear c29
      try clear c30
      try clear c36
      try clear c37
      try clear c38
      try clear c42
      try clear c43
      try clear c44
      try clear c45
      try clear c47
      try clear c48
      try clear c51
      try clear c52
      try clear c53
      try clear c55
      try clear c56
      try clear hcz13_0
      try clear hcz13_1
      try clear hcz15_0
      try clear hcz15_1
      try clear hcz23_0
      try clear hcz23_1
      try clear hcz25_0
      try clear hcz25_1
      try clear hcz31_0
      try clear hcz31_1
      try clear hcz39_0
      try clear hcz39_1
      try clear hcz46_0
      try clear hcz46_1
      try clear hcz49_0
      try clear hcz49_1
      try clear hcz54_0
      try clear hcz54_1
      try clear hcz57_0
      try clear hcz57_1
      try clear hcz5_0
      try clear hcz5_1
      try clear hfz13_0
      try clear hfz13_1
      try clear hfz15_0
      try clear hfz15_1
      try clear hfz23_0
      try clear hfz23_1
      try clear hfz25_0
      try clear hfz25_1
      try clear hfz31_0
      try clear hfz31_1
      try clear hfz39_0
      try clear hfz39_1
      try clear hfz46_0
      try clear hfz46_1
      try clear hfz49_0
      try clear hfz49_1
      try clear hfz54_0
      try clear hfz54_1
      try clear hfz57_0
      try clear hfz57_1
      try clear hfz5_0
      try clear hfz5_1
      obtain ⟨kq, x40_10, rfl, HA, HJ10, HO_955000, HO_955001, HO_962000, HO_962001, HO_970000, HO_970001, BK939, BK954, BK961, BK969, HB⟩ := hcut
      cases kq with
      | zero => exact absurd HA.out (by simp [laws_FnExactUnturnSurface.j0])
      | succ kj10 =>
        have H := HA.out
        clear HA
        simp only [laws_FnExactUnturnSurface.j0] at H
        by_cases c59 : x40_10 = true
        · subst c59
          have H1 : (some false) = some true := by rw [if_pos rfl] at H; exact H
          clear H
          have H := H1
          clear H1
          exact absurd H (by simp)
        · replace c59 := Bool.eq_false_iff.mpr c59
          subst c59
          have H1 : ((laws_toSurface.f kj10 l0_0 l0_1).bind fun bt971 => ((laws_eqSurface.f kj10 t955 t958 bt971.1 bt971.2).bind fun t977 => (if t977 = true then ((laws_markSurface.f kj10 t955 t958 1).bind fun bt978 => (if bt978.1 < 0 then (laws_FnExactUnturnSurface.j1 kj10 t953 true l0_0 l0_1 t947 t950 t962 t965) else ((laws_eqSurface.f kj10 t962 t965 t947 t950).bind fun t981 => (if t981 = true then (laws_FnExactUnturnSurface.j1 kj10 t953 (t968 != t953) l0_0 l0_1 t947 t950 t962 t965) else (laws_FnExactUnturnSurface.j1 kj10 t953 true l0_0 l0_1 t947 t950 t962 t965))))) else (some false)))) = some true := by rw [if_neg (show ¬ (false = true) by decide)] at H; exact H
          clear H
          have H := H1
          clear H1
          replace H := Option.bind_eq_some_iff.mp H
          obtain ⟨⟨t971, t974⟩, A600, H⟩ := H
          replace H : ((laws_eqSurface.f kj10 t955 t958 t971 t974).bind fun t977 => (if t977 = true then ((laws_markSurface.f kj10 t955 t958 1).bind fun bt978 => (if bt978.1 < 0 then (laws_FnExactUnturnSurface.j1 kj10 t953 true l0_0 l0_1 t947 t950 t962 t965) else ((laws_eqSurface.f kj10 t962 t965 t947 t950).bind fun t981 => (if t981 = true then (laws_FnExactUnturnSurface.j1 kj10 t953 (t968 != t953) l0_0 l0_1 t947 t950 t962 t965) else (laws_FnExactUnturnSurface.j1 kj10 t953 true l0_0 l0_1 t947 t950 t962 t965))))) else (some false))) = some true := H
          have A60 := Aside0.mk A600
          clear A600
          replace H := Option.bind_eq_some_iff.mp H
          obtain ⟨t977, A610, H⟩ := H
          replace H : (if t977 = true then ((laws_markSurface.f kj10 t955 t958 1).bind fun bt978 => (if bt978.1 < 0 then (laws_FnExactUnturnSurface.j1 kj10 t953 true l0_0 l0_1 t947 t950 t962 t965) else ((laws_eqSurface.f kj10 t962 t965 t947 t950).bind fun t981 => (if t981 = true then (laws_FnExactUnturnSurface.j1 kj10 t953 (t968 != t953) l0_0 l0_1 t947 t950 t962 t965) else (laws_FnExactUnturnSurface.j1 kj10 t953 true l0_0 l0_1 t947 t950 t962 t965))))) else (some false)) = some true := H
          have A61 := Aside0.mk A610
          clear A610
          by_cases c62 : t977 = true
          · subst c62
            have H1 : ((laws_markSurface.f kj10 t955 t958 1).bind fun bt978 => (if bt978.1 < 0 then (laws_FnExactUnturnSurface.j1 kj10 t953 true l0_0 l0_1 t947 t950 t962 t965) else ((laws_eqSurface.f kj10 t962 t965 t947 t950).bind fun t981 => (if t981 = true then (laws_FnExactUnturnSurface.j1 kj10 t953 (t968 != t953) l0_0 l0_1 t947 t950 t962 t965) else (laws_FnExactUnturnSurface.j1 kj10 t953 true l0_0 l0_1 t947 t950 t962 t965))))) = some true := by rw [if_pos rfl] at H; exact H
            clear H
            have H := H1
            clear H1
            replace H := Option.bind_eq_some_iff.mp H
            obtain ⟨⟨t978, t979, t980⟩, A630, H⟩ := H
            replace H : (if t978 < 0 then (laws_FnExactUnturnSurface.j1 kj10 t953 true l0_0 l0_1 t947 t950 t962 t965) else ((laws_eqSurface.f kj10 t962 t965 t947 t950).bind fun t981 => (if t981 = true then (laws_FnExactUnturnSurface.j1 kj10 t953 (t968 != t953) l0_0 l0_1 t947 t950 t962 t965) else (laws_FnExactUnturnSurface.j1 kj10 t953 true l0_0 l0_1 t947 t950 t962 t965)))) = some true := H
            have A63 := Aside0.mk A630
            clear A630
            have HC64 := Aside0.mk H
            clear H
            try go_wp2
            have n0_ := Aside0.mk (Kd.R_drew HO_955000.out)
            have n1_ := Aside0.mk (Kd.R_drew HO_955001.out)
            have n2_ := Aside0.mk (Kd.R_drew HO_962000.out)
            have n3_ := Aside0.mk (Kd.R_drew HO_962001.out)
            have n4_ := Aside0.mk (Kd.R_drew HO_970000.out)
            have n5_ := Aside0.mk (Kd.R_drew HO_970001.out)
            have n6_ := Aside0.mk (blk_drew BK939.out)
            have n7_ := Aside0.mk (blk_drew BK954.out)
            have n8_ := Aside0.mk (blk_drew BK961.out)
            have n9_ := Aside0.mk (blk_drew BK969.out)
            have n10_ := Aside0.mk (below_drew1 HB.out)
            clear HO_955000 HO_955001 HO_962000 HO_962001 HO_970000 HO_970001 BK939 BK954 BK961 BK969 HB
            have HO_955000 := n0_
            have HO_955001 := n1_
            have HO_962000 := n2_
            have HO_962001 := n3_
            have HO_970000 := n4_
            have HO_970001 := n5_
            have BK939 := n6_
            have BK954 := n7_
            have BK961 := n8_
            have BK969 := n9_
            have HB := n10_
            clear n0_ n1_ n2_ n3_ n4_ n5_ n6_ n7_ n8_ n9_ n10_
            refine start_ (n := 5) (S := fun w' => w'.cell? ⟨gb961, 0, none⟩ = some (.slice Ao28 t955.length co28) ∧ w'.cell? ⟨gb961, 1, none⟩ = some (.slice Ao32 t958.length co32) ∧ w'.cell? ⟨gb939, 0, none⟩ = some (.slice A0_0 l0_0.length c0_0) ∧ w'.cell? ⟨gb939, 1, none⟩ = some (.slice A0_1 l0_1.length c0_1)) (ds := []) #[false, false, false, false, false] (by kernel_rfl) rfl rfl ⟨(blk_cell BK961.out 0).trans rfl, (blk_cell BK961.out 1).trans rfl, (blk_cell BK939.out 0).trans rfl, (blk_cell BK939.out 1).trans rfl⟩ (fun hHeld => ?_)
            generalize wc.drew = w65 at HO_955000 HO_955001 HO_962000 HO_962001 HO_970000 HO_970001 BK939 BK954 BK961 BK969 HB hHeld ⊢
            refine take_ (i := 0) (N := some 41) (v := ?_) (a' := ?_) #[true, false, false, false, false] rfl rfl (by kernel_rfl) (fun _ _ _ h => h) (Or.inl ⟨by rfl, ?_⟩) hHeld ?_ ?_
            rotate_left
            · rintro w' ⟨s0, s1, s2, s3⟩
              go_simp
              with_reducible rfl
            rotate_left
            · simp only [Act.put, List.setIfInBounds_toArray, List.set_cons_zero, List.set_cons_succ, i64_w, i32_w]
              rfl
            refine take_ (i := 1) (N := some 42) (v := ?_) (a' := ?_) #[true, true, false, false, false] rfl rfl (by kernel_rfl) (fun _ _ _ h => h) (Or.inl ⟨by rfl, ?_⟩) hHeld ?_ ?_
            rotate_left
            · rintro w' ⟨s0, s1, s2, s3⟩
              go_simp
              with_reducible rfl
            rotate_left
            · simp only [Act.put, List.setIfInBounds_toArray, List.set_cons_zero, List.set_cons_succ, i64_w, i32_w]
              rfl
            refine one_ (i := 2) (N := some 43) #[true, true, true, false, false] rfl rfl (by kernel_rfl) (by decide) (fun K hK => ?_)
            refine goes_ Try.func17 (by kernel_rfl) rfl #[.agg #[.slice A0_0 l0_0.length c0_0, .slice A0_1 l0_1.length c0_1]] (by rfl) rfl rfl (by (try simp only [List.map_toArray, List.map_cons, List.map_nil]); first | done | rfl | (simp only [List.length_drop, List.length_take]; rfl)) ?_
            with_reducible refine (laws_toSurface.calls kj10 _ _ l0_0 _ _ l0_1 t971 t974 _ ?side1 ?side2 ?side3 ?side4 A60.out).mono ?_
            (case side1 => repeat (first | exact (Kd.C_below HR0_0.out HB.out) | (with_reducible refine Kd.C_alloc ?_ _) | (with_reducible refine Kd.C_drewN ?_ _) | (with_reducible refine Kd.C_drew ?_)))
            (case side2 => exact HC0_0.out)
            (case side3 => repeat (first | exact (Kd.C_below HR0_1.out HB.out) | (with_reducible refine Kd.C_alloc ?_ _) | (with_reducible refine Kd.C_drewN ?_ _) | (with_reducible refine Kd.C_drew ?_)))
            (case side4 => exact HC0_1.out)
            rintro e w66 ⟨v972, v975, rfl, ho0, ho1, hb⟩
            refine ⟨_, rfl, ?_⟩
            have n0_ := Aside0.mk (Kd.R_mono (Kd.R_told (Kd.R_told (Kd.R_old (by (with_reducible repeat (first | apply Kd.R_alloc | apply Kd.R_drewN | apply Kd.R_drew)); exact HO_955000.out) hb) (Kd.R_base ho0)) (Kd.R_base ho1)) (fun _ h_ => h_.1))
            have n1_ := Aside0.mk (Kd.R_mono (Kd.R_told (Kd.R_told (Kd.R_old (by (with_reducible repeat (first | apply Kd.R_alloc | apply Kd.R_drewN | apply Kd.R_drew)); exact HO_955001.out) hb) (Kd.R_base ho0)) (Kd.R_base ho1)) (fun _ h_ => h_.1))
            have n2_ := Aside0.mk (Kd.R_mono (Kd.R_told (Kd.R_told (Kd.R_old (by (with_reducible repeat (first | apply Kd.R_alloc | apply Kd.R_drewN | apply Kd.R_drew)); exact HO_962000.out) hb) (Kd.R_base ho0)) (Kd.R_base ho1)) (fun _ h_ => h_.1))
            have n3_ := Aside0.mk (Kd.R_mono (Kd.R_told (Kd.R_told (Kd.R_old (by (with_reducible repeat (first | apply Kd.R_alloc | apply Kd.R_drewN | apply Kd.R_drew)); exact HO_962001.out) hb) (Kd.R_base ho0)) (Kd.R_base ho1)) (fun _ h_ => h_.1))
            have n4_ := Aside0.mk (Kd.R_mono (Kd.R_told (Kd.R_told (Kd.R_old (by (with_reducible repeat (first | apply Kd.R_alloc | apply Kd.R_drewN | apply Kd.R_drew)); exact HO_970000.out) hb) (Kd.R_base ho0)) (Kd.R_base ho1)) (fun _ h_ => h_.1))
            have n5_ := Aside0.mk (Kd.R_mono (Kd.R_told (Kd.R_told (Kd.R_old (by (with_reducible repeat (first | apply Kd.R_alloc | apply Kd.R_drewN | apply Kd.R_drew)); exact HO_970001.out) hb) (Kd.R_base ho0)) (Kd.R_base ho1)) (fun _ h_ => h_.1))
            have n6_ := Aside0.mk (Kd.R_lower (Kd.R_new' (Kd.R_new' (Kd.R_new' (Kd.R_new' (Kd.R_new' (Kd.R_new' ho0 (Kd.R_lt (by (with_reducible repeat (first | apply Kd.R_alloc | apply Kd.R_drewN | apply Kd.R_drew)); exact HO_955000.out))) (Kd.R_lt (by (with_reducible repeat (first | apply Kd.R_alloc | apply Kd.R_drewN | apply Kd.R_drew)); exact HO_955001.out))) (Kd.R_lt (by (with_reducible repeat (first | apply Kd.R_alloc | apply Kd.R_drewN | apply Kd.R_drew)); exact HO_962000.out))) (Kd.R_lt (by (with_reducible repeat (first | apply Kd.R_alloc | apply Kd.R_drewN | apply Kd.R_drew)); exact HO_962001.out))) (Kd.R_lt (by (with_reducible repeat (first | apply Kd.R_alloc | apply Kd.R_drewN | apply Kd.R_drew)); exact HO_970000.out))) (Kd.R_lt (by (with_reducible repeat (first | apply Kd.R_alloc | apply Kd.R_drewN | apply Kd.R_drew)); exact HO_970001.out))) (below_size (by repeat (first | (with_reducible first | exact HB.out | apply below_alloc | apply pw_below_drewN | apply below_drew1 | refine below_set ?_ GE939.out | refine below_set ?_ GE954.out | refine below_set ?_ GE961.out | refine below_set ?_ GE969.out) | exact HB.out))))
            have n7_ := Aside0.mk (Kd.R_lower (Kd.R_new' (Kd.R_new' (Kd.R_new' (Kd.R_new' (Kd.R_new' (Kd.R_new' ho1 (Kd.R_lt (by (with_reducible repeat (first | apply Kd.R_alloc | apply Kd.R_drewN | apply Kd.R_drew)); exact HO_955000.out))) (Kd.R_lt (by (with_reducible repeat (first | apply Kd.R_alloc | apply Kd.R_drewN | apply Kd.R_drew)); exact HO_955001.out))) (Kd.R_lt (by (with_reducible repeat (first | apply Kd.R_alloc | apply Kd.R_drewN | apply Kd.R_drew)); exact HO_962000.out))) (Kd.R_lt (by (with_reducible repeat (first | apply Kd.R_alloc | apply Kd.R_drewN | apply Kd.R_drew)); exact HO_962001.out))) (Kd.R_lt (by (with_reducible repeat (first | apply Kd.R_alloc | apply Kd.R_drewN | apply Kd.R_drew)); exact HO_970000.out))) (Kd.R_lt (by (with_reducible repeat (first | apply Kd.R_alloc | apply Kd.R_drewN | apply Kd.R_drew)); exact HO_970001.out))) (below_size (by repeat (first | (with_reducible first | exact HB.out | apply below_alloc | apply pw_below_drewN | apply below_drew1 | refine below_set ?_ GE939.out | refine below_set ?_ GE954.out | refine below_set ?_ GE961.out | refine below_set ?_ GE969.out) | exact HB.out))))
            have n8_ := Aside0.mk (blk_below (g := gb939) (o := .cells #[.slice A0_0 l0_0.length c0_0, .slice A0_1 l0_1.length c0_1] 24 (0, 0)) (by (with_reducible repeat (first | refine blk_drewN ?_ _ | refine blk_drew ?_ | refine blk_alloc ?_ _)); exact BK939.out) hb)
            have n9_ := Aside0.mk (blk_below (g := gb954) (o := .cells #[.slice Ao21 t947.length co21, .slice Ao24 t950.length co24] 27 (0, 0)) (by (with_reducible repeat (first | refine blk_drewN ?_ _ | refine blk_drew ?_ | refine blk_alloc ?_ _)); exact BK954.out) hb)
            have n10_ := Aside0.mk (blk_below (g := gb961) (o := .cells #[.slice Ao28 t955.length co28, .slice Ao32 t958.length co32] 27 (0, 0)) (by (with_reducible repeat (first | refine blk_drewN ?_ _ | refine blk_drew ?_ | refine blk_alloc ?_ _)); exact BK961.out) hb)
            have n11_ := Aside0.mk (blk_below (g := gb969) (o := .cells #[.slice Ao35 t962.length co35, .slice Ao40 t965.length co40] 27 (0, 0)) (by (with_reducible repeat (first | refine blk_drewN ?_ _ | refine blk_drew ?_ | refine blk_alloc ?_ _)); exact BK969.out) hb)
            have n12_ := Aside0.mk (below_step (by repeat (first | (with_reducible first | exact HB.out | apply below_alloc | apply pw_below_drewN | apply below_drew1 | refine below_set ?_ GE939.out | refine below_set ?_ GE954.out | refine below_set ?_ GE961.out | refine below_set ?_ GE969.out) | exact HB.out)) hb)
            clear HO_955000 HO_955001 HO_962000 HO_962001 HO_970000 HO_970001 BK939 BK954 BK961 BK969 HB
            have HO_955000 := n0_
            have HO_955001 := n1_
            have HO_962000 := n2_
            have HO_962001 := n3_
            have HO_970000 := n4_
            have HO_970001 := n5_
            have HO973 := n6_
            have HO976 := n7_
            have BK939 := n8_
            have BK954 := n9_
            have BK961 := n10_
            have BK969 := n11_
            have HB := n12_
            clear n0_ n1_ n2_ n3_ n4_ n5_ n6_ n7_ n8_ n9_ n10_ n11_ n12_
            (try clear hb)
            (try clear hb2)
            (try clear hk)
            (try clear hi)
            (try clear ho0)
            (try clear ho1)
            obtain ⟨Ao67, co67, eo67⟩ := Kd.R_slice HO973.out
            (first | subst eo67 | (injection eo67 with f1_ f2_ f3_; have f4_ := f1_.symm; have f5_ := f3_.symm; clear f1_ f2_ f3_; subst f4_; subst f5_))
            obtain ⟨Ao68, co68, eo68⟩ := Kd.R_slice HO976.out
            (first | subst eo68 | (injection eo68 with f1_ f2_ f3_; have f4_ := f1_.symm; have f5_ := f3_.symm; clear f1_ f2_ f3_; subst f4_; subst f5_))
            refine hK.out _ _ ⟨(blk_cell BK961.out 0).trans rfl, (blk_cell BK961.out 1).trans rfl, (blk_cell BK939.out 0).trans rfl, (blk_cell BK939.out 1).trans rfl⟩ (fun hHeld => ?_)
            clear hK K
            refine norm_ (a' := ?_) ?_ ?_
            rotate_left
            · show Act.put _ (some 43) _ = _
              simp only [Act.put, List.setIfInBounds_toArray, List.set_cons_zero, List.set_cons_succ, i64_w, i32_w]
              rfl
            refine one_ (i := 3) (N := some 44) #[true, true, true, true, false] rfl rfl (by kernel_rfl) (by decide) (fun K hK => ?_)
            refine goes_ Try.func19 (by kernel_rfl) rfl #[.agg #[.slice Ao28 t955.length co28, .slice Ao32 t958.length co32], .agg #[.slice Ao67 t971.length co67, .slice Ao68 t974.length co68]] (by rfl) rfl rfl (by (try simp only [List.map_toArray, List.map_cons, List.map_nil]); first | done | rfl | (simp only [List.length_drop, List.length_take]; rfl)) ?_
            with_reducible refine (laws_eqSurface.calls kj10 _ _ t955 _ _ t958 _ _ t971 _ _ t974 true _ ?side1 ?side2 ?side3 ?side4 ?side5 ?side6 ?side7 ?side8 A61.out).mono ?_
            (case side1 => repeat (first | exact (Kd.R_reads' HO_962000.out).2.2 | (with_reducible refine Kd.C_alloc ?_ _) | (with_reducible refine Kd.C_drewN ?_ _) | (with_reducible refine Kd.C_drew ?_)))
            (case side2 => exact (Kd.R_reads' HO_962000.out).2.1)
            (case side3 => repeat (first | exact (Kd.R_reads' HO_962001.out).2.2 | (with_reducible refine Kd.C_alloc ?_ _) | (with_reducible refine Kd.C_drewN ?_ _) | (with_reducible refine Kd.C_drew ?_)))
            (case side4 => exact (Kd.R_reads' HO_962001.out).2.1)
            (case side5 => repeat (first | exact (Kd.R_reads' HO973.out).2.2 | (with_reducible refine Kd.C_alloc ?_ _) | (with_reducible refine Kd.C_drewN ?_ _) | (with_reducible refine Kd.C_drew ?_)))
            (case side6 => exact (Kd.R_reads' HO973.out).2.1)
            (case side7 => repeat (first | exact (Kd.R_reads' HO976.out).2.2 | (with_reducible refine Kd.C_alloc ?_ _) | (with_reducible refine Kd.C_drewN ?_ _) | (with_reducible refine Kd.C_drew ?_)))
            (case side8 => exact (Kd.R_reads' HO976.out).2.1)
            rintro e w69 ⟨rfl, hb⟩
            refine ⟨_, rfl, ?_⟩
            have n0_ := Aside0.mk (Kd.R_below (by (with_reducible repeat (first | apply Kd.R_alloc | apply Kd.R_drewN | apply Kd.R_drew)); exact HO_955000.out) hb)
            have n1_ := Aside0.mk (Kd.R_below (by (with_reducible repeat (first | apply Kd.R_alloc | apply Kd.R_drewN | apply Kd.R_drew)); exact HO_955001.out) hb)
            have n2_ := Aside0.mk (Kd.R_below (by (with_reducible repeat (first | apply Kd.R_alloc | apply Kd.R_drewN | apply Kd.R_drew)); exact HO_962000.out) hb)
            have n3_ := Aside0.mk (Kd.R_below (by (with_reducible repeat (first | apply Kd.R_alloc | apply Kd.R_drewN | apply Kd.R_drew)); exact HO_962001.out) hb)
            have n4_ := Aside0.mk (Kd.R_below (by (with_reducible repeat (first | apply Kd.R_alloc | apply Kd.R_drewN | apply Kd.R_drew)); exact HO_970000.out) hb)
            have n5_ := Aside0.mk (Kd.R_below (by (with_reducible repeat (first | apply Kd.R_alloc | apply Kd.R_drewN | apply Kd.R_drew)); exact HO_970001.out) hb)
            have n6_ := Aside0.mk (Kd.R_below (by (with_reducible repeat (first | apply Kd.R_alloc | apply Kd.R_drewN | apply Kd.R_drew)); exact HO973.out) hb)
            have n7_ := Aside0.mk (Kd.R_below (by (with_reducible repeat (first | apply Kd.R_alloc | apply Kd.R_drewN | apply Kd.R_drew)); exact HO976.out) hb)
            have n8_ := Aside0.mk (blk_below (g := gb939) (o := .cells #[.slice A0_0 l0_0.length c0_0, .slice A0_1 l0_1.length c0_1] 24 (0, 0)) (by (with_reducible repeat (first | refine blk_drewN ?_ _ | refine blk_drew ?_ | refine blk_alloc ?_ _)); exact BK939.out) hb)
            have n9_ := Aside0.mk (blk_below (g := gb954) (o := .cells #[.slice Ao21 t947.length co21, .slice Ao24 t950.length co24] 27 (0, 0)) (by (with_reducible repeat (first | refine blk_drewN ?_ _ | refine blk_drew ?_ | refine blk_alloc ?_ _)); exact BK954.out) hb)
            have n10_ := Aside0.mk (blk_below (g := gb961) (o := .cells #[.slice Ao28 t955.length co28, .slice Ao32 t958.length co32] 27 (0, 0)) (by (with_reducible repeat (first | refine blk_drewN ?_ _ | refine blk_drew ?_ | refine blk_alloc ?_ _)); exact BK961.out) hb)
            have n11_ := Aside0.mk (blk_below (g := gb969) (o := .cells #[.slice Ao35 t962.length co35, .slice Ao40 t965.length co40] 27 (0, 0)) (by (with_reducible repeat (first | refine blk_drewN ?_ _ | refine blk_drew ?_ | refine blk_alloc ?_ _)); exact BK969.out) hb)
            have n12_ := Aside0.mk (below_step (by repeat (first | (with_reducible first | exact HB.out | apply below_alloc | apply pw_below_drewN | apply below_drew1 | refine below_set ?_ GE939.out | refine below_set ?_ GE954.out | refine below_set ?_ GE961.out | refine below_set ?_ GE969.out) | exact HB.out)) hb)
            clear HO_955000 HO_955001 HO_962000 HO_962001 HO_970000 HO_970001 HO973 HO976 BK939 BK954 BK961 BK969 HB
            have HO_955000 := n0_
            have HO_955001 := n1_
            have HO_962000 := n2_
            have HO_962001 := n3_
            have HO_970000 := n4_
            have HO_970001 := n5_
            have HO973 := n6_
            have HO976 := n7_
            have BK939 := n8_
            have BK954 := n9_
            have BK961 := n10_
            have BK969 := n11_
            have HB := n12_
            clear n0_ n1_ n2_ n3_ n4_ n5_ n6_ n7_ n8_ n9_ n10_ n11_ n12_
            (try clear hb)
            (try clear hb2)
            (try clear hk)
            (try clear hi)
            refine hK.out _ _ ⟨(blk_cell BK961.out 0).trans rfl, (blk_cell BK961.out 1).trans rfl, (blk_cell BK939.out 0).trans rfl, (blk_cell BK939.out 1).trans rfl⟩ (fun hHeld => ?_)
            clear hK K
            refine norm_ (a' := ?_) ?_ ?_
            rotate_left
            · show Act.put _ (some 44) _ = _
              simp only [Act.put, List.setIfInBounds_toArray, List.set_cons_zero, List.set_cons_succ, i64_w, i32_w]
              rfl
            refine pure_ (i := 4) (N := some 45) (v := ?_) (a' := ?_) #[true, true, true, true, true] rfl rfl (by kernel_rfl) (fun _ _ _ h => h) (Or.inl ⟨by rfl, ?_⟩) ?_ ?_
            rotate_left
            · intro w'
              go_simp
              with_reducible rfl
            rotate_left
            · simp only [Act.put, List.setIfInBounds_toArray, List.set_cons_zero, List.set_cons_succ, i64_w, i32_w]
              rfl
            refine done_ (by kernel_rfl) ?_
            have hnb70 := NB961_939.out
            have hnc70 := NB939_961.out
            have hnb71 := NB961_954.out
            have hnc71 := NB954_961.out
            have hnb72 := NB961_969.out
            have hnc72 := NB969_961.out
            have hcz73_0 : w69.cell? ⟨gb961, 0, none⟩ = some (.slice Ao28 t955.length co28) := (blk_cell BK961.out 0).trans rfl
            have hcz73_1 : w69.cell? ⟨gb961, 1, none⟩ = some (.slice Ao32 t958.length co32) := (blk_cell BK961.out 1).trans rfl
            have hfz73_0 := blk_frozen BK961.out 0
            have hfz73_1 := blk_frozen BK961.out 1
            go_upto_region 14 with (first | ((with_reducible refine gate_callee (f := 42) rfl ?_); refine goesL_ (some 48) rfl rfl Try.func42 (by kernel_rfl) rfl #[.agg #[.slice Ao28 t955.length co28, .slice Ao32 t958.length co32], .int .i64 1] rfl (by (try simp only [List.map_toArray, List.map_cons, List.map_nil]); first | done | rfl | (simp only [List.length_drop, List.length_take]; rfl)) ?_; (with_reducible refine (laws_markSurface.calls kj10 (fun k_ => some k_ = (.slice Ao28 t955.length co28 : Value).ownBlock) (.slice Ao28 t955.length co28) t955 (fun k_ => some k_ = (.slice Ao32 t958.length co32 : Value).ownBlock) (.slice Ao32 t958.length co32) t958 1 t978 t979 t980 w _ ?side1 ?side2 ?side3 ?side4 ?side5 A63.out).mono ?_); (case side1 => repeat (first | (with_reducible first | exact HB.out | apply below_alloc | apply pw_below_drewN | apply below_drew1 | refine below_set ?_ GE939.out | refine below_set ?_ GE954.out | refine below_set ?_ GE961.out | refine below_set ?_ GE969.out) | exact HB.out)); (case side2 => exact Kd.R_tight rfl HO_962000.out); (case side3 => exact fun k_ e_ => (HO_962000.out.1 k_ e_.symm).1.1.2.2.1); (case side4 => exact Kd.R_tight rfl HO_962001.out); (case side5 => exact fun k_ e_ => (HO_962001.out.1 k_ e_.symm).1.1.2.2.1); rintro e w74 ⟨rfl, hy0, hy1, hb, hkp⟩; refine ⟨_, rfl, ?_⟩; have n0_ := Aside0.mk (Kd.R_mono (ok' := fun k_ => some k_ ≠ (.slice Ao24 t950.length co24 : Value).ownBlock ∧ some k_ ≠ (.slice Ao28 t955.length co28 : Value).ownBlock ∧ some k_ ≠ (.slice Ao32 t958.length co32 : Value).ownBlock ∧ some k_ ≠ (.slice Ao35 t962.length co35 : Value).ownBlock ∧ some k_ ≠ (.slice Ao40 t965.length co40 : Value).ownBlock ∧ some k_ ≠ (.slice Ao67 t971.length co67 : Value).ownBlock ∧ some k_ ≠ (.slice Ao68 t974.length co68 : Value).ownBlock) (Kd.R_keptB (HO_955000.out) hkp (fun k_ hk_ hs_ => Or.elim hs_ (fun e_ => (hk_.1.1.2.1) e_) (fun e_ => (hk_.1.1.2.2.1) e_))) (fun k_ hk_ => ⟨hk_.1.1.1.1, hk_.1.1.1.2.1, hk_.1.1.1.2.2.1, hk_.1.1.1.2.2.2.1, hk_.1.1.1.2.2.2.2, hk_.1.1.2, hk_.1.2⟩)); have n1_ := Aside0.mk (Kd.R_mono (ok' := fun k_ => some k_ ≠ (.slice Ao21 t947.length co21 : Value).ownBlock ∧ some k_ ≠ (.slice Ao28 t955.length co28 : Value).ownBlock ∧ some k_ ≠ (.slice Ao32 t958.length co32 : Value).ownBlock ∧ some k_ ≠ (.slice Ao35 t962.length co35 : Value).ownBlock ∧ some k_ ≠ (.slice Ao40 t965.length co40 : Value).ownBlock ∧ some k_ ≠ (.slice Ao67 t971.length co67 : Value).ownBlock ∧ some k_ ≠ (.slice Ao68 t974.length co68 : Value).ownBlock) (Kd.R_keptB (HO_955001.out) hkp (fun k_ hk_ hs_ => Or.elim hs_ (fun e_ => (hk_.1.1.2.1) e_) (fun e_ => (hk_.1.1.2.2.1) e_))) (fun k_ hk_ => ⟨hk_.1.1.1.1, hk_.1.1.1.2.1, hk_.1.1.1.2.2.1, hk_.1.1.1.2.2.2.1, hk_.1.1.1.2.2.2.2, hk_.1.1.2, hk_.1.2⟩)); have n2_ := Aside0.mk (Kd.R_reok rfl hy0 (fun k_ e_ => HO_962000.out.1 k_ e_)); have n3_ := Aside0.mk (Kd.R_reok rfl hy1 (fun k_ e_ => HO_962001.out.1 k_ e_)); have n4_ := Aside0.mk (Kd.R_mono (ok' := fun k_ => some k_ ≠ (.slice Ao21 t947.length co21 : Value).ownBlock ∧ some k_ ≠ (.slice Ao24 t950.length co24 : Value).ownBlock ∧ some k_ ≠ (.slice Ao28 t955.length co28 : Value).ownBlock ∧ some k_ ≠ (.slice Ao32 t958.length co32 : Value).ownBlock ∧ some k_ ≠ (.slice Ao40 t965.length co40 : Value).ownBlock ∧ some k_ ≠ (.slice Ao67 t971.length co67 : Value).ownBlock ∧ some k_ ≠ (.slice Ao68 t974.length co68 : Value).ownBlock) (Kd.R_keptB (HO_970000.out) hkp (fun k_ hk_ hs_ => Or.elim hs_ (fun e_ => (hk_.1.1.2.2.1) e_) (fun e_ => (hk_.1.1.2.2.2.1) e_))) (fun k_ hk_ => ⟨hk_.1.1.1.1, hk_.1.1.1.2.1, hk_.1.1.1.2.2.1, hk_.1.1.1.2.2.2.1, hk_.1.1.1.2.2.2.2, hk_.1.1.2, hk_.1.2⟩)); have n5_ := Aside0.mk (Kd.R_mono (ok' := fun k_ => some k_ ≠ (.slice Ao21 t947.length co21 : Value).ownBlock ∧ some k_ ≠ (.slice Ao24 t950.length co24 : Value).ownBlock ∧ some k_ ≠ (.slice Ao28 t955.length co28 : Value).ownBlock ∧ some k_ ≠ (.slice Ao32 t958.length co32 : Value).ownBlock ∧ some k_ ≠ (.slice Ao35 t962.length co35 : Value).ownBlock ∧ some k_ ≠ (.slice Ao67 t971.length co67 : Value).ownBlock ∧ some k_ ≠ (.slice Ao68 t974.length co68 : Value).ownBlock) (Kd.R_keptB (HO_970001.out) hkp (fun k_ hk_ hs_ => Or.elim hs_ (fun e_ => (hk_.1.1.2.2.1) e_) (fun e_ => (hk_.1.1.2.2.2.1) e_))) (fun k_ hk_ => ⟨hk_.1.1.1.1, hk_.1.1.1.2.1, hk_.1.1.1.2.2.1, hk_.1.1.1.2.2.2.1, hk_.1.1.1.2.2.2.2, hk_.1.1.2, hk_.1.2⟩)); have n6_ := Aside0.mk (blk_kept (by (with_reducible repeat (first | refine blk_drewN ?_ _ | refine blk_drew ?_ | refine blk_alloc ?_ _)); exact BK939.out) hkp (fun hs_ => Or.elim hs_ (fun e_ => (fun e_ => (Kd.R_ne HO_962000.out BK939.out (by decide)) e_) e_) (fun e_ => (fun e_ => (Kd.R_ne HO_962001.out BK939.out (by decide)) e_) e_))); have n7_ := Aside0.mk (blk_kept (by (with_reducible repeat (first | refine blk_drewN ?_ _ | refine blk_drew ?_ | refine blk_alloc ?_ _)); exact BK954.out) hkp (fun hs_ => Or.elim hs_ (fun e_ => (fun e_ => (Kd.R_ne HO_962000.out BK954.out (by decide)) e_) e_) (fun e_ => (fun e_ => (Kd.R_ne HO_962001.out BK954.out (by decide)) e_) e_))); have n8_ := Aside0.mk (blk_kept (by (with_reducible repeat (first | refine blk_drewN ?_ _ | refine blk_drew ?_ | refine blk_alloc ?_ _)); exact BK961.out) hkp (fun hs_ => Or.elim hs_ (fun e_ => (fun e_ => (Kd.R_ne HO_962000.out BK961.out (by decide)) e_) e_) (fun e_ => (fun e_ => (Kd.R_ne HO_962001.out BK961.out (by decide)) e_) e_))); have n9_ := Aside0.mk (blk_kept (by (with_reducible repeat (first | refine blk_drewN ?_ _ | refine blk_drew ?_ | refine blk_alloc ?_ _)); exact BK969.out) hkp (fun hs_ => Or.elim hs_ (fun e_ => (fun e_ => (Kd.R_ne HO_962000.out BK969.out (by decide)) e_) e_) (fun e_ => (fun e_ => (Kd.R_ne HO_962001.out BK969.out (by decide)) e_) e_))); have n10_ := Aside0.mk (Kd.R_mono (ok' := fun k_ => some k_ ≠ (.slice Ao21 t947.length co21 : Value).ownBlock ∧ some k_ ≠ (.slice Ao24 t950.length co24 : Value).ownBlock ∧ some k_ ≠ (.slice Ao28 t955.length co28 : Value).ownBlock ∧ some k_ ≠ (.slice Ao32 t958.length co32 : Value).ownBlock ∧ some k_ ≠ (.slice Ao35 t962.length co35 : Value).ownBlock ∧ some k_ ≠ (.slice Ao40 t965.length co40 : Value).ownBlock ∧ some k_ ≠ (.slice Ao68 t974.length co68 : Value).ownBlock) (Kd.R_keptB (HO973.out) hkp (fun k_ hk_ hs_ => Or.elim hs_ (fun e_ => (hk_.1.1.1.2) e_) (fun e_ => (hk_.1.1.2) e_))) (fun k_ hk_ => ⟨hk_.1.1.1.1.1.1.2, hk_.1.1.1.1.1.2, hk_.1.1.1.1.2, hk_.1.1.1.2, hk_.1.1.2, hk_.1.2, hk_.1.1.1.1.1.1.1⟩)); have n11_ := Aside0.mk (Kd.R_mono (ok' := fun k_ => some k_ ≠ (.slice Ao21 t947.length co21 : Value).ownBlock ∧ some k_ ≠ (.slice Ao24 t950.length co24 : Value).ownBlock ∧ some k_ ≠ (.slice Ao28 t955.length co28 : Value).ownBlock ∧ some k_ ≠ (.slice Ao32 t958.length co32 : Value).ownBlock ∧ some k_ ≠ (.slice Ao35 t962.length co35 : Value).ownBlock ∧ some k_ ≠ (.slice Ao40 t965.length co40 : Value).ownBlock ∧ some k_ ≠ (.slice Ao67 t971.length co67 : Value).ownBlock) (Kd.R_keptB (HO976.out) hkp (fun k_ hk_ hs_ => Or.elim hs_ (fun e_ => (hk_.1.1.1.2) e_) (fun e_ => (hk_.1.1.2) e_))) (fun k_ hk_ => ⟨hk_.1.1.1.1.1.1.2, hk_.1.1.1.1.1.2, hk_.1.1.1.1.2, hk_.1.1.1.2, hk_.1.1.2, hk_.1.2, hk_.1.1.1.1.1.1.1⟩)); have n12_ := Aside0.mk (hb); clear HO_955000; clear HO_955001; clear HO_962000; clear HO_962001; clear HO_970000; clear HO_970001; clear BK939; clear BK954; clear BK961; clear BK969; clear HO973; clear HO976; clear HB; have HO_955000 := n0_; have HO_955001 := n1_; have HO_962000 := n2_; have HO_962001 := n3_; have HO_970000 := n4_; have HO_970001 := n5_; have BK939 := n6_; have BK954 := n7_; have BK961 := n8_; have BK969 := n9_; have HO973 := n10_; have HO976 := n11_; have HB := n12_; clear n0_ n1_ n2_ n3_ n4_ n5_ n6_ n7_ n8_ n9_ n10_ n11_ n12_; (try clear hb); (try clear hkp); (try clear hy0); (try clear hy1)))
            (try simp only [Act.put, List.setIfInBounds_toArray, List.set_cons_zero, List.set_cons_succ])
            go_cut [61] (fun v61 wc => ∃ (kq : Nat) (x61_63 : Bool), v61 = .bool x61_63 ∧ Aside0 (laws_FnExactUnturnSurface.j1 kq t953 x61_63 l0_0 l0_1 t947 t950 t962 t965 = some true) ∧ Aside0 (kq ≤ kj10) ∧ Aside0 (Kd.R (Kd.int .i64) 3 wc w.heap.size (fun k_ => some k_ ≠ ((.slice Ao24 t950.length co24) : Value).ownBlock ∧ some k_ ≠ ((.slice Ao28 t955.length co28) : Value).ownBlock ∧ some k_ ≠ ((.slice Ao32 t958.length co32) : Value).ownBlock ∧ some k_ ≠ ((.slice Ao35 t962.length co35) : Value).ownBlock ∧ some k_ ≠ ((.slice Ao40 t965.length co40) : Value).ownBlock) (.slice Ao21 t947.length co21) t947) ∧ Aside0 (Kd.R (Kd.int .i64) 3 wc w.heap.size (fun k_ => some k_ ≠ ((.slice Ao21 t947.length co21) : Value).ownBlock ∧ some k_ ≠ ((.slice Ao28 t955.length co28) : Value).ownBlock ∧ some k_ ≠ ((.slice Ao32 t958.length co32) : Value).ownBlock ∧ some k_ ≠ ((.slice Ao35 t962.length co35) : Value).ownBlock ∧ some k_ ≠ ((.slice Ao40 t965.length co40) : Value).ownBlock) (.slice Ao24 t950.length co24) t950) ∧ Aside0 (Kd.R (Kd.int .i64) 3 wc w.heap.size (fun k_ => some k_ ≠ ((.slice Ao21 t947.length co21) : Value).ownBlock ∧ some k_ ≠ ((.slice Ao24 t950.length co24) : Value).ownBlock ∧ some k_ ≠ ((.slice Ao32 t958.length co32) : Value).ownBlock ∧ some k_ ≠ ((.slice Ao35 t962.length co35) : Value).ownBlock ∧ some k_ ≠ ((.slice Ao40 t965.length co40) : Value).ownBlock) (.slice Ao28 t955.length co28) t979) ∧ Aside0 (Kd.R (Kd.int .i64) 3 wc w.heap.size (fun k_ => some k_ ≠ ((.slice Ao21 t947.length co21) : Value).ownBlock ∧ some k_ ≠ ((.slice Ao24 t950.length co24) : Value).ownBlock ∧ some k_ ≠ ((.slice Ao28 t955.length co28) : Value).ownBlock ∧ some k_ ≠ ((.slice Ao35 t962.length co35) : Value).ownBlock ∧ some k_ ≠ ((.slice Ao40 t965.length co40) : Value).ownBlock) (.slice Ao32 t958.length co32) t980) ∧ Aside0 (Kd.R (Kd.int .i64) 3 wc w.heap.size (fun k_ => some k_ ≠ ((.slice Ao21 t947.length co21) : Value).ownBlock ∧ some k_ ≠ ((.slice Ao24 t950.length co24) : Value).ownBlock ∧ some k_ ≠ ((.slice Ao28 t955.length co28) : Value).ownBlock ∧ some k_ ≠ ((.slice Ao32 t958.length co32) : Value).ownBlock ∧ some k_ ≠ ((.slice Ao40 t965.length co40) : Value).ownBlock) (.slice Ao35 t962.length co35) t962) ∧ Aside0 (Kd.R (Kd.int .i64) 3 wc w.heap.size (fun k_ => some k_ ≠ ((.slice Ao21 t947.length co21) : Value).ownBlock ∧ some k_ ≠ ((.slice Ao24 t950.length co24) : Value).ownBlock ∧ some k_ ≠ ((.slice Ao28 t955.length co28) : Value).ownBlock ∧ some k_ ≠ ((.slice Ao32 t958.length co32) : Value).ownBlock ∧ some k_ ≠ ((.slice Ao35 t962.length co35) : Value).ownBlock) (.slice Ao40 t965.length co40) t965) ∧ Aside0 (wc.heap[gb939]? = some (.cells #[(.slice A0_0 l0_0.length c0_0), (.slice A0_1 l0_1.length c0_1)] 24 (0, 0))) ∧ Aside0 (wc.heap[gb954]? = some (.cells #[(.slice Ao21 t947.length co21), (.slice Ao24 t950.length co24)] 27 (0, 0))) ∧ Aside0 (wc.heap[gb961]? = some (.cells #[(.slice Ao28 t955.length co28), (.slice Ao32 t958.length co32)] 27 (0, 0))) ∧ Aside0 (wc.heap[gb969]? = some (.cells #[(.slice Ao35 t962.length co35), (.slice Ao40 t965.length co40)] 27 (0, 0))) ∧ Aside0 (Below w.heap.size w wc))
            case first =>
              have H := HC64.out
              clear HC64
              by_cases c75 : t978 < 0
              · rw [if_pos c75] at H
                have c75b0 : decide (t978 < 0) = true := decide_eq_true c75
                clear c75
                (first | rw [c75b0] | (simp only [i64_w, i32_w]; rw [c75b0]) | skip)
                exact absurd H (by cases kj10 <;> simp [laws_FnExactUnturnSurface.j1])
              · rw [if_neg c75] at H
                have c75b0 : decide (t978 < 0) = false := decide_eq_false c75
                clear c75
                (first | rw [c75b0] | (simp only [i64_w, i32_w]; rw [c75b0]) | skip)
                replace H := Option.bind_eq_some_iff.mp H
                obtain ⟨t981, A760, H⟩ := H
                replace H : (if t981 = true then (laws_FnExactUnturnSurface.j1 kj10 t953 (t968 != t953) l0_0 l0_1 t947 t950 t962 t965) else (laws_FnExactUnturnSurface.j1 kj10 t953 true l0_0 l0_1 t947 t950 t962 t965)) = some true := H
                have A76 := Aside0.mk A760
                clear A760
                by_cases c77 : t981 = true
                · subst c77
                  have H1 : (laws_FnExactUnturnSurface.j1 kj10 t953 (t968 != t953) l0_0 l0_1 t947 t950 t962 t965) = some true := by rw [if_pos rfl] at H; exact H
                  clear H
                  have H := H1
                  clear H1
                  have H' := Aside0.mk H
                  clear H
                  have hnb78 := NB969_939.out
                  have hnc78 := NB939_969.out
                  have hnb79 := NB969_954.out
                  have hnc79 := NB954_969.out
                  have hnb80 := NB969_961.out
                  have hnc80 := NB961_969.out
                  have hcz81_0 : w74.cell? ⟨gb969, 0, none⟩ = some (.slice Ao35 t962.length co35) := (blk_cell BK969.out 0).trans rfl
                  have hcz81_1 : w74.cell? ⟨gb969, 1, none⟩ = some (.slice Ao40 t965.length co40) := (blk_cell BK969.out 1).trans rfl
                  have hfz81_0 := blk_frozen BK969.out 0
                  have hfz81_1 := blk_frozen BK969.out 1
                  have hnb82 := NB954_939.out
                  have hnc82 := NB939_954.out
                  have hnb83 := NB954_961.out
                  have hnc83 := NB961_954.out
                  have hcz84_0 : w74.cell? ⟨gb954, 0, none⟩ = some (.slice Ao21 t947.length co21) := (blk_cell BK954.out 0).trans rfl
                  have hcz84_1 : w74.cell? ⟨gb954, 1, none⟩ = some (.slice Ao24 t950.length co24) := (blk_cell BK954.out 1).trans rfl
                  have hfz84_0 := blk_frozen BK954.out 0
                  have hfz84_1 := blk_frozen BK954.out 1
                  go_wp2_with (first | (go_at_call 19; (with_reducible refine (laws_eqSurface.calls kj10 _ _ t962 _ _ t965 _ _ t947 _ _ t950 true _ ?side1 ?side2 ?side3 ?side4 ?side5 ?side6 ?side7 ?side8 A76.out).mono ?_); (case side1 => repeat (first | exact (Kd.R_reads' HO_970000.out).2.2 | (with_reducible refine Kd.C_alloc ?_ _) | (with_reducible refine Kd.C_drewN ?_ _) | (with_reducible refine Kd.C_drew ?_))); (case side2 => exact (Kd.R_reads' HO_970000.out).2.1); (case side3 => repeat (first | exact (Kd.R_reads' HO_970001.out).2.2 | (with_reducible refine Kd.C_alloc ?_ _) | (with_reducible refine Kd.C_drewN ?_ _) | (with_reducible refine Kd.C_drew ?_))); (case side4 => exact (Kd.R_reads' HO_970001.out).2.1); (case side5 => repeat (first | exact (Kd.R_reads' HO_955000.out).2.2 | (with_reducible refine Kd.C_alloc ?_ _) | (with_reducible refine Kd.C_drewN ?_ _) | (with_reducible refine Kd.C_drew ?_))); (case side6 => exact (Kd.R_reads' HO_955000.out).2.1); (case side7 => repeat (first | exact (Kd.R_reads' HO_955001.out).2.2 | (with_reducible refine Kd.C_alloc ?_ _) | (with_reducible refine Kd.C_drewN ?_ _) | (with_reducible refine Kd.C_drew ?_))); (case side8 => exact (Kd.R_reads' HO_955001.out).2.1); rintro e w85 ⟨rfl, hb⟩; have n0_ := Aside0.mk (Kd.R_below (by (with_reducible repeat (first | apply Kd.R_alloc | apply Kd.R_drewN | apply Kd.R_drew)); exact HO_955000.out) hb); have n1_ := Aside0.mk (Kd.R_below (by (with_reducible repeat (first | apply Kd.R_alloc | apply Kd.R_drewN | apply Kd.R_drew)); exact HO_955001.out) hb); have n2_ := Aside0.mk (Kd.R_below (by (with_reducible repeat (first | apply Kd.R_alloc | apply Kd.R_drewN | apply Kd.R_drew)); exact HO_962000.out) hb); have n3_ := Aside0.mk (Kd.R_below (by (with_reducible repeat (first | apply Kd.R_alloc | apply Kd.R_drewN | apply Kd.R_drew)); exact HO_962001.out) hb); have n4_ := Aside0.mk (Kd.R_below (by (with_reducible repeat (first | apply Kd.R_alloc | apply Kd.R_drewN | apply Kd.R_drew)); exact HO_970000.out) hb); have n5_ := Aside0.mk (Kd.R_below (by (with_reducible repeat (first | apply Kd.R_alloc | apply Kd.R_drewN | apply Kd.R_drew)); exact HO_970001.out) hb); have n6_ := Aside0.mk (Kd.R_below (by (with_reducible repeat (first | apply Kd.R_alloc | apply Kd.R_drewN | apply Kd.R_drew)); exact HO973.out) hb); have n7_ := Aside0.mk (Kd.R_below (by (with_reducible repeat (first | apply Kd.R_alloc | apply Kd.R_drewN | apply Kd.R_drew)); exact HO976.out) hb); have n8_ := Aside0.mk (blk_below (g := gb939) (o := .cells #[.slice A0_0 l0_0.length c0_0, .slice A0_1 l0_1.length c0_1] 24 (0, 0)) (by (with_reducible repeat (first | refine blk_drewN ?_ _ | refine blk_drew ?_ | refine blk_alloc ?_ _)); exact BK939.out) hb); have n9_ := Aside0.mk (blk_below (g := gb954) (o := .cells #[.slice Ao21 t947.length co21, .slice Ao24 t950.length co24] 27 (0, 0)) (by (with_reducible repeat (first | refine blk_drewN ?_ _ | refine blk_drew ?_ | refine blk_alloc ?_ _)); exact BK954.out) hb); have n10_ := Aside0.mk (blk_below (g := gb961) (o := .cells #[.slice Ao28 t955.length co28, .slice Ao32 t958.length co32] 27 (0, 0)) (by (with_reducible repeat (first | refine blk_drewN ?_ _ | refine blk_drew ?_ | refine blk_alloc ?_ _)); exact BK961.out) hb); have n11_ := Aside0.mk (blk_below (g := gb969) (o := .cells #[.slice Ao35 t962.length co35, .slice Ao40 t965.length co40] 27 (0, 0)) (by (with_reducible repeat (first | refine blk_drewN ?_ _ | refine blk_drew ?_ | refine blk_alloc ?_ _)); exact BK969.out) hb); have n12_ := Aside0.mk (below_step (by repeat (first | (with_reducible first | exact HB.out | apply below_alloc | apply pw_below_drewN | apply below_drew1 | refine below_set ?_ GE939.out | refine below_set ?_ GE954.out | refine below_set ?_ GE961.out | refine below_set ?_ GE969.out) | exact HB.out)) hb); clear HO_955000; clear HO_955001; clear HO_962000; clear HO_962001; clear HO_970000; clear HO_970001; clear HO973; clear HO976; clear BK939; clear BK954; clear BK961; clear BK969; clear HB; have HO_955000 := n0_; have HO_955001 := n1_; have HO_962000 := n2_; have HO_962001 := n3_; have HO_970000 := n4_; have HO_970001 := n5_; have HO973 := n6_; have HO976 := n7_; have BK939 := n8_; have BK954 := n9_; have BK961 := n10_; have BK969 := n11_; have HB := n12_; clear n0_ n1_ n2_ n3_ n4_ n5_ n6_ n7_ n8_ n9_ n10_ n11_ n12_; (try clear hb); (try clear hb2); (try clear hk); (try clear hi)))
                  go_meet
                  case rel => exact ⟨_, ((t968 != t953)), (by first | rfl | (simp; done) | (simp [*]; done)), H', ⟨by have := HJ10.out; first | omega | exact Nat.le_refl _⟩, ⟨by (with_reducible repeat (first | apply Kd.R_alloc | apply Kd.R_drewN | apply Kd.R_drew)); exact Kd.R_mono HO_955000.out (fun _ hk => ⟨hk.1, ⟨hk.2.1, ⟨hk.2.2.1, ⟨hk.2.2.2.1, hk.2.2.2.2.1⟩⟩⟩⟩)⟩, ⟨by (with_reducible repeat (first | apply Kd.R_alloc | apply Kd.R_drewN | apply Kd.R_drew)); exact Kd.R_mono HO_955001.out (fun _ hk => ⟨hk.1, ⟨hk.2.1, ⟨hk.2.2.1, ⟨hk.2.2.2.1, hk.2.2.2.2.1⟩⟩⟩⟩)⟩, ⟨by (with_reducible repeat (first | apply Kd.R_alloc | apply Kd.R_drewN | apply Kd.R_drew)); exact Kd.R_mono HO_962000.out (fun _ hk => ⟨hk.1.1.1, ⟨hk.1.1.2.1, ⟨hk.1.1.2.2.1, ⟨hk.1.1.2.2.2.1, hk.1.1.2.2.2.2⟩⟩⟩⟩)⟩, ⟨by (with_reducible repeat (first | apply Kd.R_alloc | apply Kd.R_drewN | apply Kd.R_drew)); exact Kd.R_mono HO_962001.out (fun _ hk => ⟨hk.1.1.1, ⟨hk.1.1.2.1, ⟨hk.1.1.2.2.1, ⟨hk.1.1.2.2.2.1, hk.1.1.2.2.2.2⟩⟩⟩⟩)⟩, ⟨by (with_reducible repeat (first | apply Kd.R_alloc | apply Kd.R_drewN | apply Kd.R_drew)); exact Kd.R_mono HO_970000.out (fun _ hk => ⟨hk.1, ⟨hk.2.1, ⟨hk.2.2.1, ⟨hk.2.2.2.1, hk.2.2.2.2.1⟩⟩⟩⟩)⟩, ⟨by (with_reducible repeat (first | apply Kd.R_alloc | apply Kd.R_drewN | apply Kd.R_drew)); exact Kd.R_mono HO_970001.out (fun _ hk => ⟨hk.1, ⟨hk.2.1, ⟨hk.2.2.1, ⟨hk.2.2.2.1, hk.2.2.2.2.1⟩⟩⟩⟩)⟩, ⟨by (with_reducible repeat (first | refine blk_drewN ?_ _ | refine blk_drew ?_ | refine blk_alloc ?_ _)); exact BK939.out⟩, ⟨by (with_reducible repeat (first | refine blk_drewN ?_ _ | refine blk_drew ?_ | refine blk_alloc ?_ _)); exact BK954.out⟩, ⟨by (with_reducible repeat (first | refine blk_drewN ?_ _ | refine blk_drew ?_ | refine blk_alloc ?_ _)); exact BK961.out⟩, ⟨by (with_reducible repeat (first | refine blk_drewN ?_ _ | refine blk_drew ?_ | refine blk_alloc ?_ _)); exact BK969.out⟩, ⟨by repeat (first | (with_reducible first | exact HB.out | apply below_alloc | apply pw_below_drewN | apply below_drew1 | refine below_set ?_ GE939.out | refine below_set ?_ GE954.out | refine below_set ?_ GE961.out | refine below_set ?_ GE969.out) | exact HB.out)⟩⟩
                · replace c77 := Bool.eq_false_iff.mpr c77
                  subst c77
                  have H1 : (laws_FnExactUnturnSurface.j1 kj10 t953 true l0_0 l0_1 t947 t950 t962 t965) = some true := by rw [if_neg (show ¬ (false = true) by decide)] at H; exact H
                  clear H
                  have H := H1
                  clear H1
                  exact absurd H (by cases kj10 <;> simp [laws_FnExactUnturnSurface.j1])
            case rest =>
              clear HC64
              try clear c1
              try clear c2
              try clear p2
              try clear c3
              try clear c3b0
              try clear c4
              try clear c5
              try clear c6
              try clear c7
              try clear c8
              try clear c9
              try clear c12
              try clear c15
              try clear c17
              try clear c19
              try clear c22
              try clear c29
              try clear c30
              try clear c36
              try clear c37
              try clear c38
              try clear c42
              try clear c43
              try clear c44
              try clear c45
              try clear c47
              try clear c48
              try clear c51
              try clear c52
              try clear c53
              try clear c55
              try clear c56
              try clear c59
              try clear c62
              try clear c70
              try clear c71
              try clear c72
              try clear c75
              try clear c75b0
              try clear c77
              try clear c78
              try clear c79
              try clear c80
              try clear c82
              try clear c83
              try clear c86
              try clear c87
              try clear c88
              try clear c90
              try clear c91
              try clear hcz13_0
              try clear hcz13_1
              try clear hcz15_0
              try clear hcz15_1
              try clear hcz23_0
              try clear hcz23_1
              try clear hcz25_0
              try clear hcz25_1
              try clear hcz31_0
              try clear hcz31_1
              try clear hcz39_0
              try clear hcz39_1
              try clear hcz46_0
              try clear hcz46_1
              try clear hcz49_0
              try clear hcz49_1
              try clear hcz54_0
              try clear hcz54_1
              try clear hcz57_0
              try clear hcz57_1
              try clear hcz5_0
              try clear hcz5_1
              try clear hcz73_0
              try clear hcz73_1
              try clear hcz81_0
              try clear hcz81_1
              try clear hcz84_0
              try clear hcz84_1
              try clear hcz89_0
              try clear hcz89_1
              try clear hcz92_0
              try clear hcz92_1
              try clear hfz13_0
              try clear hfz13_1
              try clear hfz15_0
              try clear hfz15_1
              try clear hfz23_0
              try clear hfz23_1
              try clear hfz25_0
              try clear hfz25_1
              try clear hfz31_0
              try clear hfz31_1
              try clear hfz39_0
              try clear hfz39_1
              try clear hfz46_0
              try clear hfz46_1
              try clear hfz49_0
              try clear hfz49_1
              try clear hfz54_0
              try clear hfz54_1
              try clear hfz57_0
              try clear hfz57_1
              try clear hfz5_0
              try clear hfz5_1
              try clear hfz73_0
              try clear hfz73_1
              try clear hfz81_0
              try clear hfz81_1
              try clear hfz84_0
              try clear hfz84_1
              try clear hfz89_0
              try clear hfz89_1
              try clear hfz92_0
              try clear hfz92_1
              try clear p2
              obtain ⟨kq, x61_63, rfl, HA, HJ63, HO_955000, HO_955001, HO_962000, HO_962001, HO_970000, HO_970001, BK939, BK954, BK961, BK969, HB⟩ := hcut
              have hl962000_63 := (Kd.R_reads' HO_962000.out).1
              rw [hl962000_63] at HO_962000
              (try simp only [hl962000_63])
              (try simp only [hl962000_63] at BK939)
              (try simp only [hl962000_63] at BK954)
              (try simp only [hl962000_63] at BK961)
              (try simp only [hl962000_63] at BK969)
              (try simp only [hl962000_63] at HO_955000)
              (try simp only [hl962000_63] at HO_955001)
              (try simp only [hl962000_63] at HO_962001)
              (try simp only [hl962000_63] at HO_970000)
              (try simp only [hl962000_63] at HO_970001)
              have hl962001_63 := (Kd.R_reads' HO_962001.out).1
              rw [hl962001_63] at HO_962001
              (try simp only [hl962001_63])
              (try simp only [hl962001_63] at BK939)
              (try simp only [hl962001_63] at BK954)
              (try simp only [hl962001_63] at BK961)
              (try simp only [hl962001_63] at BK969)
              (try simp only [hl962001_63] at HO_955000)
              (try simp only [hl962001_63] at HO_955001)
              (try simp only [hl962001_63] at HO_962000)
              (try simp only [hl962001_63] at HO_970000)
              (try simp only [hl962001_63] at HO_970001)
              cases kq with
              | zero => exact absurd HA.out (by simp [laws_FnExactUnturnSurface.j1])
              | succ kj63 =>
                have H := HA.out
                clear HA
                simp only [laws_FnExactUnturnSurface.j1] at H
                by_cases c94 : x61_63 = true
                · subst c94
                  have H1 : (some false) = some true := by rw [if_pos rfl] at H; exact H
                  clear H
                  have H := H1
                  clear H1
                  exact absurd H (by simp)
                · replace c94 := Bool.eq_false_iff.mpr c94
                  subst c94
                  have H1 : ((laws_markSurface.f kj63 t962 t965 1).bind fun bt982 => ((laws_heldSurface.f kj63 bt982.2.1 bt982.2.2 1).bind fun t985 => (if t985 < 0 then (some false) else (if t985 = bt982.1 then ((laws_toSurface.f kj63 l0_0 l0_1).bind fun bt986 => ((impl_UnturnSurface.f kj63 bt986.1 bt986.2).bind fun bt992 => ((laws_eqSurface.f kj63 bt992.1 bt992.2.1 t947 t950).bind fun t1000 => (if t1000 = true then (laws_FnExactUnturnSurface.j2 kj63 bt982.1 (bt992.2.2 != t953) bt982.2.1 bt982.2.2) else (laws_FnExactUnturnSurface.j2 kj63 bt982.1 true bt982.2.1 bt982.2.2))))) else (some false))))) = some true := by rw [if_neg (show ¬ (false = true) by decide)] at H; exact H
                  clear H
                  have H := H1
                  clear H1
                  replace H := Option.bind_eq_some_iff.mp H
                  obtain ⟨⟨t982, t983, t984⟩, A950, H⟩ := H
                  replace H : ((laws_heldSurface.f kj63 t983 t984 1).bind fun t985 => (if t985 < 0 then (some false) else (if t985 = t982 then ((laws_toSurface.f kj63 l0_0 l0_1).bind fun bt986 => ((impl_UnturnSurface.f kj63 bt986.1 bt986.2).bind fun bt992 => ((laws_eqSurface.f kj63 bt992.1 bt992.2.1 t947 t950).bind fun t1000 => (if t1000 = true then (laws_FnExactUnturnSurface.j2 kj63 t982 (bt992.2.2 != t953) t983 t984) else (laws_FnExactUnturnSurface.j2 kj63 t982 true t983 t984))))) else (some false)))) = some true := H
                  have A95 := Aside0.mk A950
                  clear A950
                  replace H := Option.bind_eq_some_iff.mp H
                  obtain ⟨t985, A960, H⟩ := H
                  replace H : (if t985 < 0 then (some false) else (if t985 = t982 then ((laws_toSurface.f kj63 l0_0 l0_1).bind fun bt986 => ((impl_UnturnSurface.f kj63 bt986.1 bt986.2).bind fun bt992 => ((laws_eqSurface.f kj63 bt992.1 bt992.2.1 t947 t950).bind fun t1000 => (if t1000 = true then (laws_FnExactUnturnSurface.j2 kj63 t982 (bt992.2.2 != t953) t983 t984) else (laws_FnExactUnturnSurface.j2 kj63 t982 true t983 t984))))) else (some false))) = some true := H
                  have A96 := Aside0.mk A960
                  clear A960
                  by_cases c97 : t985 < 0
                  · rw [if_pos c97] at H
                    have c97b0 : decide (t985 < 0) = true := decide_eq_true c97
                    clear c97
                    exact absurd H (by simp)
                  · rw [if_neg c97] at H
                    have c97b0 : decide (t985 < 0) = false := decide_eq_false c97
                    clear c97
                    by_cases c105 : t985 = t982
                    · rw [if_pos c105] at H
                      have c105b0 : (t985 == t982) = true := beq_iff_eq.mpr c105
                      have c105b1 : (t985 != t982) = false := bne_eq_false_iff_eq.mpr c105
                      clear c105
                      replace H := Option.bind_eq_some_iff.mp H
                      obtain ⟨⟨t986, t989⟩, A1060, H⟩ := H
                      replace H : ((impl_UnturnSurface.f kj63 t986 t989).bind fun bt992 => ((laws_eqSurface.f kj63 bt992.1 bt992.2.1 t947 t950).bind fun t1000 => (if t1000 = true then (laws_FnExactUnturnSurface.j2 kj63 t982 (bt992.2.2 != t953) t983 t984) else (laws_FnExactUnturnSurface.j2 kj63 t982 true t983 t984)))) = some true := H
                      have A106 := Aside0.mk A1060
                      clear A1060
                      replace H := Option.bind_eq_some_iff.mp H
                      obtain ⟨⟨t992, t995, t998⟩, A1070, H⟩ := H
                      replace H : ((laws_eqSurface.f kj63 t992 t995 t947 t950).bind fun t1000 => (if t1000 = true then (laws_FnExactUnturnSurface.j2 kj63 t982 (t998 != t953) t983 t984) else (laws_FnExactUnturnSurface.j2 kj63 t982 true t983 t984))) = some true := H
                      have A107 := Aside0.mk A1070
                      clear A1070
                      have HC108 := Aside0.mk H
                      clear H
                      have hnb109 := NB969_939.out
                      have hnc109 := NB939_969.out
                      have hnb110 := NB969_954.out
                      have hnc110 := NB954_969.out
                      have hnb111 := NB969_961.out
                      have hnc111 := NB961_969.out
                      have hcz112_0 : wc.cell? ⟨gb969, 0, none⟩ = some (.slice Ao35 t962.length co35) := (blk_cell BK969.out 0).trans rfl
                      have hcz112_1 : wc.cell? ⟨gb969, 1, none⟩ = some (.slice Ao40 t965.length co40) := (blk_cell BK969.out 1).trans rfl
                      have hfz112_0 := blk_frozen BK969.out 0
                      have hfz112_1 := blk_frozen BK969.out 1
                      go_upto_region 25 with (first | ((with_reducible refine gate_callee (f := 42) rfl ?_); refine goesL_ (some 64) rfl rfl Try.func42 (by kernel_rfl) rfl #[.agg #[.slice Ao35 t962.length co35, .slice Ao40 t965.length co40], .int .i64 1] rfl (by (try simp only [List.map_toArray, List.map_cons, List.map_nil]); first | done | rfl | (simp only [List.length_drop, List.length_take]; rfl)) ?_; (with_reducible refine (laws_markSurface.calls kj63 (fun k_ => some k_ = (.slice Ao35 t962.length co35 : Value).ownBlock) (.slice Ao35 t962.length co35) t962 (fun k_ => some k_ = (.slice Ao40 t965.length co40 : Value).ownBlock) (.slice Ao40 t965.length co40) t965 1 t982 t983 t984 w _ ?side1 ?side2 ?side3 ?side4 ?side5 A95.out).mono ?_); (case side1 => repeat (first | (with_reducible first | exact HB.out | apply below_alloc | apply pw_below_drewN | apply below_drew1 | refine below_set ?_ GE939.out | refine below_set ?_ GE954.out | refine below_set ?_ GE961.out | refine below_set ?_ GE969.out) | exact HB.out)); (case side2 => exact Kd.R_tight rfl HO_970000.out); (case side3 => exact fun k_ e_ => (HO_970000.out.1 k_ e_.symm).2.2.2.2); (case side4 => exact Kd.R_tight rfl HO_970001.out); (case side5 => exact fun k_ e_ => (HO_970001.out.1 k_ e_.symm).2.2.2.2); rintro e w113 ⟨rfl, hy0, hy1, hb, hkp⟩; refine ⟨_, rfl, ?_⟩; have n0_ := Aside0.mk (Kd.R_mono (ok' := fun k_ => some k_ ≠ (.slice Ao24 t950.length co24 : Value).ownBlock ∧ some k_ ≠ (.slice Ao28 t979.length co28 : Value).ownBlock ∧ some k_ ≠ (.slice Ao32 t980.length co32 : Value).ownBlock ∧ some k_ ≠ (.slice Ao35 t962.length co35 : Value).ownBlock ∧ some k_ ≠ (.slice Ao40 t965.length co40 : Value).ownBlock) (Kd.R_keptB (HO_955000.out) hkp (fun k_ hk_ hs_ => Or.elim hs_ (fun e_ => (hk_.2.2.2.1) e_) (fun e_ => (hk_.2.2.2.2) e_))) (fun k_ hk_ => ⟨hk_.1.1, hk_.1.2.1, hk_.1.2.2.1, hk_.1.2.2.2.1, hk_.1.2.2.2.2⟩)); have n1_ := Aside0.mk (Kd.R_mono (ok' := fun k_ => some k_ ≠ (.slice Ao21 t947.length co21 : Value).ownBlock ∧ some k_ ≠ (.slice Ao28 t979.length co28 : Value).ownBlock ∧ some k_ ≠ (.slice Ao32 t980.length co32 : Value).ownBlock ∧ some k_ ≠ (.slice Ao35 t962.length co35 : Value).ownBlock ∧ some k_ ≠ (.slice Ao40 t965.length co40 : Value).ownBlock) (Kd.R_keptB (HO_955001.out) hkp (fun k_ hk_ hs_ => Or.elim hs_ (fun e_ => (hk_.2.2.2.1) e_) (fun e_ => (hk_.2.2.2.2) e_))) (fun k_ hk_ => ⟨hk_.1.1, hk_.1.2.1, hk_.1.2.2.1, hk_.1.2.2.2.1, hk_.1.2.2.2.2⟩)); have n2_ := Aside0.mk (Kd.R_mono (ok' := fun k_ => some k_ ≠ (.slice Ao21 t947.length co21 : Value).ownBlock ∧ some k_ ≠ (.slice Ao24 t950.length co24 : Value).ownBlock ∧ some k_ ≠ (.slice Ao32 t980.length co32 : Value).ownBlock ∧ some k_ ≠ (.slice Ao35 t962.length co35 : Value).ownBlock ∧ some k_ ≠ (.slice Ao40 t965.length co40 : Value).ownBlock) (Kd.R_keptB (HO_962000.out) hkp (fun k_ hk_ hs_ => Or.elim hs_ (fun e_ => (hk_.2.2.2.1) e_) (fun e_ => (hk_.2.2.2.2) e_))) (fun k_ hk_ => ⟨hk_.1.1, hk_.1.2.1, hk_.1.2.2.1, hk_.1.2.2.2.1, hk_.1.2.2.2.2⟩)); have n3_ := Aside0.mk (Kd.R_mono (ok' := fun k_ => some k_ ≠ (.slice Ao21 t947.length co21 : Value).ownBlock ∧ some k_ ≠ (.slice Ao24 t950.length co24 : Value).ownBlock ∧ some k_ ≠ (.slice Ao28 t979.length co28 : Value).ownBlock ∧ some k_ ≠ (.slice Ao35 t962.length co35 : Value).ownBlock ∧ some k_ ≠ (.slice Ao40 t965.length co40 : Value).ownBlock) (Kd.R_keptB (HO_962001.out) hkp (fun k_ hk_ hs_ => Or.elim hs_ (fun e_ => (hk_.2.2.2.1) e_) (fun e_ => (hk_.2.2.2.2) e_))) (fun k_ hk_ => ⟨hk_.1.1, hk_.1.2.1, hk_.1.2.2.1, hk_.1.2.2.2.1, hk_.1.2.2.2.2⟩)); have n4_ := Aside0.mk (Kd.R_reok rfl hy0 (fun k_ e_ => HO_970000.out.1 k_ e_)); have n5_ := Aside0.mk (Kd.R_reok rfl hy1 (fun k_ e_ => HO_970001.out.1 k_ e_)); have n6_ := Aside0.mk (blk_kept (by (with_reducible repeat (first | refine blk_drewN ?_ _ | refine blk_drew ?_ | refine blk_alloc ?_ _)); exact BK939.out) hkp (fun hs_ => Or.elim hs_ (fun e_ => (fun e_ => (Kd.R_ne HO_970000.out BK939.out (by decide)) e_) e_) (fun e_ => (fun e_ => (Kd.R_ne HO_970001.out BK939.out (by decide)) e_) e_))); have n7_ := Aside0.mk (blk_kept (by (with_reducible repeat (first | refine blk_drewN ?_ _ | refine blk_drew ?_ | refine blk_alloc ?_ _)); exact BK954.out) hkp (fun hs_ => Or.elim hs_ (fun e_ => (fun e_ => (Kd.R_ne HO_970000.out BK954.out (by decide)) e_) e_) (fun e_ => (fun e_ => (Kd.R_ne HO_970001.out BK954.out (by decide)) e_) e_))); have n8_ := Aside0.mk (blk_kept (by (with_reducible repeat (first | refine blk_drewN ?_ _ | refine blk_drew ?_ | refine blk_alloc ?_ _)); exact BK961.out) hkp (fun hs_ => Or.elim hs_ (fun e_ => (fun e_ => (Kd.R_ne HO_970000.out BK961.out (by decide)) e_) e_) (fun e_ => (fun e_ => (Kd.R_ne HO_970001.out BK961.out (by decide)) e_) e_))); have n9_ := Aside0.mk (blk_kept (by (with_reducible repeat (first | refine blk_drewN ?_ _ | refine blk_drew ?_ | refine blk_alloc ?_ _)); exact BK969.out) hkp (fun hs_ => Or.elim hs_ (fun e_ => (fun e_ => (Kd.R_ne HO_970000.out BK969.out (by decide)) e_) e_) (fun e_ => (fun e_ => (Kd.R_ne HO_970001.out BK969.out (by decide)) e_) e_))); have n10_ := Aside0.mk (hb); clear HO_955000; clear HO_955001; clear HO_962000; clear HO_962001; clear HO_970000; clear HO_970001; clear BK939; clear BK954; clear BK961; clear BK969; clear HB; have HO_955000 := n0_; have HO_955001 := n1_; have HO_962000 := n2_; have HO_962001 := n3_; have HO_970000 := n4_; have HO_970001 := n5_; have BK939 := n6_; have BK954 := n7_; have BK961 := n8_; have BK969 := n9_; have HB := n10_; clear n0_ n1_ n2_ n3_ n4_ n5_ n6_ n7_ n8_ n9_ n10_; (try clear hb); (try clear hkp); (try clear hy0); (try clear hy1); have hcz114_0 : w113.cell? ⟨gb969, 0, none⟩ = some (.slice Ao35 t962.length co35) := (blk_cell BK969.out 0).trans rfl; have hcz114_1 : w113.cell? ⟨gb969, 1, none⟩ = some (.slice Ao40 t965.length co40) := (blk_cell BK969.out 1).trans rfl; have hfz114_0 := blk_frozen BK969.out 0; have hfz114_1 := blk_frozen BK969.out 1) | ((with_reducible refine gate_callee (f := 46) rfl ?_); refine goesL_ (some 67) rfl rfl Try.func46 (by kernel_rfl) rfl #[.agg #[.slice Ao35 t983.length co35, .slice Ao40 t984.length co40], .int .i64 1] rfl (by (try simp only [List.map_toArray, List.map_cons, List.map_nil]); first | done | (rw [show t983.length = t962.length from (Kd.R_reads' HO_970000.out).1.symm, show t984.length = t965.length from (Kd.R_reads' HO_970001.out).1.symm] <;> rfl) | rfl | (simp only [List.length_drop, List.length_take]; rfl)) ?_; (with_reducible refine (laws_heldSurface.calls kj63 _ _ t983 _ _ t984 1 t985 _ ?side1 ?side2 ?side3 ?side4 A96.out).mono ?_); (case side1 => repeat (first | exact (Kd.R_reads' HO_970000.out).2.2 | (with_reducible refine Kd.C_alloc ?_ _) | (with_reducible refine Kd.C_drewN ?_ _) | (with_reducible refine Kd.C_drew ?_))); (case side2 => rw [show t983.length = t962.length from (Kd.R_reads' HO_970000.out).1.symm]; exact (Kd.R_reads' HO_970000.out).2.1); (case side3 => repeat (first | exact (Kd.R_reads' HO_970001.out).2.2 | (with_reducible refine Kd.C_alloc ?_ _) | (with_reducible refine Kd.C_drewN ?_ _) | (with_reducible refine Kd.C_drew ?_))); (case side4 => rw [show t984.length = t965.length from (Kd.R_reads' HO_970001.out).1.symm]; exact (Kd.R_reads' HO_970001.out).2.1); rintro e w115 ⟨rfl, hb⟩; refine ⟨_, rfl, ?_⟩; have n0_ := Aside0.mk (Kd.R_below (by (with_reducible repeat (first | apply Kd.R_alloc | apply Kd.R_drewN | apply Kd.R_drew)); exact HO_955000.out) hb); have n1_ := Aside0.mk (Kd.R_below (by (with_reducible repeat (first | apply Kd.R_alloc | apply Kd.R_drewN | apply Kd.R_drew)); exact HO_955001.out) hb); have n2_ := Aside0.mk (Kd.R_below (by (with_reducible repeat (first | apply Kd.R_alloc | apply Kd.R_drewN | apply Kd.R_drew)); exact HO_962000.out) hb); have n3_ := Aside0.mk (Kd.R_below (by (with_reducible repeat (first | apply Kd.R_alloc | apply Kd.R_drewN | apply Kd.R_drew)); exact HO_962001.out) hb); have n4_ := Aside0.mk (Kd.R_below (by (with_reducible repeat (first | apply Kd.R_alloc | apply Kd.R_drewN | apply Kd.R_drew)); exact HO_970000.out) hb); have n5_ := Aside0.mk (Kd.R_below (by (with_reducible repeat (first | apply Kd.R_alloc | apply Kd.R_drewN | apply Kd.R_drew)); exact HO_970001.out) hb); have n6_ := Aside0.mk (blk_below (g := gb939) (o := .cells #[.slice A0_0 l0_0.length c0_0, .slice A0_1 l0_1.length c0_1] 24 (0, 0)) (by (with_reducible repeat (first | refine blk_drewN ?_ _ | refine blk_drew ?_ | refine blk_alloc ?_ _)); exact BK939.out) hb); have n7_ := Aside0.mk (blk_below (g := gb954) (o := .cells #[.slice Ao21 t947.length co21, .slice Ao24 t950.length co24] 27 (0, 0)) (by (with_reducible repeat (first | refine blk_drewN ?_ _ | refine blk_drew ?_ | refine blk_alloc ?_ _)); exact BK954.out) hb); have n8_ := Aside0.mk (blk_below (g := gb961) (o := .cells #[.slice Ao28 t979.length co28, .slice Ao32 t980.length co32] 27 (0, 0)) (by (with_reducible repeat (first | refine blk_drewN ?_ _ | refine blk_drew ?_ | refine blk_alloc ?_ _)); exact BK961.out) hb); have n9_ := Aside0.mk (blk_below (g := gb969) (o := .cells #[.slice Ao35 t962.length co35, .slice Ao40 t965.length co40] 27 (0, 0)) (by (with_reducible repeat (first | refine blk_drewN ?_ _ | refine blk_drew ?_ | refine blk_alloc ?_ _)); exact BK969.out) hb); have n10_ := Aside0.mk (below_step (by repeat (first | (with_reducible first | exact HB.out | apply below_alloc | apply pw_below_drewN | apply below_drew1 | refine below_set ?_ GE939.out | refine below_set ?_ GE954.out | refine below_set ?_ GE961.out | refine below_set ?_ GE969.out) | exact HB.out)) hb); clear HO_955000; clear HO_955001; clear HO_962000; clear HO_962001; clear HO_970000; clear HO_970001; clear BK939; clear BK954; clear BK961; clear BK969; clear HB; have HO_955000 := n0_; have HO_955001 := n1_; have HO_962000 := n2_; have HO_962001 := n3_; have HO_970000 := n4_; have HO_970001 := n5_; have BK939 := n6_; have BK954 := n7_; have BK961 := n8_; have BK969 := n9_; have HB := n10_; clear n0_ n1_ n2_ n3_ n4_ n5_ n6_ n7_ n8_ n9_ n10_; (try clear hb); (try clear hb2); (try clear hk); (try clear hi); have hnb116 := NB939_954.out; have hnc116 := NB954_939.out; have hnb117 := NB939_961.out; have hnc117 := NB961_939.out; have hcz118_0 : w115.cell? ⟨gb939, 0, none⟩ = some (.slice A0_0 l0_0.length c0_0) := (blk_cell BK939.out 0).trans rfl; have hcz118_1 : w115.cell? ⟨gb939, 1, none⟩ = some (.slice A0_1 l0_1.length c0_1) := (blk_cell BK939.out 1).trans rfl; have hfz118_0 := blk_frozen BK939.out 0; have hfz118_1 := blk_frozen BK939.out 1) | ((with_reducible refine gate_callee (f := 17) rfl ?_); refine goesL_ (some 75) rfl rfl Try.func17 (by kernel_rfl) rfl #[.agg #[.slice A0_0 l0_0.length c0_0, .slice A0_1 l0_1.length c0_1]] rfl (by (try simp only [List.map_toArray, List.map_cons, List.map_nil]); first | done | rfl | (simp only [List.length_drop, List.length_take]; rfl)) ?_; (with_reducible refine (laws_toSurface.calls kj63 _ _ l0_0 _ _ l0_1 t986 t989 _ ?side1 ?side2 ?side3 ?side4 A106.out).mono ?_); (case side1 => repeat (first | exact (Kd.C_below HR0_0.out HB.out) | (with_reducible refine Kd.C_alloc ?_ _) | (with_reducible refine Kd.C_drewN ?_ _) | (with_reducible refine Kd.C_drew ?_))); (case side2 => exact HC0_0.out); (case side3 => repeat (first | exact (Kd.C_below HR0_1.out HB.out) | (with_reducible refine Kd.C_alloc ?_ _) | (with_reducible refine Kd.C_drewN ?_ _) | (with_reducible refine Kd.C_drew ?_))); (case side4 => exact HC0_1.out); rintro e w119 ⟨v987, v990, rfl, ho0, ho1, hb⟩; refine ⟨_, rfl, ?_⟩; have n0_ := Aside0.mk (Kd.R_mono (Kd.R_told (Kd.R_told (Kd.R_old (by (with_reducible repeat (first | apply Kd.R_alloc | apply Kd.R_drewN | apply Kd.R_drew)); exact HO_955000.out) hb) (Kd.R_base ho0)) (Kd.R_base ho1)) (fun _ h_ => h_.1)); have n1_ := Aside0.mk (Kd.R_mono (Kd.R_told (Kd.R_told (Kd.R_old (by (with_reducible repeat (first | apply Kd.R_alloc | apply Kd.R_drewN | apply Kd.R_drew)); exact HO_955001.out) hb) (Kd.R_base ho0)) (Kd.R_base ho1)) (fun _ h_ => h_.1)); have n2_ := Aside0.mk (Kd.R_mono (Kd.R_told (Kd.R_told (Kd.R_old (by (with_reducible repeat (first | apply Kd.R_alloc | apply Kd.R_drewN | apply Kd.R_drew)); exact HO_962000.out) hb) (Kd.R_base ho0)) (Kd.R_base ho1)) (fun _ h_ => h_.1)); have n3_ := Aside0.mk (Kd.R_mono (Kd.R_told (Kd.R_told (Kd.R_old (by (with_reducible repeat (first | apply Kd.R_alloc | apply Kd.R_drewN | apply Kd.R_drew)); exact HO_962001.out) hb) (Kd.R_base ho0)) (Kd.R_base ho1)) (fun _ h_ => h_.1)); have n4_ := Aside0.mk (Kd.R_mono (Kd.R_told (Kd.R_told (Kd.R_old (by (with_reducible repeat (first | apply Kd.R_alloc | apply Kd.R_drewN | apply Kd.R_drew)); exact HO_970000.out) hb) (Kd.R_base ho0)) (Kd.R_base ho1)) (fun _ h_ => h_.1)); have n5_ := Aside0.mk (Kd.R_mono (Kd.R_told (Kd.R_told (Kd.R_old (by (with_reducible repeat (first | apply Kd.R_alloc | apply Kd.R_drewN | apply Kd.R_drew)); exact HO_970001.out) hb) (Kd.R_base ho0)) (Kd.R_base ho1)) (fun _ h_ => h_.1)); have n6_ := Aside0.mk (Kd.R_lower (Kd.R_new' (Kd.R_new' (Kd.R_new' (Kd.R_new' (Kd.R_new' (Kd.R_new' ho0 (Kd.R_lt (by (with_reducible repeat (first | apply Kd.R_alloc | apply Kd.R_drewN | apply Kd.R_drew)); exact HO_955000.out))) (Kd.R_lt (by (with_reducible repeat (first | apply Kd.R_alloc | apply Kd.R_drewN | apply Kd.R_drew)); exact HO_955001.out))) (Kd.R_lt (by (with_reducible repeat (first | apply Kd.R_alloc | apply Kd.R_drewN | apply Kd.R_drew)); exact HO_962000.out))) (Kd.R_lt (by (with_reducible repeat (first | apply Kd.R_alloc | apply Kd.R_drewN | apply Kd.R_drew)); exact HO_962001.out))) (Kd.R_lt (by (with_reducible repeat (first | apply Kd.R_alloc | apply Kd.R_drewN | apply Kd.R_drew)); exact HO_970000.out))) (Kd.R_lt (by (with_reducible repeat (first | apply Kd.R_alloc | apply Kd.R_drewN | apply Kd.R_drew)); exact HO_970001.out))) (below_size (by repeat (first | (with_reducible first | exact HB.out | apply below_alloc | apply pw_below_drewN | apply below_drew1 | refine below_set ?_ GE939.out | refine below_set ?_ GE954.out | refine below_set ?_ GE961.out | refine below_set ?_ GE969.out) | exact HB.out)))); have n7_ := Aside0.mk (Kd.R_lower (Kd.R_new' (Kd.R_new' (Kd.R_new' (Kd.R_new' (Kd.R_new' (Kd.R_new' ho1 (Kd.R_lt (by (with_reducible repeat (first | apply Kd.R_alloc | apply Kd.R_drewN | apply Kd.R_drew)); exact HO_955000.out))) (Kd.R_lt (by (with_reducible repeat (first | apply Kd.R_alloc | apply Kd.R_drewN | apply Kd.R_drew)); exact HO_955001.out))) (Kd.R_lt (by (with_reducible repeat (first | apply Kd.R_alloc | apply Kd.R_drewN | apply Kd.R_drew)); exact HO_962000.out))) (Kd.R_lt (by (with_reducible repeat (first | apply Kd.R_alloc | apply Kd.R_drewN | apply Kd.R_drew)); exact HO_962001.out))) (Kd.R_lt (by (with_reducible repeat (first | apply Kd.R_alloc | apply Kd.R_drewN | apply Kd.R_drew)); exact HO_970000.out))) (Kd.R_lt (by (with_reducible repeat (first | apply Kd.R_alloc | apply Kd.R_drewN | apply Kd.R_drew)); exact HO_970001.out))) (below_size (by repeat (first | (with_reducible first | exact HB.out | apply below_alloc | apply pw_below_drewN | apply below_drew1 | refine below_set ?_ GE939.out | refine below_set ?_ GE954.out | refine below_set ?_ GE961.out | refine below_set ?_ GE969.out) | exact HB.out)))); have n8_ := Aside0.mk (blk_below (g := gb939) (o := .cells #[.slice A0_0 l0_0.length c0_0, .slice A0_1 l0_1.length c0_1] 24 (0, 0)) (by (with_reducible repeat (first | refine blk_drewN ?_ _ | refine blk_drew ?_ | refine blk_alloc ?_ _)); exact BK939.out) hb); have n9_ := Aside0.mk (blk_below (g := gb954) (o := .cells #[.slice Ao21 t947.length co21, .slice Ao24 t950.length co24] 27 (0, 0)) (by (with_reducible repeat (first | refine blk_drewN ?_ _ | refine blk_drew ?_ | refine blk_alloc ?_ _)); exact BK954.out) hb); have n10_ := Aside0.mk (blk_below (g := gb961) (o := .cells #[.slice Ao28 t979.length co28, .slice Ao32 t980.length co32] 27 (0, 0)) (by (with_reducible repeat (first | refine blk_drewN ?_ _ | refine blk_drew ?_ | refine blk_alloc ?_ _)); exact BK961.out) hb); have n11_ := Aside0.mk (blk_below (g := gb969) (o := .cells #[.slice Ao35 t962.length co35, .slice Ao40 t965.length co40] 27 (0, 0)) (by (with_reducible repeat (first | refine blk_drewN ?_ _ | refine blk_drew ?_ | refine blk_alloc ?_ _)); exact BK969.out) hb); have n12_ := Aside0.mk (below_step (by repeat (first | (with_reducible first | exact HB.out | apply below_alloc | apply pw_below_drewN | apply below_drew1 | refine below_set ?_ GE939.out | refine below_set ?_ GE954.out | refine below_set ?_ GE961.out | refine below_set ?_ GE969.out) | exact HB.out)) hb); clear HO_955000; clear HO_955001; clear HO_962000; clear HO_962001; clear HO_970000; clear HO_970001; clear BK939; clear BK954; clear BK961; clear BK969; clear HB; have HO_955000 := n0_; have HO_955001 := n1_; have HO_962000 := n2_; have HO_962001 := n3_; have HO_970000 := n4_; have HO_970001 := n5_; have HO988 := n6_; have HO991 := n7_; have BK939 := n8_; have BK954 := n9_; have BK961 := n10_; have BK969 := n11_; have HB := n12_; clear n0_ n1_ n2_ n3_ n4_ n5_ n6_ n7_ n8_ n9_ n10_ n11_ n12_; (try clear hb); (try clear hb2); (try clear hk); (try clear hi); (try clear ho0); (try clear ho1); obtain ⟨Ao120, co120, eo120⟩ := Kd.R_slice HO988.out; subst eo120; obtain ⟨Ao121, co121, eo121⟩ := Kd.R_slice HO991.out; subst eo121) | ((with_reducible refine gate_callee (f := 52) rfl ?_); refine goesL_ (some 76) rfl rfl Try.func52 (by kernel_rfl) rfl #[.agg #[.slice Ao120 t986.length co120, .slice Ao121 t989.length co121]] rfl (by (try simp only [List.map_toArray, List.map_cons, List.map_nil]); first | done | rfl | (simp only [List.length_drop, List.length_take]; rfl)) ?_; (with_reducible refine (impl_UnturnSurface.calls kj63 _ _ t986 _ _ t989 t992 t995 t998 _ ?side1 ?side2 ?side3 ?side4 A107.out).mono ?_); (case side1 => repeat (first | exact (Kd.R_reads' HO988.out).2.2 | (with_reducible refine Kd.C_alloc ?_ _) | (with_reducible refine Kd.C_drewN ?_ _) | (with_reducible refine Kd.C_drew ?_))); (case side2 => exact (Kd.R_reads' HO988.out).2.1); (case side3 => repeat (first | exact (Kd.R_reads' HO991.out).2.2 | (with_reducible refine Kd.C_alloc ?_ _) | (with_reducible refine Kd.C_drewN ?_ _) | (with_reducible refine Kd.C_drew ?_))); (case side4 => exact (Kd.R_reads' HO991.out).2.1); rintro e w122 ⟨v993, v996, rfl, ho0, ho1, hb⟩; refine ⟨_, rfl, ?_⟩; have n0_ := Aside0.mk (Kd.R_mono (Kd.R_told (Kd.R_told (Kd.R_old (by (with_reducible repeat (first | apply Kd.R_alloc | apply Kd.R_drewN | apply Kd.R_drew)); exact HO_955000.out) hb) (Kd.R_base ho0)) (Kd.R_base ho1)) (fun _ h_ => h_.1)); have n1_ := Aside0.mk (Kd.R_mono (Kd.R_told (Kd.R_told (Kd.R_old (by (with_reducible repeat (first | apply Kd.R_alloc | apply Kd.R_drewN | apply Kd.R_drew)); exact HO_955001.out) hb) (Kd.R_base ho0)) (Kd.R_base ho1)) (fun _ h_ => h_.1)); have n2_ := Aside0.mk (Kd.R_mono (Kd.R_told (Kd.R_told (Kd.R_old (by (with_reducible repeat (first | apply Kd.R_alloc | apply Kd.R_drewN | apply Kd.R_drew)); exact HO_962000.out) hb) (Kd.R_base ho0)) (Kd.R_base ho1)) (fun _ h_ => h_.1)); have n3_ := Aside0.mk (Kd.R_mono (Kd.R_told (Kd.R_told (Kd.R_old (by (with_reducible repeat (first | apply Kd.R_alloc | apply Kd.R_drewN | apply Kd.R_drew)); exact HO_962001.out) hb) (Kd.R_base ho0)) (Kd.R_base ho1)) (fun _ h_ => h_.1)); have n4_ := Aside0.mk (Kd.R_mono (Kd.R_told (Kd.R_told (Kd.R_old (by (with_reducible repeat (first | apply Kd.R_alloc | apply Kd.R_drewN | apply Kd.R_drew)); exact HO_970000.out) hb) (Kd.R_base ho0)) (Kd.R_base ho1)) (fun _ h_ => h_.1)); have n5_ := Aside0.mk (Kd.R_mono (Kd.R_told (Kd.R_told (Kd.R_old (by (with_reducible repeat (first | apply Kd.R_alloc | apply Kd.R_drewN | apply Kd.R_drew)); exact HO_970001.out) hb) (Kd.R_base ho0)) (Kd.R_base ho1)) (fun _ h_ => h_.1)); have n6_ := Aside0.mk (Kd.R_mono (Kd.R_told (Kd.R_told (Kd.R_old (by (with_reducible repeat (first | apply Kd.R_alloc | apply Kd.R_drewN | apply Kd.R_drew)); exact HO988.out) hb) (Kd.R_base ho0)) (Kd.R_base ho1)) (fun _ h_ => h_.1)); have n7_ := Aside0.mk (Kd.R_mono (Kd.R_told (Kd.R_told (Kd.R_old (by (with_reducible repeat (first | apply Kd.R_alloc | apply Kd.R_drewN | apply Kd.R_drew)); exact HO991.out) hb) (Kd.R_base ho0)) (Kd.R_base ho1)) (fun _ h_ => h_.1)); have n8_ := Aside0.mk (Kd.R_lower (Kd.R_new' (Kd.R_new' (Kd.R_new' (Kd.R_new' (Kd.R_new' (Kd.R_new' (Kd.R_new' (Kd.R_new' ho0 (Kd.R_lt (by (with_reducible repeat (first | apply Kd.R_alloc | apply Kd.R_drewN | apply Kd.R_drew)); exact HO_955000.out))) (Kd.R_lt (by (with_reducible repeat (first | apply Kd.R_alloc | apply Kd.R_drewN | apply Kd.R_drew)); exact HO_955001.out))) (Kd.R_lt (by (with_reducible repeat (first | apply Kd.R_alloc | apply Kd.R_drewN | apply Kd.R_drew)); exact HO_962000.out))) (Kd.R_lt (by (with_reducible repeat (first | apply Kd.R_alloc | apply Kd.R_drewN | apply Kd.R_drew)); exact HO_962001.out))) (Kd.R_lt (by (with_reducible repeat (first | apply Kd.R_alloc | apply Kd.R_drewN | apply Kd.R_drew)); exact HO_970000.out))) (Kd.R_lt (by (with_reducible repeat (first | apply Kd.R_alloc | apply Kd.R_drewN | apply Kd.R_drew)); exact HO_970001.out))) (Kd.R_lt (by (with_reducible repeat (first | apply Kd.R_alloc | apply Kd.R_drewN | apply Kd.R_drew)); exact HO988.out))) (Kd.R_lt (by (with_reducible repeat (first | apply Kd.R_alloc | apply Kd.R_drewN | apply Kd.R_drew)); exact HO991.out))) (below_size (by repeat (first | (with_reducible first | exact HB.out | apply below_alloc | apply pw_below_drewN | apply below_drew1 | refine below_set ?_ GE939.out | refine below_set ?_ GE954.out | refine below_set ?_ GE961.out | refine below_set ?_ GE969.out) | exact HB.out)))); have n9_ := Aside0.mk (Kd.R_lower (Kd.R_new' (Kd.R_new' (Kd.R_new' (Kd.R_new' (Kd.R_new' (Kd.R_new' (Kd.R_new' (Kd.R_new' ho1 (Kd.R_lt (by (with_reducible repeat (first | apply Kd.R_alloc | apply Kd.R_drewN | apply Kd.R_drew)); exact HO_955000.out))) (Kd.R_lt (by (with_reducible repeat (first | apply Kd.R_alloc | apply Kd.R_drewN | apply Kd.R_drew)); exact HO_955001.out))) (Kd.R_lt (by (with_reducible repeat (first | apply Kd.R_alloc | apply Kd.R_drewN | apply Kd.R_drew)); exact HO_962000.out))) (Kd.R_lt (by (with_reducible repeat (first | apply Kd.R_alloc | apply Kd.R_drewN | apply Kd.R_drew)); exact HO_962001.out))) (Kd.R_lt (by (with_reducible repeat (first | apply Kd.R_alloc | apply Kd.R_drewN | apply Kd.R_drew)); exact HO_970000.out))) (Kd.R_lt (by (with_reducible repeat (first | apply Kd.R_alloc | apply Kd.R_drewN | apply Kd.R_drew)); exact HO_970001.out))) (Kd.R_lt (by (with_reducible repeat (first | apply Kd.R_alloc | apply Kd.R_drewN | apply Kd.R_drew)); exact HO988.out))) (Kd.R_lt (by (with_reducible repeat (first | apply Kd.R_alloc | apply Kd.R_drewN | apply Kd.R_drew)); exact HO991.out))) (below_size (by repeat (first | (with_reducible first | exact HB.out | apply below_alloc | apply pw_below_drewN | apply below_drew1 | refine below_set ?_ GE939.out | refine below_set ?_ GE954.out | refine below_set ?_ GE961.out | refine below_set ?_ GE969.out) | exact HB.out)))); have n10_ := Aside0.mk (blk_below (g := gb939) (o := .cells #[.slice A0_0 l0_0.length c0_0, .slice A0_1 l0_1.length c0_1] 24 (0, 0)) (by (with_reducible repeat (first | refine blk_drewN ?_ _ | refine blk_drew ?_ | refine blk_alloc ?_ _)); exact BK939.out) hb); have n11_ := Aside0.mk (blk_below (g := gb954) (o := .cells #[.slice Ao21 t947.length co21, .slice Ao24 t950.length co24] 27 (0, 0)) (by (with_reducible repeat (first | refine blk_drewN ?_ _ | refine blk_drew ?_ | refine blk_alloc ?_ _)); exact BK954.out) hb); have n12_ := Aside0.mk (blk_below (g := gb961) (o := .cells #[.slice Ao28 t979.length co28, .slice Ao32 t980.length co32] 27 (0, 0)) (by (with_reducible repeat (first | refine blk_drewN ?_ _ | refine blk_drew ?_ | refine blk_alloc ?_ _)); exact BK961.out) hb); have n13_ := Aside0.mk (blk_below (g := gb969) (o := .cells #[.slice Ao35 t962.length co35, .slice Ao40 t965.length co40] 27 (0, 0)) (by (with_reducible repeat (first | refine blk_drewN ?_ _ | refine blk_drew ?_ | refine blk_alloc ?_ _)); exact BK969.out) hb); have n14_ := Aside0.mk (below_step (by repeat (first | (with_reducible first | exact HB.out | apply below_alloc | apply pw_below_drewN | apply below_drew1 | refine below_set ?_ GE939.out | refine below_set ?_ GE954.out | refine below_set ?_ GE961.out | refine below_set ?_ GE969.out) | exact HB.out)) hb); clear HO_955000; clear HO_955001; clear HO_962000; clear HO_962001; clear HO_970000; clear HO_970001; clear HO988; clear HO991; clear BK939; clear BK954; clear BK961; clear BK969; clear HB; have HO_955000 := n0_; have HO_955001 := n1_; have HO_962000 := n2_; have HO_962001 := n3_; have HO_970000 := n4_; have HO_970001 := n5_; have HO988 := n6_; have HO991 := n7_; have HO994 := n8_; have HO997 := n9_; have BK939 := n10_; have BK954 := n11_; have BK961 := n12_; have BK969 := n13_; have HB := n14_; clear n0_ n1_ n2_ n3_ n4_ n5_ n6_ n7_ n8_ n9_ n10_ n11_ n12_ n13_ n14_; (try clear hb); (try clear hb2); (try clear hk); (try clear hi); (try clear ho0); (try clear ho1)) | ((with_reducible refine gate_dst (N := 12) rfl ?_); refine box_event ?hg (N := 12) ?hd (cs := #[.slice none 0 0, .slice none 0 0]) (t := 27) ?hr ?_; (case hd => rfl); (case hg => rfl); (case hr => first | (go_simp; done) | (go_simp; rfl)); intro gb999 hg w123 hbox hb; have n0_ := Aside0.mk (Kd.R_below (by (with_reducible repeat (first | apply Kd.R_alloc | apply Kd.R_drewN | apply Kd.R_drew)); exact HO_955000.out) hb); have n1_ := Aside0.mk (Kd.R_below (by (with_reducible repeat (first | apply Kd.R_alloc | apply Kd.R_drewN | apply Kd.R_drew)); exact HO_955001.out) hb); have n2_ := Aside0.mk (Kd.R_below (by (with_reducible repeat (first | apply Kd.R_alloc | apply Kd.R_drewN | apply Kd.R_drew)); exact HO_962000.out) hb); have n3_ := Aside0.mk (Kd.R_below (by (with_reducible repeat (first | apply Kd.R_alloc | apply Kd.R_drewN | apply Kd.R_drew)); exact HO_962001.out) hb); have n4_ := Aside0.mk (Kd.R_below (by (with_reducible repeat (first | apply Kd.R_alloc | apply Kd.R_drewN | apply Kd.R_drew)); exact HO_970000.out) hb); have n5_ := Aside0.mk (Kd.R_below (by (with_reducible repeat (first | apply Kd.R_alloc | apply Kd.R_drewN | apply Kd.R_drew)); exact HO_970001.out) hb); have n6_ := Aside0.mk (Kd.R_below (by (with_reducible repeat (first | apply Kd.R_alloc | apply Kd.R_drewN | apply Kd.R_drew)); exact HO988.out) hb); have n7_ := Aside0.mk (Kd.R_below (by (with_reducible repeat (first | apply Kd.R_alloc | apply Kd.R_drewN | apply Kd.R_drew)); exact HO991.out) hb); have n8_ := Aside0.mk (Kd.R_below (by (with_reducible repeat (first | apply Kd.R_alloc | apply Kd.R_drewN | apply Kd.R_drew)); exact HO994.out) hb); have n9_ := Aside0.mk (Kd.R_below (by (with_reducible repeat (first | apply Kd.R_alloc | apply Kd.R_drewN | apply Kd.R_drew)); exact HO997.out) hb); have n10_ := Aside0.mk (blk_below (g := gb939) (o := .cells #[.slice A0_0 l0_0.length c0_0, .slice A0_1 l0_1.length c0_1] 24 (0, 0)) (by (with_reducible repeat (first | refine blk_drewN ?_ _ | refine blk_drew ?_ | refine blk_alloc ?_ _)); exact BK939.out) hb); have n11_ := Aside0.mk (blk_below (g := gb954) (o := .cells #[.slice Ao21 t947.length co21, .slice Ao24 t950.length co24] 27 (0, 0)) (by (with_reducible repeat (first | refine blk_drewN ?_ _ | refine blk_drew ?_ | refine blk_alloc ?_ _)); exact BK954.out) hb); have n12_ := Aside0.mk (blk_below (g := gb961) (o := .cells #[.slice Ao28 t979.length co28, .slice Ao32 t980.length co32] 27 (0, 0)) (by (with_reducible repeat (first | refine blk_drewN ?_ _ | refine blk_drew ?_ | refine blk_alloc ?_ _)); exact BK961.out) hb); have n13_ := Aside0.mk (blk_below (g := gb969) (o := .cells #[.slice Ao35 t962.length co35, .slice Ao40 t965.length co40] 27 (0, 0)) (by (with_reducible repeat (first | refine blk_drewN ?_ _ | refine blk_drew ?_ | refine blk_alloc ?_ _)); exact BK969.out) hb); have n14_ := Aside0.mk (below_step (by repeat (first | (with_reducible first | exact HB.out | apply below_alloc | apply pw_below_drewN | apply below_drew1 | refine below_set ?_ GE939.out | refine below_set ?_ GE954.out | refine below_set ?_ GE961.out | refine below_set ?_ GE969.out) | exact HB.out)) hb); have n15_ := Aside0.mk (hbox); have n16_ := Aside0.mk ((by rw [hg]; exact (below_size (by repeat (first | (with_reducible first | exact HB.out | apply below_alloc | apply pw_below_drewN | apply below_drew1 | refine below_set ?_ GE939.out | refine below_set ?_ GE954.out | refine below_set ?_ GE961.out | refine below_set ?_ GE969.out) | exact HB.out))) : w.heap.size ≤ gb999)); have n17_ := Aside0.mk ((by rw [hg]; exact (below_size (by repeat (first | (with_reducible first | exact HB.out | apply below_alloc | apply pw_below_drewN | apply below_drew1 | refine below_set ?_ GE939.out | refine below_set ?_ GE954.out | refine below_set ?_ GE961.out | refine below_set ?_ GE969.out) | exact HB.out))) : w.heap.size ≤ gb999)); have n18_ := Aside0.mk ((by rw [hg]; exact Nat.ne_of_lt (blk_lt (g := gb939) (o := .cells #[.slice A0_0 l0_0.length c0_0, .slice A0_1 l0_1.length c0_1] 24 (0, 0)) (by (with_reducible repeat (first | refine blk_drewN ?_ _ | refine blk_drew ?_ | refine blk_alloc ?_ _)); exact BK939.out)) : gb939 ≠ gb999)); have n19_ := Aside0.mk ((by rw [hg]; exact Nat.ne_of_gt (blk_lt (g := gb939) (o := .cells #[.slice A0_0 l0_0.length c0_0, .slice A0_1 l0_1.length c0_1] 24 (0, 0)) (by (with_reducible repeat (first | refine blk_drewN ?_ _ | refine blk_drew ?_ | refine blk_alloc ?_ _)); exact BK939.out)) : gb999 ≠ gb939)); have n20_ := Aside0.mk ((by rw [hg]; exact Nat.ne_of_lt (blk_lt (g := gb954) (o := .cells #[.slice Ao21 t947.length co21, .slice Ao24 t950.length co24] 27 (0, 0)) (by (with_reducible repeat (first | refine blk_drewN ?_ _ | refine blk_drew ?_ | refine blk_alloc ?_ _)); exact BK954.out)) : gb954 ≠ gb999)); have n21_ := Aside0.mk ((by rw [hg]; exact Nat.ne_of_gt (blk_lt (g := gb954) (o := .cells #[.slice Ao21 t947.length co21, .slice Ao24 t950.length co24] 27 (0, 0)) (by (with_reducible repeat (first | refine blk_drewN ?_ _ | refine blk_drew ?_ | refine blk_alloc ?_ _)); exact BK954.out)) : gb999 ≠ gb954)); have n22_ := Aside0.mk ((by rw [hg]; exact Nat.ne_of_lt (blk_lt (g := gb961) (o := .cells #[.slice Ao28 t979.length co28, .slice Ao32 t980.length co32] 27 (0, 0)) (by (with_reducible repeat (first | refine blk_drewN ?_ _ | refine blk_drew ?_ | refine blk_alloc ?_ _)); exact BK961.out)) : gb961 ≠ gb999)); have n23_ := Aside0.mk ((by rw [hg]; exact Nat.ne_of_gt (blk_lt (g := gb961) (o := .cells #[.slice Ao28 t979.length co28, .slice Ao32 t980.length co32] 27 (0, 0)) (by (with_reducible repeat (first | refine blk_drewN ?_ _ | refine blk_drew ?_ | refine blk_alloc ?_ _)); exact BK961.out)) : gb999 ≠ gb961)); have n24_ := Aside0.mk ((by rw [hg]; exact Nat.ne_of_lt (blk_lt (g := gb969) (o := .cells #[.slice Ao35 t962.length co35, .slice Ao40 t965.length co40] 27 (0, 0)) (by (with_reducible repeat (first | refine blk_drewN ?_ _ | refine blk_drew ?_ | refine blk_alloc ?_ _)); exact BK969.out)) : gb969 ≠ gb999)); have n25_ := Aside0.mk ((by rw [hg]; exact Nat.ne_of_gt (blk_lt (g := gb969) (o := .cells #[.slice Ao35 t962.length co35, .slice Ao40 t965.length co40] 27 (0, 0)) (by (with_reducible repeat (first | refine blk_drewN ?_ _ | refine blk_drew ?_ | refine blk_alloc ?_ _)); exact BK969.out)) : gb999 ≠ gb969)); clear HO_955000; clear HO_955001; clear HO_962000; clear HO_962001; clear HO_970000; clear HO_970001; clear HO988; clear HO991; clear HO994; clear HO997; clear BK939; clear BK954; clear BK961; clear BK969; clear HB; have HO_955000 := n0_; have HO_955001 := n1_; have HO_962000 := n2_; have HO_962001 := n3_; have HO_970000 := n4_; have HO_970001 := n5_; have HO988 := n6_; have HO991 := n7_; have HO994 := n8_; have HO997 := n9_; have BK939 := n10_; have BK954 := n11_; have BK961 := n12_; have BK969 := n13_; have HB := n14_; have BK999 := n15_; have GW999 := n16_; have GE999 := n17_; have NB939_999 := n18_; have NB999_939 := n19_; have NB954_999 := n20_; have NB999_954 := n21_; have NB961_999 := n22_; have NB999_961 := n23_; have NB969_999 := n24_; have NB999_969 := n25_; clear n0_ n1_ n2_ n3_ n4_ n5_ n6_ n7_ n8_ n9_ n10_ n11_ n12_ n13_ n14_ n15_ n16_ n17_ n18_ n19_ n20_ n21_ n22_ n23_ n24_ n25_; clear hb hbox hg; obtain ⟨Ao124, co124, eo124⟩ := Kd.R_slice HO994.out; subst eo124; have hnb125 := NB999_939.out; have hnc125 := NB939_999.out; have hnb126 := NB999_954.out; have hnc126 := NB954_999.out; have hnb127 := NB999_961.out; have hnc127 := NB961_999.out; have hnb128 := NB999_969.out; have hnc128 := NB969_999.out; have hcz129_0 : w123.cell? ⟨gb999, 0, none⟩ = some (.slice none 0 0) := (blk_cell BK999.out 0).trans rfl; have hcz129_1 : w123.cell? ⟨gb999, 1, none⟩ = some (.slice none 0 0) := (blk_cell BK999.out 1).trans rfl; have hfz129_0 := blk_frozen BK999.out 0; have hfz129_1 := blk_frozen BK999.out 1; obtain ⟨Ao130, co130, eo130⟩ := Kd.R_slice HO997.out; subst eo130))
                      (try simp only [Act.put, List.setIfInBounds_toArray, List.set_cons_zero, List.set_cons_succ])
                      go_cut [87] (fun v87 wc => ∃ (kq : Nat) (x87_107 : Bool), v87 = .bool x87_107 ∧ Aside0 (laws_FnExactUnturnSurface.j2 kq t982 x87_107 t983 t984 = some true) ∧ Aside0 (kq ≤ kj63) ∧ Aside0 (Kd.R (Kd.int .i64) 3 wc w.heap.size (fun k_ => some k_ ≠ ((.slice Ao24 t950.length co24) : Value).ownBlock ∧ some k_ ≠ ((.slice Ao28 t979.length co28) : Value).ownBlock ∧ some k_ ≠ ((.slice Ao32 t980.length co32) : Value).ownBlock ∧ some k_ ≠ ((.slice Ao35 t962.length co35) : Value).ownBlock ∧ some k_ ≠ ((.slice Ao40 t965.length co40) : Value).ownBlock ∧ some k_ ≠ ((.slice Ao124 t992.length co124) : Value).ownBlock ∧ some k_ ≠ ((.slice Ao130 t995.length co130) : Value).ownBlock) (.slice Ao21 t947.length co21) t947) ∧ Aside0 (Kd.R (Kd.int .i64) 3 wc w.heap.size (fun k_ => some k_ ≠ ((.slice Ao21 t947.length co21) : Value).ownBlock ∧ some k_ ≠ ((.slice Ao28 t979.length co28) : Value).ownBlock ∧ some k_ ≠ ((.slice Ao32 t980.length co32) : Value).ownBlock ∧ some k_ ≠ ((.slice Ao35 t962.length co35) : Value).ownBlock ∧ some k_ ≠ ((.slice Ao40 t965.length co40) : Value).ownBlock ∧ some k_ ≠ ((.slice Ao124 t992.length co124) : Value).ownBlock ∧ some k_ ≠ ((.slice Ao130 t995.length co130) : Value).ownBlock) (.slice Ao24 t950.length co24) t950) ∧ Aside0 (Kd.R (Kd.int .i64) 3 wc w.heap.size (fun k_ => some k_ ≠ ((.slice Ao21 t947.length co21) : Value).ownBlock ∧ some k_ ≠ ((.slice Ao24 t950.length co24) : Value).ownBlock ∧ some k_ ≠ ((.slice Ao32 t980.length co32) : Value).ownBlock ∧ some k_ ≠ ((.slice Ao35 t962.length co35) : Value).ownBlock ∧ some k_ ≠ ((.slice Ao40 t965.length co40) : Value).ownBlock ∧ some k_ ≠ ((.slice Ao124 t992.length co124) : Value).ownBlock ∧ some k_ ≠ ((.slice Ao130 t995.length co130) : Value).ownBlock) (.slice Ao28 t979.length co28) t979) ∧ Aside0 (Kd.R (Kd.int .i64) 3 wc w.heap.size (fun k_ => some k_ ≠ ((.slice Ao21 t947.length co21) : Value).ownBlock ∧ some k_ ≠ ((.slice Ao24 t950.length co24) : Value).ownBlock ∧ some k_ ≠ ((.slice Ao28 t979.length co28) : Value).ownBlock ∧ some k_ ≠ ((.slice Ao35 t962.length co35) : Value).ownBlock ∧ some k_ ≠ ((.slice Ao40 t965.length co40) : Value).ownBlock ∧ some k_ ≠ ((.slice Ao124 t992.length co124) : Value).ownBlock ∧ some k_ ≠ ((.slice Ao130 t995.length co130) : Value).ownBlock) (.slice Ao32 t980.length co32) t980) ∧ Aside0 (Kd.R (Kd.int .i64) 3 wc w.heap.size (fun k_ => some k_ ≠ ((.slice Ao21 t947.length co21) : Value).ownBlock ∧ some k_ ≠ ((.slice Ao24 t950.length co24) : Value).ownBlock ∧ some k_ ≠ ((.slice Ao28 t979.length co28) : Value).ownBlock ∧ some k_ ≠ ((.slice Ao32 t980.length co32) : Value).ownBlock ∧ some k_ ≠ ((.slice Ao40 t965.length co40) : Value).ownBlock ∧ some k_ ≠ ((.slice Ao124 t992.length co124) : Value).ownBlock ∧ some k_ ≠ ((.slice Ao130 t995.length co130) : Value).ownBlock) (.slice Ao35 t962.length co35) t983) ∧ Aside0 (Kd.R (Kd.int .i64) 3 wc w.heap.size (fun k_ => some k_ ≠ ((.slice Ao21 t947.length co21) : Value).ownBlock ∧ some k_ ≠ ((.slice Ao24 t950.length co24) : Value).ownBlock ∧ some k_ ≠ ((.slice Ao28 t979.length co28) : Value).ownBlock ∧ some k_ ≠ ((.slice Ao32 t980.length co32) : Value).ownBlock ∧ some k_ ≠ ((.slice Ao35 t962.length co35) : Value).ownBlock ∧ some k_ ≠ ((.slice Ao124 t992.length co124) : Value).ownBlock ∧ some k_ ≠ ((.slice Ao130 t995.length co130) : Value).ownBlock) (.slice Ao40 t965.length co40) t984) ∧ Aside0 (Kd.R (Kd.int .i64) 3 wc w.heap.size (fun k_ => some k_ ≠ ((.slice Ao21 t947.length co21) : Value).ownBlock ∧ some k_ ≠ ((.slice Ao24 t950.length co24) : Value).ownBlock ∧ some k_ ≠ ((.slice Ao28 t979.length co28) : Value).ownBlock ∧ some k_ ≠ ((.slice Ao32 t980.length co32) : Value).ownBlock ∧ some k_ ≠ ((.slice Ao35 t962.length co35) : Value).ownBlock ∧ some k_ ≠ ((.slice Ao40 t965.length co40) : Value).ownBlock ∧ some k_ ≠ ((.slice Ao130 t995.length co130) : Value).ownBlock) (.slice Ao124 t992.length co124) t992) ∧ Aside0 (Kd.R (Kd.int .i64) 3 wc w.heap.size (fun k_ => some k_ ≠ ((.slice Ao21 t947.length co21) : Value).ownBlock ∧ some k_ ≠ ((.slice Ao24 t950.length co24) : Value).ownBlock ∧ some k_ ≠ ((.slice Ao28 t979.length co28) : Value).ownBlock ∧ some k_ ≠ ((.slice Ao32 t980.length co32) : Value).ownBlock ∧ some k_ ≠ ((.slice Ao35 t962.length co35) : Value).ownBlock ∧ some k_ ≠ ((.slice Ao40 t965.length co40) : Value).ownBlock ∧ some k_ ≠ ((.slice Ao124 t992.length co124) : Value).ownBlock) (.slice Ao130 t995.length co130) t995) ∧ Aside0 (wc.heap[gb939]? = some (.cells #[(.slice A0_0 l0_0.length c0_0), (.slice A0_1 l0_1.length c0_1)] 24 (0, 0))) ∧ Aside0 (wc.heap[gb954]? = some (.cells #[(.slice Ao21 t947.length co21), (.slice Ao24 t950.length co24)] 27 (0, 0))) ∧ Aside0 (wc.heap[gb961]? = some (.cells #[(.slice Ao28 t979.length co28), (.slice Ao32 t980.length co32)] 27 (0, 0))) ∧ Aside0 (wc.heap[gb969]? = some (.cells #[(.slice Ao35 t962.length co35), (.slice Ao40 t965.length co40)] 27 (0, 0))) ∧ Aside0 (wc.heap[gb999]? = some (.cells #[(.slice Ao124 t992.length co124), (.slice Ao130 t995.length co130)] 27 (0, 0))) ∧ Aside0 (Below w.heap.size w wc))
                      case first =>
                        have H := HC108.out
                        clear HC108
                        replace H := Option.bind_eq_some_iff.mp H
                        obtain ⟨t1000, A1310, H⟩ := H
                        replace H : (if t1000 = true then (laws_FnExactUnturnSurface.j2 kj63 t982 (t998 != t953) t983 t984) else (laws_FnExactUnturnSurface.j2 kj63 t982 true t983 t984)) = some true := H
                        have A131 := Aside0.mk A1310
                        clear A1310
                        by_cases c132 : t1000 = true
                        · subst c132
                          have H1 : (laws_FnExactUnturnSurface.j2 kj63 t982 (t998 != t953) t983 t984) = some true := by rw [if_pos rfl] at H; exact H
                          clear H
                          have H := H1
                          clear H1
                          have H' := Aside0.mk H
                          clear H
                          have hnb133 := NB999_939.out
                          have hnc133 := NB939_999.out
                          have hnb134 := NB999_954.out
                          have hnc134 := NB954_999.out
                          have hnb135 := NB999_961.out
                          have hnc135 := NB961_999.out
                          have hnb136 := NB999_969.out
                          have hnc136 := NB969_999.out
                          have hcz137_0 : w123.cell? ⟨gb999, 0, none⟩ = some (.slice none 0 0) := (blk_cell BK999.out 0).trans rfl
                          have hcz137_1 : w123.cell? ⟨gb999, 1, none⟩ = some (.slice none 0 0) := (blk_cell BK999.out 1).trans rfl
                          have hfz137_0 := blk_frozen BK999.out 0
                          have hfz137_1 := blk_frozen BK999.out 1
                          have hnb138 := NB954_939.out
                          have hnc138 := NB939_954.out
                          have hnb139 := NB954_961.out
                          have hnc139 := NB961_954.out
                          have hnb140 := NB954_969.out
                          have hnc140 := NB969_954.out
                          have hcz141_0 : w123.cell? ⟨gb954, 0, none⟩ = some (.slice Ao21 t947.length co21) := (blk_cell BK954.out 0).trans rfl
                          have hcz141_1 : w123.cell? ⟨gb954, 1, none⟩ = some (.slice Ao24 t950.length co24) := (blk_cell BK954.out 1).trans rfl
                          have hfz141_0 := blk_frozen BK954.out 0
                          have hfz141_1 := blk_frozen BK954.out 1
                          go_wp2_with (first | ((with_reducible refine gate_callee (f := 19) rfl ?_); refine goesL_ (some 81) rfl rfl Try.func19 (by kernel_rfl) rfl #[.agg #[.slice Ao124 t992.length co124, .slice Ao130 t995.length co130], .agg #[.slice Ao21 t947.length co21, .slice Ao24 t950.length co24]] rfl (by (try simp only [List.map_toArray, List.map_cons, List.map_nil]); first | done | rfl | (simp only [List.length_drop, List.length_take]; rfl)) ?_; (with_reducible refine (laws_eqSurface.calls kj63 _ _ t992 _ _ t995 _ _ t947 _ _ t950 true _ ?side1 ?side2 ?side3 ?side4 ?side5 ?side6 ?side7 ?side8 A131.out).mono ?_); (case side1 => refine (Kd.R_reads' (e := 3) (base := w.heap.size) (ok := fun k_ => ((((((((some k_ ≠ (.slice Ao130 t995.length co130 : Value).ownBlock ∧ some k_ ≠ (.slice Ao21 t947.length co21 : Value).ownBlock) ∧ some k_ ≠ (.slice Ao24 t950.length co24 : Value).ownBlock) ∧ some k_ ≠ (.slice Ao28 t979.length co28 : Value).ownBlock) ∧ some k_ ≠ (.slice Ao32 t980.length co32 : Value).ownBlock) ∧ some k_ ≠ (.slice Ao35 t962.length co35 : Value).ownBlock) ∧ some k_ ≠ (.slice Ao40 t965.length co40 : Value).ownBlock) ∧ some k_ ≠ (.slice Ao120 t986.length co120 : Value).ownBlock) ∧ some k_ ≠ (.slice Ao121 t989.length co121 : Value).ownBlock)) (n := t992.length) (c := co124) ?_).2.2; exact (by (with_reducible repeat (first | apply Kd.R_alloc | apply Kd.R_drewN | apply Kd.R_drew)); exact (Kd.R_mono (Kd.R_far (p := ⟨gb999, 1, none⟩) (Kd.R_far (p := ⟨gb999, 0, none⟩) (Kd.R_types HO994.out BK999.out (by decide)) (fun _ hk => hk.2) (.slice Ao124 t992.length co124)) (fun _ hk => hk.2) (.slice Ao130 t995.length co130)) (fun _ h_ => h_.1)))); (case side2 => exact (Kd.R_reads' HO994.out).2.1); (case side3 => refine (Kd.R_reads' (e := 3) (base := w.heap.size) (ok := fun k_ => ((((((((some k_ ≠ (.slice Ao124 t992.length co124 : Value).ownBlock ∧ some k_ ≠ (.slice Ao21 t947.length co21 : Value).ownBlock) ∧ some k_ ≠ (.slice Ao24 t950.length co24 : Value).ownBlock) ∧ some k_ ≠ (.slice Ao28 t979.length co28 : Value).ownBlock) ∧ some k_ ≠ (.slice Ao32 t980.length co32 : Value).ownBlock) ∧ some k_ ≠ (.slice Ao35 t962.length co35 : Value).ownBlock) ∧ some k_ ≠ (.slice Ao40 t965.length co40 : Value).ownBlock) ∧ some k_ ≠ (.slice Ao120 t986.length co120 : Value).ownBlock) ∧ some k_ ≠ (.slice Ao121 t989.length co121 : Value).ownBlock)) (n := t995.length) (c := co130) ?_).2.2; exact (by (with_reducible repeat (first | apply Kd.R_alloc | apply Kd.R_drewN | apply Kd.R_drew)); exact (Kd.R_mono (Kd.R_far (p := ⟨gb999, 1, none⟩) (Kd.R_far (p := ⟨gb999, 0, none⟩) (Kd.R_types HO997.out BK999.out (by decide)) (fun _ hk => hk.2) (.slice Ao124 t992.length co124)) (fun _ hk => hk.2) (.slice Ao130 t995.length co130)) (fun _ h_ => h_.1)))); (case side4 => exact (Kd.R_reads' HO997.out).2.1); (case side5 => refine (Kd.R_reads' (e := 3) (base := w.heap.size) (ok := fun k_ => (((((some k_ ≠ (.slice Ao24 t950.length co24 : Value).ownBlock ∧ (some k_ ≠ (.slice Ao28 t979.length co28 : Value).ownBlock ∧ (some k_ ≠ (.slice Ao32 t980.length co32 : Value).ownBlock ∧ (some k_ ≠ (.slice Ao35 t962.length co35 : Value).ownBlock ∧ some k_ ≠ (.slice Ao40 t965.length co40 : Value).ownBlock)))) ∧ some k_ ≠ (.slice Ao120 t986.length co120 : Value).ownBlock) ∧ some k_ ≠ (.slice Ao121 t989.length co121 : Value).ownBlock) ∧ some k_ ≠ (.slice Ao124 t992.length co124 : Value).ownBlock) ∧ some k_ ≠ (.slice Ao130 t995.length co130 : Value).ownBlock)) (n := t947.length) (c := co21) ?_).2.2; exact (by (with_reducible repeat (first | apply Kd.R_alloc | apply Kd.R_drewN | apply Kd.R_drew)); exact (Kd.R_mono (Kd.R_far (p := ⟨gb999, 1, none⟩) (Kd.R_far (p := ⟨gb999, 0, none⟩) (Kd.R_types HO_955000.out BK999.out (by decide)) (fun _ hk => hk.2) (.slice Ao124 t992.length co124)) (fun _ hk => hk.2) (.slice Ao130 t995.length co130)) (fun _ h_ => h_.1)))); (case side6 => exact (Kd.R_reads' HO_955000.out).2.1); (case side7 => refine (Kd.R_reads' (e := 3) (base := w.heap.size) (ok := fun k_ => (((((some k_ ≠ (.slice Ao21 t947.length co21 : Value).ownBlock ∧ (some k_ ≠ (.slice Ao28 t979.length co28 : Value).ownBlock ∧ (some k_ ≠ (.slice Ao32 t980.length co32 : Value).ownBlock ∧ (some k_ ≠ (.slice Ao35 t962.length co35 : Value).ownBlock ∧ some k_ ≠ (.slice Ao40 t965.length co40 : Value).ownBlock)))) ∧ some k_ ≠ (.slice Ao120 t986.length co120 : Value).ownBlock) ∧ some k_ ≠ (.slice Ao121 t989.length co121 : Value).ownBlock) ∧ some k_ ≠ (.slice Ao124 t992.length co124 : Value).ownBlock) ∧ some k_ ≠ (.slice Ao130 t995.length co130 : Value).ownBlock)) (n := t950.length) (c := co24) ?_).2.2; exact (by (with_reducible repeat (first | apply Kd.R_alloc | apply Kd.R_drewN | apply Kd.R_drew)); exact (Kd.R_mono (Kd.R_far (p := ⟨gb999, 1, none⟩) (Kd.R_far (p := ⟨gb999, 0, none⟩) (Kd.R_types HO_955001.out BK999.out (by decide)) (fun _ hk => hk.2) (.slice Ao124 t992.length co124)) (fun _ hk => hk.2) (.slice Ao130 t995.length co130)) (fun _ h_ => h_.1)))); (case side8 => exact (Kd.R_reads' HO_955001.out).2.1); rintro e w142 ⟨rfl, hb⟩; refine ⟨_, rfl, ?_⟩; have n0_ := Aside0.mk (Kd.R_below (by (with_reducible repeat (first | apply Kd.R_alloc | apply Kd.R_drewN | apply Kd.R_drew)); exact (Kd.R_mono (Kd.R_far (p := ⟨gb999, 1, none⟩) (Kd.R_far (p := ⟨gb999, 0, none⟩) (Kd.R_types HO_955000.out BK999.out (by decide)) (fun _ hk => hk.2) (.slice Ao124 t992.length co124)) (fun _ hk => hk.2) (.slice Ao130 t995.length co130)) (fun _ h_ => h_.1))) hb); have n1_ := Aside0.mk (Kd.R_below (by (with_reducible repeat (first | apply Kd.R_alloc | apply Kd.R_drewN | apply Kd.R_drew)); exact (Kd.R_mono (Kd.R_far (p := ⟨gb999, 1, none⟩) (Kd.R_far (p := ⟨gb999, 0, none⟩) (Kd.R_types HO_955001.out BK999.out (by decide)) (fun _ hk => hk.2) (.slice Ao124 t992.length co124)) (fun _ hk => hk.2) (.slice Ao130 t995.length co130)) (fun _ h_ => h_.1))) hb); have n2_ := Aside0.mk (Kd.R_below (by (with_reducible repeat (first | apply Kd.R_alloc | apply Kd.R_drewN | apply Kd.R_drew)); exact (Kd.R_mono (Kd.R_far (p := ⟨gb999, 1, none⟩) (Kd.R_far (p := ⟨gb999, 0, none⟩) (Kd.R_types HO_962000.out BK999.out (by decide)) (fun _ hk => hk.2) (.slice Ao124 t992.length co124)) (fun _ hk => hk.2) (.slice Ao130 t995.length co130)) (fun _ h_ => h_.1))) hb); have n3_ := Aside0.mk (Kd.R_below (by (with_reducible repeat (first | apply Kd.R_alloc | apply Kd.R_drewN | apply Kd.R_drew)); exact (Kd.R_mono (Kd.R_far (p := ⟨gb999, 1, none⟩) (Kd.R_far (p := ⟨gb999, 0, none⟩) (Kd.R_types HO_962001.out BK999.out (by decide)) (fun _ hk => hk.2) (.slice Ao124 t992.length co124)) (fun _ hk => hk.2) (.slice Ao130 t995.length co130)) (fun _ h_ => h_.1))) hb); have n4_ := Aside0.mk (Kd.R_below (by (with_reducible repeat (first | apply Kd.R_alloc | apply Kd.R_drewN | apply Kd.R_drew)); exact (Kd.R_mono (Kd.R_far (p := ⟨gb999, 1, none⟩) (Kd.R_far (p := ⟨gb999, 0, none⟩) (Kd.R_types HO_970000.out BK999.out (by decide)) (fun _ hk => hk.2) (.slice Ao124 t992.length co124)) (fun _ hk => hk.2) (.slice Ao130 t995.length co130)) (fun _ h_ => h_.1))) hb); have n5_ := Aside0.mk (Kd.R_below (by (with_reducible repeat (first | apply Kd.R_alloc | apply Kd.R_drewN | apply Kd.R_drew)); exact (Kd.R_mono (Kd.R_far (p := ⟨gb999, 1, none⟩) (Kd.R_far (p := ⟨gb999, 0, none⟩) (Kd.R_types HO_970001.out BK999.out (by decide)) (fun _ hk => hk.2) (.slice Ao124 t992.length co124)) (fun _ hk => hk.2) (.slice Ao130 t995.length co130)) (fun _ h_ => h_.1))) hb); have n6_ := Aside0.mk (Kd.R_below (by (with_reducible repeat (first | apply Kd.R_alloc | apply Kd.R_drewN | apply Kd.R_drew)); exact (Kd.R_mono (Kd.R_far (p := ⟨gb999, 1, none⟩) (Kd.R_far (p := ⟨gb999, 0, none⟩) (Kd.R_types HO988.out BK999.out (by decide)) (fun _ hk => hk.2) (.slice Ao124 t992.length co124)) (fun _ hk => hk.2) (.slice Ao130 t995.length co130)) (fun _ h_ => h_.1))) hb); have n7_ := Aside0.mk (Kd.R_below (by (with_reducible repeat (first | apply Kd.R_alloc | apply Kd.R_drewN | apply Kd.R_drew)); exact (Kd.R_mono (Kd.R_far (p := ⟨gb999, 1, none⟩) (Kd.R_far (p := ⟨gb999, 0, none⟩) (Kd.R_types HO991.out BK999.out (by decide)) (fun _ hk => hk.2) (.slice Ao124 t992.length co124)) (fun _ hk => hk.2) (.slice Ao130 t995.length co130)) (fun _ h_ => h_.1))) hb); have n8_ := Aside0.mk (Kd.R_below (by (with_reducible repeat (first | apply Kd.R_alloc | apply Kd.R_drewN | apply Kd.R_drew)); exact (Kd.R_mono (Kd.R_far (p := ⟨gb999, 1, none⟩) (Kd.R_far (p := ⟨gb999, 0, none⟩) (Kd.R_types HO994.out BK999.out (by decide)) (fun _ hk => hk.2) (.slice Ao124 t992.length co124)) (fun _ hk => hk.2) (.slice Ao130 t995.length co130)) (fun _ h_ => h_.1))) hb); have n9_ := Aside0.mk (Kd.R_below (by (with_reducible repeat (first | apply Kd.R_alloc | apply Kd.R_drewN | apply Kd.R_drew)); exact (Kd.R_mono (Kd.R_far (p := ⟨gb999, 1, none⟩) (Kd.R_far (p := ⟨gb999, 0, none⟩) (Kd.R_types HO997.out BK999.out (by decide)) (fun _ hk => hk.2) (.slice Ao124 t992.length co124)) (fun _ hk => hk.2) (.slice Ao130 t995.length co130)) (fun _ h_ => h_.1))) hb); have n10_ := Aside0.mk (blk_below (g := gb939) (o := .cells #[.slice A0_0 l0_0.length c0_0, .slice A0_1 l0_1.length c0_1] 24 (0, 0)) (by (with_reducible repeat (first | refine blk_drewN ?_ _ | refine blk_drew ?_ | refine blk_alloc ?_ _)); refine blk_far ?_ NB939_999.out _; (with_reducible repeat (first | refine blk_drewN ?_ _ | refine blk_drew ?_ | refine blk_alloc ?_ _)); refine blk_far ?_ NB939_999.out _; (with_reducible repeat (first | refine blk_drewN ?_ _ | refine blk_drew ?_ | refine blk_alloc ?_ _)); exact BK939.out) hb); have n11_ := Aside0.mk (blk_below (g := gb954) (o := .cells #[.slice Ao21 t947.length co21, .slice Ao24 t950.length co24] 27 (0, 0)) (by (with_reducible repeat (first | refine blk_drewN ?_ _ | refine blk_drew ?_ | refine blk_alloc ?_ _)); refine blk_far ?_ NB954_999.out _; (with_reducible repeat (first | refine blk_drewN ?_ _ | refine blk_drew ?_ | refine blk_alloc ?_ _)); refine blk_far ?_ NB954_999.out _; (with_reducible repeat (first | refine blk_drewN ?_ _ | refine blk_drew ?_ | refine blk_alloc ?_ _)); exact BK954.out) hb); have n12_ := Aside0.mk (blk_below (g := gb961) (o := .cells #[.slice Ao28 t979.length co28, .slice Ao32 t980.length co32] 27 (0, 0)) (by (with_reducible repeat (first | refine blk_drewN ?_ _ | refine blk_drew ?_ | refine blk_alloc ?_ _)); refine blk_far ?_ NB961_999.out _; (with_reducible repeat (first | refine blk_drewN ?_ _ | refine blk_drew ?_ | refine blk_alloc ?_ _)); refine blk_far ?_ NB961_999.out _; (with_reducible repeat (first | refine blk_drewN ?_ _ | refine blk_drew ?_ | refine blk_alloc ?_ _)); exact BK961.out) hb); have n13_ := Aside0.mk (blk_below (g := gb969) (o := .cells #[.slice Ao35 t962.length co35, .slice Ao40 t965.length co40] 27 (0, 0)) (by (with_reducible repeat (first | refine blk_drewN ?_ _ | refine blk_drew ?_ | refine blk_alloc ?_ _)); refine blk_far ?_ NB969_999.out _; (with_reducible repeat (first | refine blk_drewN ?_ _ | refine blk_drew ?_ | refine blk_alloc ?_ _)); refine blk_far ?_ NB969_999.out _; (with_reducible repeat (first | refine blk_drewN ?_ _ | refine blk_drew ?_ | refine blk_alloc ?_ _)); exact BK969.out) hb); have n14_ := Aside0.mk (blk_below (g := gb999) (o := .cells #[.slice Ao124 t992.length co124, .slice Ao130 t995.length co130] 27 (0, 0)) (by (with_reducible repeat (first | refine blk_drewN ?_ _ | refine blk_drew ?_ | refine blk_alloc ?_ _)); refine blk_put (cs := #[.slice Ao124 t992.length co124, .slice none 0 0]) ?_ 1 _ rfl; (with_reducible repeat (first | refine blk_drewN ?_ _ | refine blk_drew ?_ | refine blk_alloc ?_ _)); refine blk_put (cs := #[.slice none 0 0, .slice none 0 0]) ?_ 0 _ rfl; (with_reducible repeat (first | refine blk_drewN ?_ _ | refine blk_drew ?_ | refine blk_alloc ?_ _)); exact BK999.out) hb); have n15_ := Aside0.mk (below_step (by repeat (first | (with_reducible first | exact HB.out | apply below_alloc | apply pw_below_drewN | apply below_drew1 | refine below_set ?_ GE939.out | refine below_set ?_ GE954.out | refine below_set ?_ GE961.out | refine below_set ?_ GE969.out | refine below_set ?_ GE999.out) | exact HB.out)) hb); clear HO_955000; clear HO_955001; clear HO_962000; clear HO_962001; clear HO_970000; clear HO_970001; clear HO988; clear HO991; clear HO994; clear HO997; clear BK939; clear BK954; clear BK961; clear BK969; clear BK999; clear HB; have HO_955000 := n0_; have HO_955001 := n1_; have HO_962000 := n2_; have HO_962001 := n3_; have HO_970000 := n4_; have HO_970001 := n5_; have HO988 := n6_; have HO991 := n7_; have HO994 := n8_; have HO997 := n9_; have BK939 := n10_; have BK954 := n11_; have BK961 := n12_; have BK969 := n13_; have BK999 := n14_; have HB := n15_; clear n0_ n1_ n2_ n3_ n4_ n5_ n6_ n7_ n8_ n9_ n10_ n11_ n12_ n13_ n14_ n15_; (try clear hb); (try clear hb2); (try clear hk); (try clear hi)))
                          go_meet
                          case rel => exact ⟨_, ((t998 != t953)), (by first | rfl | (simp; done) | (simp [*]; done)), H', ⟨by have := HJ10.out; have := HJ63.out; first | omega | exact Nat.le_refl _⟩, ⟨by (try simp only [hl962000_63]); (try simp only [hl962001_63]); (with_reducible repeat (first | apply Kd.R_alloc | apply Kd.R_drewN | apply Kd.R_drew)); exact Kd.R_mono HO_955000.out (fun _ hk => ⟨hk.1.1.1.1.1, ⟨hk.1.1.1.1.2.1, ⟨hk.1.1.1.1.2.2.1, ⟨hk.1.1.1.1.2.2.2.1, ⟨hk.1.1.1.1.2.2.2.2, ⟨hk.1.2, hk.2⟩⟩⟩⟩⟩⟩)⟩, ⟨by (try simp only [hl962000_63]); (try simp only [hl962001_63]); (with_reducible repeat (first | apply Kd.R_alloc | apply Kd.R_drewN | apply Kd.R_drew)); exact Kd.R_mono HO_955001.out (fun _ hk => ⟨hk.1.1.1.1.1, ⟨hk.1.1.1.1.2.1, ⟨hk.1.1.1.1.2.2.1, ⟨hk.1.1.1.1.2.2.2.1, ⟨hk.1.1.1.1.2.2.2.2, ⟨hk.1.2, hk.2⟩⟩⟩⟩⟩⟩)⟩, ⟨by (try simp only [hl962000_63]); (try simp only [hl962001_63]); (with_reducible repeat (first | apply Kd.R_alloc | apply Kd.R_drewN | apply Kd.R_drew)); exact Kd.R_mono HO_962000.out (fun _ hk => ⟨hk.1.1.1.1.1, ⟨hk.1.1.1.1.2.1, ⟨hk.1.1.1.1.2.2.1, ⟨hk.1.1.1.1.2.2.2.1, ⟨hk.1.1.1.1.2.2.2.2, ⟨hk.1.2, hk.2⟩⟩⟩⟩⟩⟩)⟩, ⟨by (try simp only [hl962000_63]); (try simp only [hl962001_63]); (with_reducible repeat (first | apply Kd.R_alloc | apply Kd.R_drewN | apply Kd.R_drew)); exact Kd.R_mono HO_962001.out (fun _ hk => ⟨hk.1.1.1.1.1, ⟨hk.1.1.1.1.2.1, ⟨hk.1.1.1.1.2.2.1, ⟨hk.1.1.1.1.2.2.2.1, ⟨hk.1.1.1.1.2.2.2.2, ⟨hk.1.2, hk.2⟩⟩⟩⟩⟩⟩)⟩, ⟨by (try simp only [hl962000_63]); (try simp only [hl962001_63]); (with_reducible repeat (first | apply Kd.R_alloc | apply Kd.R_drewN | apply Kd.R_drew)); exact Kd.R_mono HO_970000.out (fun _ hk => ⟨hk.1.1.1.1.1, ⟨hk.1.1.1.1.2.1, ⟨hk.1.1.1.1.2.2.1, ⟨hk.1.1.1.1.2.2.2.1, ⟨hk.1.1.1.1.2.2.2.2, ⟨hk.1.2, hk.2⟩⟩⟩⟩⟩⟩)⟩, ⟨by (try simp only [hl962000_63]); (try simp only [hl962001_63]); (with_reducible repeat (first | apply Kd.R_alloc | apply Kd.R_drewN | apply Kd.R_drew)); exact Kd.R_mono HO_970001.out (fun _ hk => ⟨hk.1.1.1.1.1, ⟨hk.1.1.1.1.2.1, ⟨hk.1.1.1.1.2.2.1, ⟨hk.1.1.1.1.2.2.2.1, ⟨hk.1.1.1.1.2.2.2.2, ⟨hk.1.2, hk.2⟩⟩⟩⟩⟩⟩)⟩, ⟨by (try simp only [hl962000_63]); (try simp only [hl962001_63]); (with_reducible repeat (first | apply Kd.R_alloc | apply Kd.R_drewN | apply Kd.R_drew)); exact Kd.R_mono HO994.out (fun _ hk => ⟨hk.1.1.1.1.1.1.1.2, ⟨hk.1.1.1.1.1.1.2, ⟨hk.1.1.1.1.1.2, ⟨hk.1.1.1.1.2, ⟨hk.1.1.1.2, ⟨hk.1.1.2, hk.1.1.1.1.1.1.1.1⟩⟩⟩⟩⟩⟩)⟩, ⟨by (try simp only [hl962000_63]); (try simp only [hl962001_63]); (with_reducible repeat (first | apply Kd.R_alloc | apply Kd.R_drewN | apply Kd.R_drew)); exact Kd.R_mono HO997.out (fun _ hk => ⟨hk.1.1.1.1.1.1.1.2, ⟨hk.1.1.1.1.1.1.2, ⟨hk.1.1.1.1.1.2, ⟨hk.1.1.1.1.2, ⟨hk.1.1.1.2, ⟨hk.1.1.2, hk.1.1.1.1.1.1.1.1⟩⟩⟩⟩⟩⟩)⟩, ⟨by (try simp only [hl962000_63]); (try simp only [hl962001_63]); (with_reducible repeat (first | refine blk_drewN ?_ _ | refine blk_drew ?_ | refine blk_alloc ?_ _)); exact BK939.out⟩, ⟨by (try simp only [hl962000_63]); (try simp only [hl962001_63]); (with_reducible repeat (first | refine blk_drewN ?_ _ | refine blk_drew ?_ | refine blk_alloc ?_ _)); exact BK954.out⟩, ⟨by (try simp only [hl962000_63]); (try simp only [hl962001_63]); (with_reducible repeat (first | refine blk_drewN ?_ _ | refine blk_drew ?_ | refine blk_alloc ?_ _)); exact BK961.out⟩, ⟨by (try simp only [hl962000_63]); (try simp only [hl962001_63]); (with_reducible repeat (first | refine blk_drewN ?_ _ | refine blk_drew ?_ | refine blk_alloc ?_ _)); exact BK969.out⟩, ⟨by (try simp only [hl962000_63]); (try simp only [hl962001_63]); (with_reducible repeat (first | refine blk_drewN ?_ _ | refine blk_drew ?_ | refine blk_alloc ?_ _)); exact BK999.out⟩, ⟨by repeat (first | (with_reducible first | exact HB.out | apply below_alloc | apply pw_below_drewN | apply below_drew1 | refine below_set ?_ GE939.out | refine below_set ?_ GE954.out | refine below_set ?_ GE961.out | refine below_set ?_ GE969.out | refine below_set ?_ GE999.out) | exact HB.out)⟩⟩
                        · replace c132 := Bool.eq_false_iff.mpr c132
                          subst c132
                          have H1 : (laws_FnExactUnturnSurface.j2 kj63 t982 true t983 t984) = some true := by rw [if_neg (show ¬ (false = true) by decide)] at H; exact H
                          clear H
                          have H := H1
                          clear H1
                          exact absurd H (by cases kj63 <;> simp [laws_FnExactUnturnSurface.j2])
                      case rest =>
                        clear HC108
                        try clear c1
                        try clear c2
                        try clear p2
                        try clear c3
                        try clear c3b0
                        try clear c4
                        try clear c5
                        try clear c6
                        try clear c7
                        try clear c8
                        try clear c9
                        try clear c10
                        try clear c11
                        try clear c12
                        try clear c13
                        try clear c14
                        try clear c15
                        try clear c17
                        try clear c19
                        try clear c22
                        try clear c29
                        try clear c30
                        try clear c36
                        try clear c37
                        try clear c38
                        try clear c42
                        try clear c43
                        try clear c44
                        try clear c45
                        try clear c46
                        try clear c47
                        try clear c48
                        try clear c51
                        try clear c52
                        try clear c53
                        try clear c55
                        try clear c56
                        try clear c59
                        try clear c62
                        try clear c70
                        try clear c71
                        try clear c72
                        try clear c75
                        try clear c75b0
                        try clear c77
                        try clear c78
                        try clear c79
                        try clear c80
                        try clear c82
                        try clear c83
                        try clear c86
                        try clear c87
                        try clear c88
                        try clear c90
                        try clear c91
                        try clear c94
                        try clear c97
                        try clear c97b0
                        try clear c98
                        try clear c99
                        try clear c100
                        try clear c105
                        try clear c105b0
                        try clear c105b1
                        try clear c109
                        try clear c110
                        try clear c111
                        try clear c116
                        try clear c117
                        try clear c125
                        try clear c126
                        try clear c127
                        try clear c128
                        try clear c132
                        try clear c133
                        try clear c134
                        try clear c135
                        try clear c136
                        try clear c138
                        try clear c139
                        try clear c140
                        try clear c143
                        try clear c144
                        try clear c145
                        try clear c146
                        try clear c148
                        try clear c149
                        try clear c150
                        try clear hcz101_0
                        try clear hcz101_1
                        try clear hcz103_0
                        try clear hcz103_1
                        try clear hcz112_0
                        try clear hcz112_1
                        try clear hcz114_0
                        try clear hcz114_1
                        try clear hcz118_0
                        try clear hcz118_1
                        try clear hcz129_0
                        try clear hcz129_1
                        try clear hcz137_0
                        try clear hcz137_1
                        try clear hcz13_0
                        try clear hcz13_1
                        try clear hcz141_0
                        try clear hcz141_1
                        try clear hcz147_0
                        try clear hcz147_1
                        try clear hcz151_0
                        try clear hcz151_1
                        try clear hcz15_0
                        try clear hcz15_1
                        try clear hcz23_0
                        try clear hcz23_1
                        try clear hcz25_0
                        try clear hcz25_1
                        try clear hcz31_0
                        try clear hcz31_1
                        try clear hcz39_0
                        try clear hcz39_1
                        try clear hcz46_0
                        try clear hcz46_1
                        try clear hcz49_0
                        try clear hcz49_1
                        try clear hcz54_0
                        try clear hcz54_1
                        try clear hcz57_0
                        try clear hcz57_1
                        try clear hcz5_0
                        try clear hcz5_1
                        try clear hcz73_0
                        try clear hcz73_1
                        try clear hcz81_0
                        try clear hcz81_1
                        try clear hcz84_0
                        try clear hcz84_1
                        try clear hcz89_0
                        try clear hcz89_1
                        try clear hcz92_0
                        try clear hcz92_1
                        try clear hfz101_0
                        try clear hfz101_1
                        try clear hfz103_0
                        try clear hfz103_1
                        try clear hfz112_0
                        try clear hfz112_1
                        try clear hfz114_0
                        try clear hfz114_1
                        try clear hfz118_0
                        try clear hfz118_1
                        try clear hfz129_0
                        try clear hfz129_1
                        try clear hfz137_0
                        try clear hfz137_1
                        try clear hfz13_0
                        try clear hfz13_1
                        try clear hfz141_0
                        try clear hfz141_1
                        try clear hfz147_0
                        try clear hfz147_1
                        try clear hfz151_0
                        try clear hfz151_1
                        try clear hfz15_0
                        try clear hfz15_1
                        try clear hfz23_0
                        try clear hfz23_1
                        try clear hfz25_0
                        try clear hfz25_1
                        try clear hfz31_0
                        try clear hfz31_1
                        try clear hfz39_0
                        try clear hfz39_1
                        try clear hfz46_0
                        try clear hfz46_1
                        try clear hfz49_0
                        try clear hfz49_1
                        try clear hfz54_0
                        try clear hfz54_1
                        try clear hfz57_0
                        try clear hfz57_1
                        try clear hfz5_0
                        try clear hfz5_1
                        try clear hfz73_0
                        try clear hfz73_1
                        try clear hfz81_0
                        try clear hfz81_1
                        try clear hfz84_0
                        try clear hfz84_1
                        try clear hfz89_0
                        try clear hfz89_1
                        try clear hfz92_0
                        try clear hfz92_1
                        try clear p2
                        obtain ⟨kq, x87_107, rfl, HA, HJ107, HO_955000, HO_955001, HO_962000, HO_962001, HO_970000, HO_970001, HO_1000000, HO_1000001, BK939, BK954, BK961, BK969, BK999, HB⟩ := hcut
                        have hl970000_107 := (Kd.R_reads' HO_970000.out).1
                        rw [hl970000_107] at HO_970000
                        (try simp only [hl970000_107])
                        (try simp only [hl970000_107] at BK939)
                        (try simp only [hl970000_107] at BK954)
                        (try simp only [hl970000_107] at BK961)
                        (try simp only [hl970000_107] at BK969)
                        (try simp only [hl970000_107] at BK999)
                        (try simp only [hl970000_107] at HO_955000)
                        (try simp only [hl970000_107] at HO_955001)
                        (try simp only [hl970000_107] at HO_962000)
                        (try simp only [hl970000_107] at HO_962001)
                        (try simp only [hl970000_107] at HO_970001)
                        (try simp only [hl970000_107] at HO_1000000)
                        (try simp only [hl970000_107] at HO_1000001)
                        have hl970001_107 := (Kd.R_reads' HO_970001.out).1
                        rw [hl970001_107] at HO_970001
                        (try simp only [hl970001_107])
                        (try simp only [hl970001_107] at BK939)
                        (try simp only [hl970001_107] at BK954)
                        (try simp only [hl970001_107] at BK961)
                        (try simp only [hl970001_107] at BK969)
                        (try simp only [hl970001_107] at BK999)
                        (try simp only [hl970001_107] at HO_955000)
                        (try simp only [hl970001_107] at HO_955001)
                        (try simp only [hl970001_107] at HO_962000)
                        (try simp only [hl970001_107] at HO_962001)
                        (try simp only [hl970001_107] at HO_970000)
                        (try simp only [hl970001_107] at HO_1000000)
                        (try simp only [hl970001_107] at HO_1000001)
                        cases kq with
                        | zero => exact absurd HA.out (by simp [laws_FnExactUnturnSurface.j2])
                        | succ kj107 =>
                          have H := HA.out
                          clear HA
                          simp only [laws_FnExactUnturnSurface.j2] at H
                          by_cases c153 : x87_107 = true
                          · subst c153
                            have H1 : (some false) = some true := by rw [if_pos rfl] at H; exact H
                            clear H
                            have H := H1
                            clear H1
                            exact absurd H (by simp)
                          · replace c153 := Bool.eq_false_iff.mpr c153
                            subst c153
                            have H1 : ((laws_heldSurface.f kj107 t983 t984 1).bind fun t1001 => (if t1001 < 0 then (some false) else (if t1001 = t982 then (some true) else (some false)))) = some true := by rw [if_neg (show ¬ (false = true) by decide)] at H; exact H
                            clear H
                            have H := H1
                            clear H1
                            replace H := Option.bind_eq_some_iff.mp H
                            obtain ⟨t1001, A1540, H⟩ := H
                            replace H : (if t1001 < 0 then (some false) else (if t1001 = t982 then (some true) else (some false))) = some true := H
                            have A154 := Aside0.mk A1540
                            clear A1540
                            by_cases c155 : t1001 < 0
                            · rw [if_pos c155] at H
                              have c155b0 : decide (t1001 < 0) = true := decide_eq_true c155
                              clear c155
                              exact absurd H (by simp)
                            · rw [if_neg c155] at H
                              have c155b0 : decide (t1001 < 0) = false := decide_eq_false c155
                              clear c155
                              by_cases c162 : t1001 = t982
                              · rw [if_pos c162] at H
                                have c162b0 : (t1001 == t982) = true := beq_iff_eq.mpr c162
                                have c162b1 : (t1001 != t982) = false := bne_eq_false_iff_eq.mpr c162
                                clear c162
                                have hnb163 := NB969_939.out
                                have hnc163 := NB939_969.out
                                have hnb164 := NB969_954.out
                                have hnc164 := NB954_969.out
                                have hnb165 := NB969_961.out
                                have hnc165 := NB961_969.out
                                have hnb166 := NB969_999.out
                                have hnc166 := NB999_969.out
                                have hcz167_0 : wc.cell? ⟨gb969, 0, none⟩ = some (.slice Ao35 t983.length co35) := (blk_cell BK969.out 0).trans rfl
                                have hcz167_1 : wc.cell? ⟨gb969, 1, none⟩ = some (.slice Ao40 t984.length co40) := (blk_cell BK969.out 1).trans rfl
                                have hfz167_0 := blk_frozen BK969.out 0
                                have hfz167_1 := blk_frozen BK969.out 1
                                go_wp2_with (first | ((with_reducible refine gate_callee (f := 46) rfl ?_); refine goesL_ (some 90) rfl rfl Try.func46 (by kernel_rfl) rfl #[.agg #[.slice Ao35 t983.length co35, .slice Ao40 t984.length co40], .int .i64 1] rfl (by (try simp only [List.map_toArray, List.map_cons, List.map_nil]); first | done | rfl | (simp only [List.length_drop, List.length_take]; rfl)) ?_; (with_reducible refine (laws_heldSurface.calls kj107 _ _ t983 _ _ t984 1 t1001 _ ?side1 ?side2 ?side3 ?side4 A154.out).mono ?_); (case side1 => repeat (first | exact (Kd.R_reads' HO_970000.out).2.2 | (with_reducible refine Kd.C_alloc ?_ _) | (with_reducible refine Kd.C_drewN ?_ _) | (with_reducible refine Kd.C_drew ?_))); (case side2 => exact (Kd.R_reads' HO_970000.out).2.1); (case side3 => repeat (first | exact (Kd.R_reads' HO_970001.out).2.2 | (with_reducible refine Kd.C_alloc ?_ _) | (with_reducible refine Kd.C_drewN ?_ _) | (with_reducible refine Kd.C_drew ?_))); (case side4 => exact (Kd.R_reads' HO_970001.out).2.1); rintro e w168 ⟨rfl, hb⟩; refine ⟨_, rfl, ?_⟩; have n0_ := Aside0.mk (Kd.R_below (by (with_reducible repeat (first | apply Kd.R_alloc | apply Kd.R_drewN | apply Kd.R_drew)); exact HO_955000.out) hb); have n1_ := Aside0.mk (Kd.R_below (by (with_reducible repeat (first | apply Kd.R_alloc | apply Kd.R_drewN | apply Kd.R_drew)); exact HO_955001.out) hb); have n2_ := Aside0.mk (Kd.R_below (by (with_reducible repeat (first | apply Kd.R_alloc | apply Kd.R_drewN | apply Kd.R_drew)); exact HO_962000.out) hb); have n3_ := Aside0.mk (Kd.R_below (by (with_reducible repeat (first | apply Kd.R_alloc | apply Kd.R_drewN | apply Kd.R_drew)); exact HO_962001.out) hb); have n4_ := Aside0.mk (Kd.R_below (by (with_reducible repeat (first | apply Kd.R_alloc | apply Kd.R_drewN | apply Kd.R_drew)); exact HO_970000.out) hb); have n5_ := Aside0.mk (Kd.R_below (by (with_reducible repeat (first | apply Kd.R_alloc | apply Kd.R_drewN | apply Kd.R_drew)); exact HO_970001.out) hb); have n6_ := Aside0.mk (Kd.R_below (by (with_reducible repeat (first | apply Kd.R_alloc | apply Kd.R_drewN | apply Kd.R_drew)); exact HO_1000000.out) hb); have n7_ := Aside0.mk (Kd.R_below (by (with_reducible repeat (first | apply Kd.R_alloc | apply Kd.R_drewN | apply Kd.R_drew)); exact HO_1000001.out) hb); have n8_ := Aside0.mk (blk_below (g := gb939) (o := .cells #[.slice A0_0 l0_0.length c0_0, .slice A0_1 l0_1.length c0_1] 24 (0, 0)) (by (with_reducible repeat (first | refine blk_drewN ?_ _ | refine blk_drew ?_ | refine blk_alloc ?_ _)); exact BK939.out) hb); have n9_ := Aside0.mk (blk_below (g := gb954) (o := .cells #[.slice Ao21 t947.length co21, .slice Ao24 t950.length co24] 27 (0, 0)) (by (with_reducible repeat (first | refine blk_drewN ?_ _ | refine blk_drew ?_ | refine blk_alloc ?_ _)); exact BK954.out) hb); have n10_ := Aside0.mk (blk_below (g := gb961) (o := .cells #[.slice Ao28 t979.length co28, .slice Ao32 t980.length co32] 27 (0, 0)) (by (with_reducible repeat (first | refine blk_drewN ?_ _ | refine blk_drew ?_ | refine blk_alloc ?_ _)); exact BK961.out) hb); have n11_ := Aside0.mk (blk_below (g := gb969) (o := .cells #[.slice Ao35 t983.length co35, .slice Ao40 t984.length co40] 27 (0, 0)) (by (with_reducible repeat (first | refine blk_drewN ?_ _ | refine blk_drew ?_ | refine blk_alloc ?_ _)); exact BK969.out) hb); have n12_ := Aside0.mk (blk_below (g := gb999) (o := .cells #[.slice Ao124 t992.length co124, .slice Ao130 t995.length co130] 27 (0, 0)) (by (with_reducible repeat (first | refine blk_drewN ?_ _ | refine blk_drew ?_ | refine blk_alloc ?_ _)); exact BK999.out) hb); have n13_ := Aside0.mk (below_step (by repeat (first | (with_reducible first | exact HB.out | apply below_alloc | apply pw_below_drewN | apply below_drew1 | refine below_set ?_ GE939.out | refine below_set ?_ GE954.out | refine below_set ?_ GE961.out | refine below_set ?_ GE969.out | refine below_set ?_ GE999.out) | exact HB.out)) hb); clear HO_955000; clear HO_955001; clear HO_962000; clear HO_962001; clear HO_970000; clear HO_970001; clear HO_1000000; clear HO_1000001; clear BK939; clear BK954; clear BK961; clear BK969; clear BK999; clear HB; have HO_955000 := n0_; have HO_955001 := n1_; have HO_962000 := n2_; have HO_962001 := n3_; have HO_970000 := n4_; have HO_970001 := n5_; have HO_1000000 := n6_; have HO_1000001 := n7_; have BK939 := n8_; have BK954 := n9_; have BK961 := n10_; have BK969 := n11_; have BK999 := n12_; have HB := n13_; clear n0_ n1_ n2_ n3_ n4_ n5_ n6_ n7_ n8_ n9_ n10_ n11_ n12_ n13_; (try clear hb); (try clear hb2); (try clear hk); (try clear hi)))
                                go_ret
                                exact ⟨by first | rfl | (simp [errW_none, errW_some] <;> rfl) | (simp [*, errW_none, errW_some] <;> rfl), by repeat (first | (with_reducible first | exact HB.out | apply below_alloc | apply pw_below_drewN | apply below_drew1 | refine below_set ?_ GE939.out | refine below_set ?_ GE954.out | refine below_set ?_ GE961.out | refine below_set ?_ GE969.out | refine below_set ?_ GE999.out) | exact HB.out)⟩
                              · rw [if_neg c162] at H
                                have c162b0 : (t1001 == t982) = false := beq_eq_false_iff_ne.mpr c162
                                have c162b1 : (t1001 != t982) = true := bne_iff_ne.mpr c162
                                exact absurd H (by simp)
                    · rw [if_neg c105] at H
                      have c105b0 : (t985 == t982) = false := beq_eq_false_iff_ne.mpr c105
                      have c105b1 : (t985 != t982) = true := bne_iff_ne.mpr c105
                      exact absurd H (by simp)
          · replace c62 := Bool.eq_false_iff.mpr c62
            subst c62
            have H1 : (some false) = some true := by rw [if_neg (show ¬ (false = true) by decide)] at H; exact H
            clear H
            have H := H1
            clear H1
            exact absurd H (by simp)

/-- The pure statement of laws_FnExactUnturnSurface. -/
def laws_FnExactUnturnSurface.Pure : Prop := ∀ (l0_0 : List Int) (l0_1 : List Int), l0_0.length ≤ maxLen → (∀ x ∈ l0_0, (Lit.int .i64 x).wf = true) → l0_1.length ≤ maxLen → (∀ x ∈ l0_1, (Lit.int .i64 x).wf = true) → ∃ k, laws_FnExactUnturnSurface.f k l0_0 l0_1 = some true
theorem laws_FnExactUnturnSurface.walk (P : laws_FnExactUnturnSurface.Pure) (a0_0 : Option Addr) (len0_0 cap0_0 : Nat) (z0_0 : List Int) (a0_1 : Option Addr) (len0_1 cap0_1 : Nat) (z0_1 : List Int) (w : World) (w0_0 : ((a0_0 = none ∧ len0_0 = 0 ∧ cap0_0 = 0 ∧ z0_0 = []) ∨ ∃ x, a0_0 = some x ∧ len0_0 ≤ cap0_0 ∧ cap0_0 ≤ maxLen ∧ z0_0.length = cap0_0 ∧ (∀ i, i < z0_0.length → w.cell? (x.add i) = some (.int .i64 (z0_0.getD i 0))) ∧ ∀ n ∈ z0_0, (Lit.int .i64 n).wf = true)) (w0_1 : ((a0_1 = none ∧ len0_1 = 0 ∧ cap0_1 = 0 ∧ z0_1 = []) ∨ ∃ x, a0_1 = some x ∧ len0_1 ≤ cap0_1 ∧ cap0_1 ≤ maxLen ∧ z0_1.length = cap0_1 ∧ (∀ i, i < z0_1.length → w.cell? (x.add i) = some (.int .i64 (z0_1.getD i 0))) ∧ ∀ n ∈ z0_1, (Lit.int .i64 n).wf = true)) :
    Calls Try.prog 12 #[.agg #[.slice a0_0 len0_0 cap0_0, .slice a0_1 len0_1 cap0_1]] w fun e w' => e = .returned (.bool true) ∧ Below w.heap.size w w' := by
  obtain ⟨l0_0, rfl, hr0_0, hm0_0, hw0_0, hc0_0⟩ := ReadsInt.ofRowC w0_0
  obtain ⟨l0_1, rfl, hr0_1, hm0_1, hw0_1, hc0_1⟩ := ReadsInt.ofRowC w0_1
  obtain ⟨k, h⟩ := P l0_0 l0_1 hm0_0 hw0_0 hm0_1 hw0_1
  refine (laws_FnExactUnturnSurface.calls_true k _ _ l0_0 _ _ l0_1 w (Kd.C_of_reads (d := (0 : Int)) (h1 := fun _ => rfl) hr0_0) hc0_0 (Kd.C_of_reads (d := (0 : Int)) (h1 := fun _ => rfl) hr0_1) hc0_1 h).mono ?_
  rintro e w' ⟨rfl, hd⟩
  exact ⟨rfl, hd⟩

end Go.Proofs.Ytlohmpgbjgidpac.P
