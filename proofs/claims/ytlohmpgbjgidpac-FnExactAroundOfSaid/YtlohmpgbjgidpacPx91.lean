-- MADE by this project's printer (wip/mk) out of the translation; Lean checks it.
import Derived.Test.YtlohmpgbjgidpacPx0
import Derived.Test.YtlohmpgbjgidpacPx2
import Derived.Test.YtlohmpgbjgidpacPx11
import Derived.Test.YtlohmpgbjgidpacPx16
import Derived.Test.YtlohmpgbjgidpacPx17
import Derived.Test.YtlohmpgbjgidpacPx22
import Derived.Test.YtlohmpgbjgidpacPx24
import Derived.Test.YtlohmpgbjgidpacPx63
import Derived.Test.YtlohmpgbjgidpacPx69
import Derived.Test.YtlohmpgbjgidpacPx90
namespace Go.Proofs.Ytlohmpgbjgidpac.P
open Go.RowKit Go.Proofs.YtlohmpgbjgidpacW.PrintWords Go.Proofs.YtlohmpgbjgidpacW.PrintLast Go.Proofs.YtlohmpgbjgidpacW.PrintMore
attribute [local go_sem] max2_int min2_int max_two min_two max_three min_three max_four min_four   -- for this text's walks alone
set_option linter.unusedVariables false
set_option linter.unusedSimpArgs false

/-! ### laws_FnExactAroundOf: function 13 -/
def laws_FnExactAroundOf.j0 : Nat → List Int → List Int → Bool → List Int → List Int → Option (Bool)
  | 0, _, _, _, _, _ => none
  | k + 1, x4, x6, x42, x1008000, x1008001 => if x42 = true then (some false) else ((laws_markIntS.f k x6 1).bind fun bt1040 => ((laws_heldIntS.f k bt1040.2 1).bind fun t1042 => (if t1042 < 0 then (some false) else (if t1042 = bt1040.1 then ((laws_toSurface.f k x1008000 x1008001).bind fun bt1043 => ((impl_AroundOf.f k bt1043.1 bt1043.2).bind fun t1049 => ((laws_eqIntS.f k t1049 x4).bind fun t1052 => (if t1052 = true then ((laws_heldIntS.f k bt1040.2 1).bind fun t1053 => (if t1053 < 0 then (some false) else (if t1053 = bt1040.1 then (some true) else (some false)))) else (some false))))) else (some false)))))
def laws_FnExactAroundOf.f (k : Nat) (l0_0 : List Int) (l0_1 : List Int) : Option (Bool) := (laws_szSurface.f l0_0 l0_1 1048576).bind fun t1008 => (if t1008 < 0 then (some true) else ((laws_toSurface.f k l0_0 l0_1).bind fun bt1009 => ((spec_AroundOf.f k bt1009.1 bt1009.2).bind fun t1015 => ((laws_toSurface.f k l0_0 l0_1).bind fun bt1018 => ((impl_AroundOf.f k bt1018.1 bt1018.2).bind fun t1025 => ((laws_eqIntS.f k t1025 t1015).bind fun t1028 => (if t1028 = true then ((laws_toSurface.f k l0_0 l0_1).bind fun bt1029 => ((laws_eqSurface.f k bt1018.1 bt1018.2 bt1029.1 bt1029.2).bind fun t1035 => (if t1035 = true then ((laws_markSurface.f k bt1018.1 bt1018.2 1).bind fun bt1036 => (if bt1036.1 < 0 then (laws_FnExactAroundOf.j0 k t1015 t1025 true l0_0 l0_1) else ((laws_eqIntS.f k t1025 t1015).bind fun t1039 => (laws_FnExactAroundOf.j0 k t1015 t1025 (!t1039) l0_0 l0_1)))) else (some false)))) else (some false))))))))
theorem laws_FnExactAroundOf.mono_l : ∀ k, (∀ y0 y1 y2 y3 y4, LeO (laws_FnExactAroundOf.j0 k y0 y1 y2 y3 y4) (laws_FnExactAroundOf.j0 (k + 1) y0 y1 y2 y3 y4))
  | 0 => fun _ _ _ _ _ r h => by simp [laws_FnExactAroundOf.j0] at h
  | k + 1 => by
    have ih0 := laws_FnExactAroundOf.mono_l k
    · intro y0 y1 y2 y3 y4
      unfold laws_FnExactAroundOf.j0
      repeat' first
      | (with_reducible exact ih0 _ _ _ _ _)
      | (with_reducible exact impl_AroundOf.mono _ _ _)
      | (with_reducible exact laws_eqIntS.mono _ _ _)
      | (with_reducible exact laws_eqSurface.mono _ _ _ _ _)
      | (with_reducible exact laws_heldIntS.mono _ _ _)
      | (with_reducible exact laws_markIntS.mono _ _ _)
      | (with_reducible exact laws_markSurface.mono _ _ _ _)
      | (with_reducible exact laws_toSurface.mono _ _ _)
      | (with_reducible exact spec_AroundOf.mono _ _ _)
      | (with_reducible exact LeO.refl _)
      | (with_reducible exact LeO.none _)
      | (with_reducible refine LeO.ite ?_ ?_)
      | (with_reducible refine LeO.bind ?_ (fun _ => ?_))
      | exact ih0 _ _ _ _ _
      | exact impl_AroundOf.mono _ _ _
      | exact laws_eqIntS.mono _ _ _
      | exact laws_eqSurface.mono _ _ _ _ _
      | exact laws_heldIntS.mono _ _ _
      | exact laws_markIntS.mono _ _ _
      | exact laws_markSurface.mono _ _ _ _
      | exact laws_toSurface.mono _ _ _
      | exact spec_AroundOf.mono _ _ _
      | exact LeO.none _
      | refine LeO.ite ?_ ?_
      | refine LeO.bind ?_ (fun _ => ?_)
theorem laws_FnExactAroundOf.mono : ∀ a0 a1 k, LeO (laws_FnExactAroundOf.f k a0 a1) (laws_FnExactAroundOf.f (k + 1) a0 a1) := by
  intro a0 a1 k
  have ih0 := laws_FnExactAroundOf.mono_l k
  unfold laws_FnExactAroundOf.f
  repeat' first
      | (with_reducible exact ih0 _ _ _ _ _)
      | (with_reducible exact impl_AroundOf.mono _ _ _)
      | (with_reducible exact laws_eqIntS.mono _ _ _)
      | (with_reducible exact laws_eqSurface.mono _ _ _ _ _)
      | (with_reducible exact laws_heldIntS.mono _ _ _)
      | (with_reducible exact laws_markIntS.mono _ _ _)
      | (with_reducible exact laws_markSurface.mono _ _ _ _)
      | (with_reducible exact laws_toSurface.mono _ _ _)
      | (with_reducible exact spec_AroundOf.mono _ _ _)
      | (with_reducible exact LeO.refl _)
      | (with_reducible exact LeO.none _)
      | (with_reducible refine LeO.ite ?_ ?_)
      | (with_reducible refine LeO.bind ?_ (fun _ => ?_))
      | exact ih0 _ _ _ _ _
      | exact impl_AroundOf.mono _ _ _
      | exact laws_eqIntS.mono _ _ _
      | exact laws_eqSurface.mono _ _ _ _ _
      | exact laws_heldIntS.mono _ _ _
      | exact laws_markIntS.mono _ _ _
      | exact laws_markSurface.mono _ _ _ _
      | exact laws_toSurface.mono _ _ _
      | exact spec_AroundOf.mono _ _ _
      | exact LeO.none _
      | refine LeO.ite ?_ ?_
      | refine LeO.bind ?_ (fun _ => ?_)
set_option maxHeartbeats 8000000 in
set_option maxRecDepth 100000 in
theorem laws_FnExactAroundOf.calls_true (k : Nat) (A0_0 : Option Addr) (c0_0 : Nat) (l0_0 : List Int) (A0_1 : Option Addr) (c0_1 : Nat) (l0_1 : List Int) (w : World) (hr0_0 : Kd.C (Kd.int .i64) w A0_0 l0_0.length l0_0) (hc0_0 : l0_0.length ≤ c0_0) (hr0_1 : Kd.C (Kd.int .i64) w A0_1 l0_1.length l0_1) (hc0_1 : l0_1.length ≤ c0_1) (h : laws_FnExactAroundOf.f k l0_0 l0_1 = some true) :
    Calls Try.prog 13 #[.agg #[.slice A0_0 l0_0.length c0_0, .slice A0_1 l0_1.length c0_1]] w fun e w' => e = .returned (.bool true) ∧ Below w.heap.size w w' := by
  have hu24 := Try.underlying24
  have hu27 := Try.underlying27
  have HR0_0 := Aside0.mk hr0_0
  have HC0_0 := Aside0.mk hc0_0
  clear hr0_0 hc0_0
  have HR0_1 := Aside0.mk hr0_1
  have HC0_1 := Aside0.mk hc0_1
  clear hr0_1 hc0_1
  have HB := Aside0.mk (Below.refl w.heap.size w)
  have H : ((laws_szSurface.f l0_0 l0_1 1048576).bind fun t1008 => (if t1008 < 0 then (some true) else ((laws_toSurface.f k l0_0 l0_1).bind fun bt1009 => ((spec_AroundOf.f k bt1009.1 bt1009.2).bind fun t1015 => ((laws_toSurface.f k l0_0 l0_1).bind fun bt1018 => ((impl_AroundOf.f k bt1018.1 bt1018.2).bind fun t1025 => ((laws_eqIntS.f k t1025 t1015).bind fun t1028 => (if t1028 = true then ((laws_toSurface.f k l0_0 l0_1).bind fun bt1029 => ((laws_eqSurface.f k bt1018.1 bt1018.2 bt1029.1 bt1029.2).bind fun t1035 => (if t1035 = true then ((laws_markSurface.f k bt1018.1 bt1018.2 1).bind fun bt1036 => (if bt1036.1 < 0 then (laws_FnExactAroundOf.j0 k t1015 t1025 true l0_0 l0_1) else ((laws_eqIntS.f k t1025 t1015).bind fun t1039 => (laws_FnExactAroundOf.j0 k t1015 t1025 (!t1039) l0_0 l0_1)))) else (some false)))) else (some false))))))))) = some true := h
  clear h
  replace H := Option.bind_eq_some_iff.mp H
  obtain ⟨t1008, A20, H⟩ := H
  replace H : (if t1008 < 0 then (some true) else ((laws_toSurface.f k l0_0 l0_1).bind fun bt1009 => ((spec_AroundOf.f k bt1009.1 bt1009.2).bind fun t1015 => ((laws_toSurface.f k l0_0 l0_1).bind fun bt1018 => ((impl_AroundOf.f k bt1018.1 bt1018.2).bind fun t1025 => ((laws_eqIntS.f k t1025 t1015).bind fun t1028 => (if t1028 = true then ((laws_toSurface.f k l0_0 l0_1).bind fun bt1029 => ((laws_eqSurface.f k bt1018.1 bt1018.2 bt1029.1 bt1029.2).bind fun t1035 => (if t1035 = true then ((laws_markSurface.f k bt1018.1 bt1018.2 1).bind fun bt1036 => (if bt1036.1 < 0 then (laws_FnExactAroundOf.j0 k t1015 t1025 true l0_0 l0_1) else ((laws_eqIntS.f k t1025 t1015).bind fun t1039 => (laws_FnExactAroundOf.j0 k t1015 t1025 (!t1039) l0_0 l0_1)))) else (some false)))) else (some false)))))))) = some true := H
  have A2 := Aside0.mk A20
  clear A20
  by_cases c3 : t1008 < 0
  · rw [if_pos c3] at H
    have c3b0 : decide (t1008 < 0) = true := decide_eq_true c3
    clear c3
    go_enter Try.func13, Try.ntmps13
    go_wp2_with (first | ((with_reducible refine gate_dst (N := 1) rfl ?_); refine box_event ?hg (N := 1) ?hd (cs := #[.slice A0_0 l0_0.length c0_0, .slice A0_1 l0_1.length c0_1]) (t := 24) ?hr ?_; (case hd => rfl); (case hg => rfl); (case hr => first | (go_simp; done) | (go_simp; rfl)); intro gb1007 hg w4 hbox hb; have n0_ := Aside0.mk (below_step (by repeat (first | (with_reducible first | exact HB.out | apply below_alloc | apply pw_below_drewN | apply below_drew1) | exact HB.out)) hb); have n1_ := Aside0.mk (hbox); have n2_ := Aside0.mk ((by rw [hg]; exact (below_size (by repeat (first | (with_reducible first | exact HB.out | apply below_alloc | apply pw_below_drewN | apply below_drew1) | exact HB.out))) : w.heap.size ≤ gb1007)); have n3_ := Aside0.mk ((by rw [hg]; exact (below_size (by repeat (first | (with_reducible first | exact HB.out | apply below_alloc | apply pw_below_drewN | apply below_drew1) | exact HB.out))) : w.heap.size ≤ gb1007)); clear HB; have HB := n0_; have BK1007 := n1_; have GW1007 := n2_; have GE1007 := n3_; clear n0_ n1_ n2_ n3_; clear hb hbox hg; have hcz5_0 : w4.cell? ⟨gb1007, 0, none⟩ = some (.slice A0_0 l0_0.length c0_0) := (blk_cell BK1007.out 0).trans rfl; have hcz5_1 : w4.cell? ⟨gb1007, 1, none⟩ = some (.slice A0_1 l0_1.length c0_1) := (blk_cell BK1007.out 1).trans rfl; have hfz5_0 := blk_frozen BK1007.out 0; have hfz5_1 := blk_frozen BK1007.out 1) | ((with_reducible refine gate_callee (f := 15) rfl ?_); refine goesL_ (some 13) rfl rfl Try.func15 (by kernel_rfl) rfl #[.agg #[.slice A0_0 l0_0.length c0_0, .slice A0_1 l0_1.length c0_1], .int .i64 1048576] rfl (by (try simp only [List.map_toArray, List.map_cons, List.map_nil]); first | done | rfl | (simp only [List.length_drop, List.length_take]; rfl)) ?_; (with_reducible refine (laws_szSurface.calls _ _ l0_0 _ _ l0_1 1048576 t1008 _ ?side1 ?side2 ?side3 ?side4 A2.out).mono ?_); (case side1 => repeat (first | exact (Kd.C_below HR0_0.out HB.out) | (with_reducible refine Kd.C_alloc ?_ _) | (with_reducible refine Kd.C_drewN ?_ _) | (with_reducible refine Kd.C_drew ?_))); (case side2 => exact HC0_0.out); (case side3 => repeat (first | exact (Kd.C_below HR0_1.out HB.out) | (with_reducible refine Kd.C_alloc ?_ _) | (with_reducible refine Kd.C_drewN ?_ _) | (with_reducible refine Kd.C_drew ?_))); (case side4 => exact HC0_1.out); rintro e w6 ⟨rfl, hb⟩; refine ⟨_, rfl, ?_⟩; have n0_ := Aside0.mk (blk_below (g := gb1007) (o := .cells #[.slice A0_0 l0_0.length c0_0, .slice A0_1 l0_1.length c0_1] 24 (0, 0)) (by (with_reducible repeat (first | refine blk_drewN ?_ _ | refine blk_drew ?_ | refine blk_alloc ?_ _)); exact BK1007.out) hb); have n1_ := Aside0.mk (below_step (by repeat (first | (with_reducible first | exact HB.out | apply below_alloc | apply pw_below_drewN | apply below_drew1 | refine below_set ?_ GE1007.out) | exact HB.out)) hb); clear BK1007; clear HB; have BK1007 := n0_; have HB := n1_; clear n0_ n1_; (try clear hb); (try clear hb2); (try clear hk); (try clear hi)))
    go_ret
    exact ⟨by first | rfl | (simp [errW_none, errW_some] <;> rfl) | (simp [*, errW_none, errW_some] <;> rfl), by repeat (first | (with_reducible first | exact HB.out | apply below_alloc | apply pw_below_drewN | apply below_drew1 | refine below_set ?_ GE1007.out) | exact HB.out)⟩
  · rw [if_neg c3] at H
    have c3b0 : decide (t1008 < 0) = false := decide_eq_false c3
    clear c3
    replace H := Option.bind_eq_some_iff.mp H
    obtain ⟨⟨t1009, t1012⟩, A70, H⟩ := H
    replace H : ((spec_AroundOf.f k t1009 t1012).bind fun t1015 => ((laws_toSurface.f k l0_0 l0_1).bind fun bt1018 => ((impl_AroundOf.f k bt1018.1 bt1018.2).bind fun t1025 => ((laws_eqIntS.f k t1025 t1015).bind fun t1028 => (if t1028 = true then ((laws_toSurface.f k l0_0 l0_1).bind fun bt1029 => ((laws_eqSurface.f k bt1018.1 bt1018.2 bt1029.1 bt1029.2).bind fun t1035 => (if t1035 = true then ((laws_markSurface.f k bt1018.1 bt1018.2 1).bind fun bt1036 => (if bt1036.1 < 0 then (laws_FnExactAroundOf.j0 k t1015 t1025 true l0_0 l0_1) else ((laws_eqIntS.f k t1025 t1015).bind fun t1039 => (laws_FnExactAroundOf.j0 k t1015 t1025 (!t1039) l0_0 l0_1)))) else (some false)))) else (some false)))))) = some true := H
    have A7 := Aside0.mk A70
    clear A70
    replace H := Option.bind_eq_some_iff.mp H
    obtain ⟨t1015, A80, H⟩ := H
    replace H : ((laws_toSurface.f k l0_0 l0_1).bind fun bt1018 => ((impl_AroundOf.f k bt1018.1 bt1018.2).bind fun t1025 => ((laws_eqIntS.f k t1025 t1015).bind fun t1028 => (if t1028 = true then ((laws_toSurface.f k l0_0 l0_1).bind fun bt1029 => ((laws_eqSurface.f k bt1018.1 bt1018.2 bt1029.1 bt1029.2).bind fun t1035 => (if t1035 = true then ((laws_markSurface.f k bt1018.1 bt1018.2 1).bind fun bt1036 => (if bt1036.1 < 0 then (laws_FnExactAroundOf.j0 k t1015 t1025 true l0_0 l0_1) else ((laws_eqIntS.f k t1025 t1015).bind fun t1039 => (laws_FnExactAroundOf.j0 k t1015 t1025 (!t1039) l0_0 l0_1)))) else (some false)))) else (some false))))) = some true := H
    have A8 := Aside0.mk A80
    clear A80
    replace H := Option.bind_eq_some_iff.mp H
    obtain ⟨⟨t1018, t1021⟩, A90, H⟩ := H
    replace H : ((impl_AroundOf.f k t1018 t1021).bind fun t1025 => ((laws_eqIntS.f k t1025 t1015).bind fun t1028 => (if t1028 = true then ((laws_toSurface.f k l0_0 l0_1).bind fun bt1029 => ((laws_eqSurface.f k t1018 t1021 bt1029.1 bt1029.2).bind fun t1035 => (if t1035 = true then ((laws_markSurface.f k t1018 t1021 1).bind fun bt1036 => (if bt1036.1 < 0 then (laws_FnExactAroundOf.j0 k t1015 t1025 true l0_0 l0_1) else ((laws_eqIntS.f k t1025 t1015).bind fun t1039 => (laws_FnExactAroundOf.j0 k t1015 t1025 (!t1039) l0_0 l0_1)))) else (some false)))) else (some false)))) = some true := H
    have A9 := Aside0.mk A90
    clear A90
    replace H := Option.bind_eq_some_iff.mp H
    obtain ⟨t1025, A100, H⟩ := H
    replace H : ((laws_eqIntS.f k t1025 t1015).bind fun t1028 => (if t1028 = true then ((laws_toSurface.f k l0_0 l0_1).bind fun bt1029 => ((laws_eqSurface.f k t1018 t1021 bt1029.1 bt1029.2).bind fun t1035 => (if t1035 = true then ((laws_markSurface.f k t1018 t1021 1).bind fun bt1036 => (if bt1036.1 < 0 then (laws_FnExactAroundOf.j0 k t1015 t1025 true l0_0 l0_1) else ((laws_eqIntS.f k t1025 t1015).bind fun t1039 => (laws_FnExactAroundOf.j0 k t1015 t1025 (!t1039) l0_0 l0_1)))) else (some false)))) else (some false))) = some true := H
    have A10 := Aside0.mk A100
    clear A100
    replace H := Option.bind_eq_some_iff.mp H
    obtain ⟨t1028, A110, H⟩ := H
    replace H : (if t1028 = true then ((laws_toSurface.f k l0_0 l0_1).bind fun bt1029 => ((laws_eqSurface.f k t1018 t1021 bt1029.1 bt1029.2).bind fun t1035 => (if t1035 = true then ((laws_markSurface.f k t1018 t1021 1).bind fun bt1036 => (if bt1036.1 < 0 then (laws_FnExactAroundOf.j0 k t1015 t1025 true l0_0 l0_1) else ((laws_eqIntS.f k t1025 t1015).bind fun t1039 => (laws_FnExactAroundOf.j0 k t1015 t1025 (!t1039) l0_0 l0_1)))) else (some false)))) else (some false)) = some true := H
    have A11 := Aside0.mk A110
    clear A110
    by_cases c12 : t1028 = true
    · subst c12
      have H1 : ((laws_toSurface.f k l0_0 l0_1).bind fun bt1029 => ((laws_eqSurface.f k t1018 t1021 bt1029.1 bt1029.2).bind fun t1035 => (if t1035 = true then ((laws_markSurface.f k t1018 t1021 1).bind fun bt1036 => (if bt1036.1 < 0 then (laws_FnExactAroundOf.j0 k t1015 t1025 true l0_0 l0_1) else ((laws_eqIntS.f k t1025 t1015).bind fun t1039 => (laws_FnExactAroundOf.j0 k t1015 t1025 (!t1039) l0_0 l0_1)))) else (some false)))) = some true := by rw [if_pos rfl] at H; exact H
      clear H
      have H := H1
      clear H1
      replace H := Option.bind_eq_some_iff.mp H
      obtain ⟨⟨t1029, t1032⟩, A130, H⟩ := H
      replace H : ((laws_eqSurface.f k t1018 t1021 t1029 t1032).bind fun t1035 => (if t1035 = true then ((laws_markSurface.f k t1018 t1021 1).bind fun bt1036 => (if bt1036.1 < 0 then (laws_FnExactAroundOf.j0 k t1015 t1025 true l0_0 l0_1) else ((laws_eqIntS.f k t1025 t1015).bind fun t1039 => (laws_FnExactAroundOf.j0 k t1015 t1025 (!t1039) l0_0 l0_1)))) else (some false))) = some true := H
      have A13 := Aside0.mk A130
      clear A130
      replace H := Option.bind_eq_some_iff.mp H
      obtain ⟨t1035, A140, H⟩ := H
      replace H : (if t1035 = true then ((laws_markSurface.f k t1018 t1021 1).bind fun bt1036 => (if bt1036.1 < 0 then (laws_FnExactAroundOf.j0 k t1015 t1025 true l0_0 l0_1) else ((laws_eqIntS.f k t1025 t1015).bind fun t1039 => (laws_FnExactAroundOf.j0 k t1015 t1025 (!t1039) l0_0 l0_1)))) else (some false)) = some true := H
      have A14 := Aside0.mk A140
      clear A140
      by_cases c15 : t1035 = true
      · subst c15
        have H1 : ((laws_markSurface.f k t1018 t1021 1).bind fun bt1036 => (if bt1036.1 < 0 then (laws_FnExactAroundOf.j0 k t1015 t1025 true l0_0 l0_1) else ((laws_eqIntS.f k t1025 t1015).bind fun t1039 => (laws_FnExactAroundOf.j0 k t1015 t1025 (!t1039) l0_0 l0_1)))) = some true := by rw [if_pos rfl] at H; exact H
        clear H
        have H := H1
        clear H1
        replace H := Option.bind_eq_some_iff.mp H
        obtain ⟨⟨t1036, t1037, t1038⟩, A160, H⟩ := H
        replace H : (if t1036 < 0 then (laws_FnExactAroundOf.j0 k t1015 t1025 true l0_0 l0_1) else ((laws_eqIntS.f k t1025 t1015).bind fun t1039 => (laws_FnExactAroundOf.j0 k t1015 t1025 (!t1039) l0_0 l0_1))) = some true := H
        have A16 := Aside0.mk A160
        clear A160
        have HC17 := Aside0.mk H
        clear H
        go_enter Try.func13, Try.ntmps13
        try go_wp2_with (first | ((with_reducible refine gate_dst (N := 1) rfl ?_); refine box_event ?hg (N := 1) ?hd (cs := #[.slice A0_0 l0_0.length c0_0, .slice A0_1 l0_1.length c0_1]) (t := 24) ?hr ?_; (case hd => rfl); (case hg => rfl); (case hr => first | (go_simp; done) | (go_simp; rfl)); intro gb1007 hg w18 hbox hb; have n0_ := Aside0.mk (below_step (by repeat (first | (with_reducible first | exact HB.out | apply below_alloc | apply pw_below_drewN | apply below_drew1) | exact HB.out)) hb); have n1_ := Aside0.mk (hbox); have n2_ := Aside0.mk ((by rw [hg]; exact (below_size (by repeat (first | (with_reducible first | exact HB.out | apply below_alloc | apply pw_below_drewN | apply below_drew1) | exact HB.out))) : w.heap.size ≤ gb1007)); have n3_ := Aside0.mk ((by rw [hg]; exact (below_size (by repeat (first | (with_reducible first | exact HB.out | apply below_alloc | apply pw_below_drewN | apply below_drew1) | exact HB.out))) : w.heap.size ≤ gb1007)); clear HB; have HB := n0_; have BK1007 := n1_; have GW1007 := n2_; have GE1007 := n3_; clear n0_ n1_ n2_ n3_; clear hb hbox hg; have hcz19_0 : w18.cell? ⟨gb1007, 0, none⟩ = some (.slice A0_0 l0_0.length c0_0) := (blk_cell BK1007.out 0).trans rfl; have hcz19_1 : w18.cell? ⟨gb1007, 1, none⟩ = some (.slice A0_1 l0_1.length c0_1) := (blk_cell BK1007.out 1).trans rfl; have hfz19_0 := blk_frozen BK1007.out 0; have hfz19_1 := blk_frozen BK1007.out 1) | ((with_reducible refine gate_callee (f := 15) rfl ?_); refine goesL_ (some 13) rfl rfl Try.func15 (by kernel_rfl) rfl #[.agg #[.slice A0_0 l0_0.length c0_0, .slice A0_1 l0_1.length c0_1], .int .i64 1048576] rfl (by (try simp only [List.map_toArray, List.map_cons, List.map_nil]); first | done | rfl | (simp only [List.length_drop, List.length_take]; rfl)) ?_; (with_reducible refine (laws_szSurface.calls _ _ l0_0 _ _ l0_1 1048576 t1008 _ ?side1 ?side2 ?side3 ?side4 A2.out).mono ?_); (case side1 => repeat (first | exact (Kd.C_below HR0_0.out HB.out) | (with_reducible refine Kd.C_alloc ?_ _) | (with_reducible refine Kd.C_drewN ?_ _) | (with_reducible refine Kd.C_drew ?_))); (case side2 => exact HC0_0.out); (case side3 => repeat (first | exact (Kd.C_below HR0_1.out HB.out) | (with_reducible refine Kd.C_alloc ?_ _) | (with_reducible refine Kd.C_drewN ?_ _) | (with_reducible refine Kd.C_drew ?_))); (case side4 => exact HC0_1.out); rintro e w20 ⟨rfl, hb⟩; refine ⟨_, rfl, ?_⟩; have n0_ := Aside0.mk (blk_below (g := gb1007) (o := .cells #[.slice A0_0 l0_0.length c0_0, .slice A0_1 l0_1.length c0_1] 24 (0, 0)) (by (with_reducible repeat (first | refine blk_drewN ?_ _ | refine blk_drew ?_ | refine blk_alloc ?_ _)); exact BK1007.out) hb); have n1_ := Aside0.mk (below_step (by repeat (first | (with_reducible first | exact HB.out | apply below_alloc | apply pw_below_drewN | apply below_drew1 | refine below_set ?_ GE1007.out) | exact HB.out)) hb); clear BK1007; clear HB; have BK1007 := n0_; have HB := n1_; clear n0_ n1_; (try clear hb); (try clear hb2); (try clear hk); (try clear hi); have hcz21_0 : w20.cell? ⟨gb1007, 0, none⟩ = some (.slice A0_0 l0_0.length c0_0) := (blk_cell BK1007.out 0).trans rfl; have hcz21_1 : w20.cell? ⟨gb1007, 1, none⟩ = some (.slice A0_1 l0_1.length c0_1) := (blk_cell BK1007.out 1).trans rfl; have hfz21_0 := blk_frozen BK1007.out 0; have hfz21_1 := blk_frozen BK1007.out 1) | ((with_reducible refine gate_callee (f := 17) rfl ?_); refine goesL_ (some 17) rfl rfl Try.func17 (by kernel_rfl) rfl #[.agg #[.slice A0_0 l0_0.length c0_0, .slice A0_1 l0_1.length c0_1]] rfl (by (try simp only [List.map_toArray, List.map_cons, List.map_nil]); first | done | rfl | (simp only [List.length_drop, List.length_take]; rfl)) ?_; (with_reducible refine (laws_toSurface.calls k _ _ l0_0 _ _ l0_1 t1009 t1012 _ ?side1 ?side2 ?side3 ?side4 A7.out).mono ?_); (case side1 => repeat (first | exact (Kd.C_below HR0_0.out HB.out) | (with_reducible refine Kd.C_alloc ?_ _) | (with_reducible refine Kd.C_drewN ?_ _) | (with_reducible refine Kd.C_drew ?_))); (case side2 => exact HC0_0.out); (case side3 => repeat (first | exact (Kd.C_below HR0_1.out HB.out) | (with_reducible refine Kd.C_alloc ?_ _) | (with_reducible refine Kd.C_drewN ?_ _) | (with_reducible refine Kd.C_drew ?_))); (case side4 => exact HC0_1.out); rintro e w22 ⟨v1010, v1013, rfl, ho0, ho1, hb⟩; refine ⟨_, rfl, ?_⟩; have n0_ := Aside0.mk (Kd.R_lower ho0 (below_size (by repeat (first | (with_reducible first | exact HB.out | apply below_alloc | apply pw_below_drewN | apply below_drew1 | refine below_set ?_ GE1007.out) | exact HB.out)))); have n1_ := Aside0.mk (Kd.R_lower ho1 (below_size (by repeat (first | (with_reducible first | exact HB.out | apply below_alloc | apply pw_below_drewN | apply below_drew1 | refine below_set ?_ GE1007.out) | exact HB.out)))); have n2_ := Aside0.mk (blk_below (g := gb1007) (o := .cells #[.slice A0_0 l0_0.length c0_0, .slice A0_1 l0_1.length c0_1] 24 (0, 0)) (by (with_reducible repeat (first | refine blk_drewN ?_ _ | refine blk_drew ?_ | refine blk_alloc ?_ _)); exact BK1007.out) hb); have n3_ := Aside0.mk (below_step (by repeat (first | (with_reducible first | exact HB.out | apply below_alloc | apply pw_below_drewN | apply below_drew1 | refine below_set ?_ GE1007.out) | exact HB.out)) hb); clear BK1007; clear HB; have HO1011 := n0_; have HO1014 := n1_; have BK1007 := n2_; have HB := n3_; clear n0_ n1_ n2_ n3_; (try clear hb); (try clear hb2); (try clear hk); (try clear hi); (try clear ho0); (try clear ho1); obtain ⟨Ao23, co23, eo23⟩ := Kd.R_slice HO1011.out; subst eo23; obtain ⟨Ao24, co24, eo24⟩ := Kd.R_slice HO1014.out; subst eo24) | ((with_reducible refine gate_callee (f := 53) rfl ?_); refine goesL_ (some 18) rfl rfl Try.func53 (by kernel_rfl) rfl #[.agg #[.slice Ao23 t1009.length co23, .slice Ao24 t1012.length co24]] rfl (by (try simp only [List.map_toArray, List.map_cons, List.map_nil]); first | done | rfl | (simp only [List.length_drop, List.length_take]; rfl)) ?_; (with_reducible refine (spec_AroundOf.calls k _ _ t1009 _ _ t1012 t1015 _ ?side1 ?side2 ?side3 ?side4 A8.out).mono ?_); (case side1 => repeat (first | exact (Kd.R_reads' HO1011.out).2.2 | (with_reducible refine Kd.C_alloc ?_ _) | (with_reducible refine Kd.C_drewN ?_ _) | (with_reducible refine Kd.C_drew ?_))); (case side2 => exact (Kd.R_reads' HO1011.out).2.1); (case side3 => repeat (first | exact (Kd.R_reads' HO1014.out).2.2 | (with_reducible refine Kd.C_alloc ?_ _) | (with_reducible refine Kd.C_drewN ?_ _) | (with_reducible refine Kd.C_drew ?_))); (case side4 => exact (Kd.R_reads' HO1014.out).2.1); rintro e w25 ⟨v1016, rfl, ho0, hb⟩; refine ⟨_, rfl, ?_⟩; have n0_ := Aside0.mk (Kd.R_elder' (by (with_reducible repeat (first | apply Kd.R_alloc | apply Kd.R_drewN | apply Kd.R_drew)); exact HO1011.out) (Kd.R_base ho0) hb); have n1_ := Aside0.mk (Kd.R_elder' (by (with_reducible repeat (first | apply Kd.R_alloc | apply Kd.R_drewN | apply Kd.R_drew)); exact HO1014.out) (Kd.R_base ho0) hb); have n2_ := Aside0.mk (Kd.R_lower (Kd.R_new' (Kd.R_new' ho0 (Kd.R_lt (by (with_reducible repeat (first | apply Kd.R_alloc | apply Kd.R_drewN | apply Kd.R_drew)); exact HO1011.out))) (Kd.R_lt (by (with_reducible repeat (first | apply Kd.R_alloc | apply Kd.R_drewN | apply Kd.R_drew)); exact HO1014.out))) (below_size (by repeat (first | (with_reducible first | exact HB.out | apply below_alloc | apply pw_below_drewN | apply below_drew1 | refine below_set ?_ GE1007.out) | exact HB.out)))); have n3_ := Aside0.mk (blk_below (g := gb1007) (o := .cells #[.slice A0_0 l0_0.length c0_0, .slice A0_1 l0_1.length c0_1] 24 (0, 0)) (by (with_reducible repeat (first | refine blk_drewN ?_ _ | refine blk_drew ?_ | refine blk_alloc ?_ _)); exact BK1007.out) hb); have n4_ := Aside0.mk (below_step (by repeat (first | (with_reducible first | exact HB.out | apply below_alloc | apply pw_below_drewN | apply below_drew1 | refine below_set ?_ GE1007.out) | exact HB.out)) hb); clear HO1011; clear HO1014; clear BK1007; clear HB; have HO1011 := n0_; have HO1014 := n1_; have HO1017 := n2_; have BK1007 := n3_; have HB := n4_; clear n0_ n1_ n2_ n3_ n4_; (try clear hb); (try clear hb2); (try clear hk); (try clear hi); (try clear ho0); have hcz26_0 : w25.cell? ⟨gb1007, 0, none⟩ = some (.slice A0_0 l0_0.length c0_0) := (blk_cell BK1007.out 0).trans rfl; have hcz26_1 : w25.cell? ⟨gb1007, 1, none⟩ = some (.slice A0_1 l0_1.length c0_1) := (blk_cell BK1007.out 1).trans rfl; have hfz26_0 := blk_frozen BK1007.out 0; have hfz26_1 := blk_frozen BK1007.out 1) | ((with_reducible refine gate_callee (f := 17) rfl ?_); refine goesL_ (some 20) rfl rfl Try.func17 (by kernel_rfl) rfl #[.agg #[.slice A0_0 l0_0.length c0_0, .slice A0_1 l0_1.length c0_1]] rfl (by (try simp only [List.map_toArray, List.map_cons, List.map_nil]); first | done | rfl | (simp only [List.length_drop, List.length_take]; rfl)) ?_; (with_reducible refine (laws_toSurface.calls k _ _ l0_0 _ _ l0_1 t1018 t1021 _ ?side1 ?side2 ?side3 ?side4 A9.out).mono ?_); (case side1 => repeat (first | exact (Kd.C_below HR0_0.out HB.out) | (with_reducible refine Kd.C_alloc ?_ _) | (with_reducible refine Kd.C_drewN ?_ _) | (with_reducible refine Kd.C_drew ?_))); (case side2 => exact HC0_0.out); (case side3 => repeat (first | exact (Kd.C_below HR0_1.out HB.out) | (with_reducible refine Kd.C_alloc ?_ _) | (with_reducible refine Kd.C_drewN ?_ _) | (with_reducible refine Kd.C_drew ?_))); (case side4 => exact HC0_1.out); rintro e w27 ⟨v1019, v1022, rfl, ho0, ho1, hb⟩; refine ⟨_, rfl, ?_⟩; have n0_ := Aside0.mk (Kd.R_mono (Kd.R_told (Kd.R_told (Kd.R_old (by (with_reducible repeat (first | apply Kd.R_alloc | apply Kd.R_drewN | apply Kd.R_drew)); exact HO1011.out) hb) (Kd.R_base ho0)) (Kd.R_base ho1)) (fun _ h_ => h_.1)); have n1_ := Aside0.mk (Kd.R_mono (Kd.R_told (Kd.R_told (Kd.R_old (by (with_reducible repeat (first | apply Kd.R_alloc | apply Kd.R_drewN | apply Kd.R_drew)); exact HO1014.out) hb) (Kd.R_base ho0)) (Kd.R_base ho1)) (fun _ h_ => h_.1)); have n2_ := Aside0.mk (Kd.R_mono (Kd.R_told (Kd.R_told (Kd.R_old (by (with_reducible repeat (first | apply Kd.R_alloc | apply Kd.R_drewN | apply Kd.R_drew)); exact HO1017.out) hb) (Kd.R_base ho0)) (Kd.R_base ho1)) (fun _ h_ => h_.1)); have n3_ := Aside0.mk (Kd.R_lower (Kd.R_new' (Kd.R_new' (Kd.R_new' ho0 (Kd.R_lt (by (with_reducible repeat (first | apply Kd.R_alloc | apply Kd.R_drewN | apply Kd.R_drew)); exact HO1011.out))) (Kd.R_lt (by (with_reducible repeat (first | apply Kd.R_alloc | apply Kd.R_drewN | apply Kd.R_drew)); exact HO1014.out))) (Kd.R_lt (by (with_reducible repeat (first | apply Kd.R_alloc | apply Kd.R_drewN | apply Kd.R_drew)); exact HO1017.out))) (below_size (by repeat (first | (with_reducible first | exact HB.out | apply below_alloc | apply pw_below_drewN | apply below_drew1 | refine below_set ?_ GE1007.out) | exact HB.out)))); have n4_ := Aside0.mk (Kd.R_lower (Kd.R_new' (Kd.R_new' (Kd.R_new' ho1 (Kd.R_lt (by (with_reducible repeat (first | apply Kd.R_alloc | apply Kd.R_drewN | apply Kd.R_drew)); exact HO1011.out))) (Kd.R_lt (by (with_reducible repeat (first | apply Kd.R_alloc | apply Kd.R_drewN | apply Kd.R_drew)); exact HO1014.out))) (Kd.R_lt (by (with_reducible repeat (first | apply Kd.R_alloc | apply Kd.R_drewN | apply Kd.R_drew)); exact HO1017.out))) (below_size (by repeat (first | (with_reducible first | exact HB.out | apply below_alloc | apply pw_below_drewN | apply below_drew1 | refine below_set ?_ GE1007.out) | exact HB.out)))); have n5_ := Aside0.mk (blk_below (g := gb1007) (o := .cells #[.slice A0_0 l0_0.length c0_0, .slice A0_1 l0_1.length c0_1] 24 (0, 0)) (by (with_reducible repeat (first | refine blk_drewN ?_ _ | refine blk_drew ?_ | refine blk_alloc ?_ _)); exact BK1007.out) hb); have n6_ := Aside0.mk (below_step (by repeat (first | (with_reducible first | exact HB.out | apply below_alloc | apply pw_below_drewN | apply below_drew1 | refine below_set ?_ GE1007.out) | exact HB.out)) hb); clear HO1011; clear HO1014; clear HO1017; clear BK1007; clear HB; have HO1011 := n0_; have HO1014 := n1_; have HO1017 := n2_; have HO1020 := n3_; have HO1023 := n4_; have BK1007 := n5_; have HB := n6_; clear n0_ n1_ n2_ n3_ n4_ n5_ n6_; (try clear hb); (try clear hb2); (try clear hk); (try clear hi); (try clear ho0); (try clear ho1)) | ((with_reducible refine gate_dst (N := 5) rfl ?_); refine box_event ?hg (N := 5) ?hd (cs := #[.slice none 0 0, .slice none 0 0]) (t := 27) ?hr ?_; (case hd => rfl); (case hg => rfl); (case hr => first | (go_simp; done) | (go_simp; rfl)); intro gb1024 hg w28 hbox hb; have n0_ := Aside0.mk (Kd.R_below (by (with_reducible repeat (first | apply Kd.R_alloc | apply Kd.R_drewN | apply Kd.R_drew)); exact HO1011.out) hb); have n1_ := Aside0.mk (Kd.R_below (by (with_reducible repeat (first | apply Kd.R_alloc | apply Kd.R_drewN | apply Kd.R_drew)); exact HO1014.out) hb); have n2_ := Aside0.mk (Kd.R_below (by (with_reducible repeat (first | apply Kd.R_alloc | apply Kd.R_drewN | apply Kd.R_drew)); exact HO1017.out) hb); have n3_ := Aside0.mk (Kd.R_below (by (with_reducible repeat (first | apply Kd.R_alloc | apply Kd.R_drewN | apply Kd.R_drew)); exact HO1020.out) hb); have n4_ := Aside0.mk (Kd.R_below (by (with_reducible repeat (first | apply Kd.R_alloc | apply Kd.R_drewN | apply Kd.R_drew)); exact HO1023.out) hb); have n5_ := Aside0.mk (blk_below (g := gb1007) (o := .cells #[.slice A0_0 l0_0.length c0_0, .slice A0_1 l0_1.length c0_1] 24 (0, 0)) (by (with_reducible repeat (first | refine blk_drewN ?_ _ | refine blk_drew ?_ | refine blk_alloc ?_ _)); exact BK1007.out) hb); have n6_ := Aside0.mk (below_step (by repeat (first | (with_reducible first | exact HB.out | apply below_alloc | apply pw_below_drewN | apply below_drew1 | refine below_set ?_ GE1007.out) | exact HB.out)) hb); have n7_ := Aside0.mk (hbox); have n8_ := Aside0.mk ((by rw [hg]; exact (below_size (by repeat (first | (with_reducible first | exact HB.out | apply below_alloc | apply pw_below_drewN | apply below_drew1 | refine below_set ?_ GE1007.out) | exact HB.out))) : w.heap.size ≤ gb1024)); have n9_ := Aside0.mk ((by rw [hg]; exact (below_size (by repeat (first | (with_reducible first | exact HB.out | apply below_alloc | apply pw_below_drewN | apply below_drew1 | refine below_set ?_ GE1007.out) | exact HB.out))) : w.heap.size ≤ gb1024)); have n10_ := Aside0.mk ((by rw [hg]; exact Nat.ne_of_lt (blk_lt (g := gb1007) (o := .cells #[.slice A0_0 l0_0.length c0_0, .slice A0_1 l0_1.length c0_1] 24 (0, 0)) (by (with_reducible repeat (first | refine blk_drewN ?_ _ | refine blk_drew ?_ | refine blk_alloc ?_ _)); exact BK1007.out)) : gb1007 ≠ gb1024)); have n11_ := Aside0.mk ((by rw [hg]; exact Nat.ne_of_gt (blk_lt (g := gb1007) (o := .cells #[.slice A0_0 l0_0.length c0_0, .slice A0_1 l0_1.length c0_1] 24 (0, 0)) (by (with_reducible repeat (first | refine blk_drewN ?_ _ | refine blk_drew ?_ | refine blk_alloc ?_ _)); exact BK1007.out)) : gb1024 ≠ gb1007)); clear HO1011; clear HO1014; clear HO1017; clear HO1020; clear HO1023; clear BK1007; clear HB; have HO1011 := n0_; have HO1014 := n1_; have HO1017 := n2_; have HO1020 := n3_; have HO1023 := n4_; have BK1007 := n5_; have HB := n6_; have BK1024 := n7_; have GW1024 := n8_; have GE1024 := n9_; have NB1007_1024 := n10_; have NB1024_1007 := n11_; clear n0_ n1_ n2_ n3_ n4_ n5_ n6_ n7_ n8_ n9_ n10_ n11_; clear hb hbox hg; obtain ⟨Ao29, co29, eo29⟩ := Kd.R_slice HO1020.out; subst eo29; have hnb30 := NB1024_1007.out; have hnc30 := NB1007_1024.out; have hcz31_0 : w28.cell? ⟨gb1024, 0, none⟩ = some (.slice none 0 0) := (blk_cell BK1024.out 0).trans rfl; have hcz31_1 : w28.cell? ⟨gb1024, 1, none⟩ = some (.slice none 0 0) := (blk_cell BK1024.out 1).trans rfl; have hfz31_0 := blk_frozen BK1024.out 0; have hfz31_1 := blk_frozen BK1024.out 1; obtain ⟨Ao32, co32, eo32⟩ := Kd.R_slice HO1023.out; subst eo32) | ((with_reducible refine gate_callee (f := 54) rfl ?_); refine goesL_ (some 22) rfl rfl Try.func54 (by kernel_rfl) rfl #[.agg #[.slice Ao29 t1018.length co29, .slice Ao32 t1021.length co32]] rfl (by (try simp only [List.map_toArray, List.map_cons, List.map_nil]); first | done | rfl | (simp only [List.length_drop, List.length_take]; rfl)) ?_; (with_reducible refine (impl_AroundOf.calls k _ _ t1018 _ _ t1021 t1025 _ ?side1 ?side2 ?side3 ?side4 A10.out).mono ?_); (case side1 => refine (Kd.R_reads' (e := 3) (base := w.heap.size) (ok := fun k_ => (((some k_ ≠ (.slice Ao32 t1021.length co32 : Value).ownBlock ∧ some k_ ≠ (.slice Ao23 t1009.length co23 : Value).ownBlock) ∧ some k_ ≠ (.slice Ao24 t1012.length co24 : Value).ownBlock) ∧ some k_ ≠ (v1016 : Value).ownBlock)) (n := t1018.length) (c := co29) ?_).2.2; exact (by (with_reducible repeat (first | apply Kd.R_alloc | apply Kd.R_drewN | apply Kd.R_drew)); exact (Kd.R_mono (Kd.R_far (p := ⟨gb1024, 1, none⟩) (Kd.R_far (p := ⟨gb1024, 0, none⟩) (Kd.R_types HO1020.out BK1024.out (by decide)) (fun _ hk => hk.2) (.slice Ao29 t1018.length co29)) (fun _ hk => hk.2) (.slice Ao32 t1021.length co32)) (fun _ h_ => h_.1)))); (case side2 => exact (Kd.R_reads' HO1020.out).2.1); (case side3 => refine (Kd.R_reads' (e := 3) (base := w.heap.size) (ok := fun k_ => (((some k_ ≠ (.slice Ao29 t1018.length co29 : Value).ownBlock ∧ some k_ ≠ (.slice Ao23 t1009.length co23 : Value).ownBlock) ∧ some k_ ≠ (.slice Ao24 t1012.length co24 : Value).ownBlock) ∧ some k_ ≠ (v1016 : Value).ownBlock)) (n := t1021.length) (c := co32) ?_).2.2; exact (by (with_reducible repeat (first | apply Kd.R_alloc | apply Kd.R_drewN | apply Kd.R_drew)); exact (Kd.R_mono (Kd.R_far (p := ⟨gb1024, 1, none⟩) (Kd.R_far (p := ⟨gb1024, 0, none⟩) (Kd.R_types HO1023.out BK1024.out (by decide)) (fun _ hk => hk.2) (.slice Ao29 t1018.length co29)) (fun _ hk => hk.2) (.slice Ao32 t1021.length co32)) (fun _ h_ => h_.1)))); (case side4 => exact (Kd.R_reads' HO1023.out).2.1); rintro e w33 ⟨v1026, rfl, ho0, hb⟩; refine ⟨_, rfl, ?_⟩; have n0_ := Aside0.mk (Kd.R_elder' (by (with_reducible repeat (first | apply Kd.R_alloc | apply Kd.R_drewN | apply Kd.R_drew)); exact (Kd.R_mono (Kd.R_far (p := ⟨gb1024, 1, none⟩) (Kd.R_far (p := ⟨gb1024, 0, none⟩) (Kd.R_types HO1011.out BK1024.out (by decide)) (fun _ hk => hk.2) (.slice Ao29 t1018.length co29)) (fun _ hk => hk.2) (.slice Ao32 t1021.length co32)) (fun _ h_ => h_.1))) (Kd.R_base ho0) hb); have n1_ := Aside0.mk (Kd.R_elder' (by (with_reducible repeat (first | apply Kd.R_alloc | apply Kd.R_drewN | apply Kd.R_drew)); exact (Kd.R_mono (Kd.R_far (p := ⟨gb1024, 1, none⟩) (Kd.R_far (p := ⟨gb1024, 0, none⟩) (Kd.R_types HO1014.out BK1024.out (by decide)) (fun _ hk => hk.2) (.slice Ao29 t1018.length co29)) (fun _ hk => hk.2) (.slice Ao32 t1021.length co32)) (fun _ h_ => h_.1))) (Kd.R_base ho0) hb); have n2_ := Aside0.mk (Kd.R_elder' (by (with_reducible repeat (first | apply Kd.R_alloc | apply Kd.R_drewN | apply Kd.R_drew)); exact (Kd.R_mono (Kd.R_far (p := ⟨gb1024, 1, none⟩) (Kd.R_far (p := ⟨gb1024, 0, none⟩) (Kd.R_types HO1017.out BK1024.out (by decide)) (fun _ hk => hk.2) (.slice Ao29 t1018.length co29)) (fun _ hk => hk.2) (.slice Ao32 t1021.length co32)) (fun _ h_ => h_.1))) (Kd.R_base ho0) hb); have n3_ := Aside0.mk (Kd.R_elder' (by (with_reducible repeat (first | apply Kd.R_alloc | apply Kd.R_drewN | apply Kd.R_drew)); exact (Kd.R_mono (Kd.R_far (p := ⟨gb1024, 1, none⟩) (Kd.R_far (p := ⟨gb1024, 0, none⟩) (Kd.R_types HO1020.out BK1024.out (by decide)) (fun _ hk => hk.2) (.slice Ao29 t1018.length co29)) (fun _ hk => hk.2) (.slice Ao32 t1021.length co32)) (fun _ h_ => h_.1))) (Kd.R_base ho0) hb); have n4_ := Aside0.mk (Kd.R_elder' (by (with_reducible repeat (first | apply Kd.R_alloc | apply Kd.R_drewN | apply Kd.R_drew)); exact (Kd.R_mono (Kd.R_far (p := ⟨gb1024, 1, none⟩) (Kd.R_far (p := ⟨gb1024, 0, none⟩) (Kd.R_types HO1023.out BK1024.out (by decide)) (fun _ hk => hk.2) (.slice Ao29 t1018.length co29)) (fun _ hk => hk.2) (.slice Ao32 t1021.length co32)) (fun _ h_ => h_.1))) (Kd.R_base ho0) hb); have n5_ := Aside0.mk (Kd.R_lower (Kd.R_new' (Kd.R_new' (Kd.R_new' (Kd.R_new' (Kd.R_new' ho0 (Kd.R_lt (by (with_reducible repeat (first | apply Kd.R_alloc | apply Kd.R_drewN | apply Kd.R_drew)); exact (Kd.R_mono (Kd.R_far (p := ⟨gb1024, 1, none⟩) (Kd.R_far (p := ⟨gb1024, 0, none⟩) (Kd.R_types HO1011.out BK1024.out (by decide)) (fun _ hk => hk.2) (.slice Ao29 t1018.length co29)) (fun _ hk => hk.2) (.slice Ao32 t1021.length co32)) (fun _ h_ => h_.1))))) (Kd.R_lt (by (with_reducible repeat (first | apply Kd.R_alloc | apply Kd.R_drewN | apply Kd.R_drew)); exact (Kd.R_mono (Kd.R_far (p := ⟨gb1024, 1, none⟩) (Kd.R_far (p := ⟨gb1024, 0, none⟩) (Kd.R_types HO1014.out BK1024.out (by decide)) (fun _ hk => hk.2) (.slice Ao29 t1018.length co29)) (fun _ hk => hk.2) (.slice Ao32 t1021.length co32)) (fun _ h_ => h_.1))))) (Kd.R_lt (by (with_reducible repeat (first | apply Kd.R_alloc | apply Kd.R_drewN | apply Kd.R_drew)); exact (Kd.R_mono (Kd.R_far (p := ⟨gb1024, 1, none⟩) (Kd.R_far (p := ⟨gb1024, 0, none⟩) (Kd.R_types HO1017.out BK1024.out (by decide)) (fun _ hk => hk.2) (.slice Ao29 t1018.length co29)) (fun _ hk => hk.2) (.slice Ao32 t1021.length co32)) (fun _ h_ => h_.1))))) (Kd.R_lt (by (with_reducible repeat (first | apply Kd.R_alloc | apply Kd.R_drewN | apply Kd.R_drew)); exact (Kd.R_mono (Kd.R_far (p := ⟨gb1024, 1, none⟩) (Kd.R_far (p := ⟨gb1024, 0, none⟩) (Kd.R_types HO1020.out BK1024.out (by decide)) (fun _ hk => hk.2) (.slice Ao29 t1018.length co29)) (fun _ hk => hk.2) (.slice Ao32 t1021.length co32)) (fun _ h_ => h_.1))))) (Kd.R_lt (by (with_reducible repeat (first | apply Kd.R_alloc | apply Kd.R_drewN | apply Kd.R_drew)); exact (Kd.R_mono (Kd.R_far (p := ⟨gb1024, 1, none⟩) (Kd.R_far (p := ⟨gb1024, 0, none⟩) (Kd.R_types HO1023.out BK1024.out (by decide)) (fun _ hk => hk.2) (.slice Ao29 t1018.length co29)) (fun _ hk => hk.2) (.slice Ao32 t1021.length co32)) (fun _ h_ => h_.1))))) (below_size (by repeat (first | (with_reducible first | exact HB.out | apply below_alloc | apply pw_below_drewN | apply below_drew1 | refine below_set ?_ GE1007.out | refine below_set ?_ GE1024.out) | exact HB.out)))); have n6_ := Aside0.mk (blk_below (g := gb1007) (o := .cells #[.slice A0_0 l0_0.length c0_0, .slice A0_1 l0_1.length c0_1] 24 (0, 0)) (by (with_reducible repeat (first | refine blk_drewN ?_ _ | refine blk_drew ?_ | refine blk_alloc ?_ _)); refine blk_far ?_ NB1007_1024.out _; (with_reducible repeat (first | refine blk_drewN ?_ _ | refine blk_drew ?_ | refine blk_alloc ?_ _)); refine blk_far ?_ NB1007_1024.out _; (with_reducible repeat (first | refine blk_drewN ?_ _ | refine blk_drew ?_ | refine blk_alloc ?_ _)); exact BK1007.out) hb); have n7_ := Aside0.mk (blk_below (g := gb1024) (o := .cells #[.slice Ao29 t1018.length co29, .slice Ao32 t1021.length co32] 27 (0, 0)) (by (with_reducible repeat (first | refine blk_drewN ?_ _ | refine blk_drew ?_ | refine blk_alloc ?_ _)); refine blk_put (cs := #[.slice Ao29 t1018.length co29, .slice none 0 0]) ?_ 1 _ rfl; (with_reducible repeat (first | refine blk_drewN ?_ _ | refine blk_drew ?_ | refine blk_alloc ?_ _)); refine blk_put (cs := #[.slice none 0 0, .slice none 0 0]) ?_ 0 _ rfl; (with_reducible repeat (first | refine blk_drewN ?_ _ | refine blk_drew ?_ | refine blk_alloc ?_ _)); exact BK1024.out) hb); have n8_ := Aside0.mk (below_step (by repeat (first | (with_reducible first | exact HB.out | apply below_alloc | apply pw_below_drewN | apply below_drew1 | refine below_set ?_ GE1007.out | refine below_set ?_ GE1024.out) | exact HB.out)) hb); clear HO1011; clear HO1014; clear HO1017; clear HO1020; clear HO1023; clear BK1007; clear BK1024; clear HB; have HO1011 := n0_; have HO1014 := n1_; have HO1017 := n2_; have HO1020 := n3_; have HO1023 := n4_; have HO1027 := n5_; have BK1007 := n6_; have BK1024 := n7_; have HB := n8_; clear n0_ n1_ n2_ n3_ n4_ n5_ n6_ n7_ n8_; (try clear hb); (try clear hb2); (try clear hk); (try clear hi); (try clear ho0); obtain ⟨Ao34, co34, eo34⟩ := Kd.R_slice HO1027.out; subst eo34; obtain ⟨Ao35, co35, eo35⟩ := Kd.R_slice HO1017.out; subst eo35) | ((with_reducible refine gate_callee (f := 24) rfl ?_); refine goesL_ (some 25) rfl rfl Try.func24 (by kernel_rfl) rfl #[.slice Ao34 t1025.length co34, .slice Ao35 t1015.length co35] rfl (by (try simp only [List.map_toArray, List.map_cons, List.map_nil]); first | done | rfl | (simp only [List.length_drop, List.length_take]; rfl)) ?_; (with_reducible refine (laws_eqIntS.calls k _ _ t1025 _ _ t1015 true _ ?side1 ?side2 ?side3 ?side4 A11.out).mono ?_); (case side1 => repeat (first | exact (Kd.R_reads' HO1027.out).2.2 | (with_reducible refine Kd.C_alloc ?_ _) | (with_reducible refine Kd.C_drewN ?_ _) | (with_reducible refine Kd.C_drew ?_))); (case side2 => exact (Kd.R_reads' HO1027.out).2.1); (case side3 => repeat (first | exact (Kd.R_reads' HO1017.out).2.2 | (with_reducible refine Kd.C_alloc ?_ _) | (with_reducible refine Kd.C_drewN ?_ _) | (with_reducible refine Kd.C_drew ?_))); (case side4 => exact (Kd.R_reads' HO1017.out).2.1); rintro e w' ⟨rfl, ⟨nd, rfl⟩⟩; refine ⟨_, rfl, ?_⟩))
        (try (rw [drewN_self w33]; generalize hq_ : World.drewN w33 _ = w33; have n0_ := Aside0.mk (Kd.R_at hq_ HO1011.out); have n1_ := Aside0.mk (Kd.R_at hq_ HO1014.out); have n2_ := Aside0.mk (Kd.R_at hq_ HO1017.out); have n3_ := Aside0.mk (Kd.R_at hq_ HO1020.out); have n4_ := Aside0.mk (Kd.R_at hq_ HO1023.out); have n5_ := Aside0.mk (Kd.R_at hq_ HO1027.out); have n6_ : Aside0 (w33.heap[gb1007]? = some (.cells #[.slice A0_0 l0_0.length c0_0, .slice A0_1 l0_1.length c0_1] 24 (0, 0))) := ⟨by rw [← hq_]; exact (by (with_reducible repeat (first | refine blk_drewN ?_ _ | refine blk_drew ?_ | refine blk_alloc ?_ _)); exact BK1007.out)⟩; have n7_ : Aside0 (w33.heap[gb1024]? = some (.cells #[.slice Ao29 t1018.length co29, .slice Ao32 t1021.length co32] 27 (0, 0))) := ⟨by rw [← hq_]; exact (by (with_reducible repeat (first | refine blk_drewN ?_ _ | refine blk_drew ?_ | refine blk_alloc ?_ _)); exact BK1024.out)⟩; have n8_ : Aside0 (Below w.heap.size w w33) := ⟨by rw [← hq_]; exact (by repeat (first | (with_reducible first | exact HB.out | apply below_alloc | apply pw_below_drewN | apply below_drew1 | refine below_set ?_ GE1007.out | refine below_set ?_ GE1024.out) | exact HB.out))⟩; clear HO1011 HO1014 HO1017 HO1020 HO1023 HO1027 BK1007 BK1024 HB hq_; have HO1011 := n0_; have HO1014 := n1_; have HO1017 := n2_; have HO1020 := n3_; have HO1023 := n4_; have HO1027 := n5_; have BK1007 := n6_; have BK1024 := n7_; have HB := n8_; clear n0_ n1_ n2_ n3_ n4_ n5_ n6_ n7_ n8_))
        have n0_ := Aside0.mk (Kd.R_drew HO1011.out)
        have n1_ := Aside0.mk (Kd.R_drew HO1014.out)
        have n2_ := Aside0.mk (Kd.R_drew HO1017.out)
        have n3_ := Aside0.mk (Kd.R_drew HO1020.out)
        have n4_ := Aside0.mk (Kd.R_drew HO1023.out)
        have n5_ := Aside0.mk (Kd.R_drew HO1027.out)
        have n6_ := Aside0.mk (blk_drew BK1007.out)
        have n7_ := Aside0.mk (blk_drew BK1024.out)
        have n8_ := Aside0.mk (below_drew1 HB.out)
        clear HO1011 HO1014 HO1017 HO1020 HO1023 HO1027 BK1007 BK1024 HB
        have HO1011 := n0_
        have HO1014 := n1_
        have HO1017 := n2_
        have HO1020 := n3_
        have HO1023 := n4_
        have HO1027 := n5_
        have BK1007 := n6_
        have BK1024 := n7_
        have HB := n8_
        clear n0_ n1_ n2_ n3_ n4_ n5_ n6_ n7_ n8_
        refine start_ (n := 5) (S := fun w' => w'.cell? ⟨gb1024, 0, none⟩ = some (.slice Ao29 t1018.length co29) ∧ w'.cell? ⟨gb1024, 1, none⟩ = some (.slice Ao32 t1021.length co32) ∧ w'.cell? ⟨gb1007, 0, none⟩ = some (.slice A0_0 l0_0.length c0_0) ∧ w'.cell? ⟨gb1007, 1, none⟩ = some (.slice A0_1 l0_1.length c0_1)) (ds := []) #[false, false, false, false, false] (by kernel_rfl) rfl rfl ⟨(blk_cell BK1024.out 0).trans rfl, (blk_cell BK1024.out 1).trans rfl, (blk_cell BK1007.out 0).trans rfl, (blk_cell BK1007.out 1).trans rfl⟩ (fun hHeld => ?_)
        generalize w33.drew = w36 at HO1011 HO1014 HO1017 HO1020 HO1023 HO1027 BK1007 BK1024 HB hHeld ⊢
        refine take_ (i := 0) (N := some 27) (v := ?_) (a' := ?_) #[true, false, false, false, false] rfl rfl (by kernel_rfl) (fun _ _ _ h => h) (Or.inl ⟨by rfl, ?_⟩) hHeld ?_ ?_
        rotate_left
        · rintro w' ⟨s0, s1, s2, s3⟩
          go_simp
          with_reducible rfl
        rotate_left
        · simp only [Act.put, List.setIfInBounds_toArray, List.set_cons_zero, List.set_cons_succ, i64_w, i32_w]
          rfl
        refine take_ (i := 1) (N := some 28) (v := ?_) (a' := ?_) #[true, true, false, false, false] rfl rfl (by kernel_rfl) (fun _ _ _ h => h) (Or.inl ⟨by rfl, ?_⟩) hHeld ?_ ?_
        rotate_left
        · rintro w' ⟨s0, s1, s2, s3⟩
          go_simp
          with_reducible rfl
        rotate_left
        · simp only [Act.put, List.setIfInBounds_toArray, List.set_cons_zero, List.set_cons_succ, i64_w, i32_w]
          rfl
        refine one_ (i := 2) (N := some 29) #[true, true, true, false, false] rfl rfl (by kernel_rfl) (by decide) (fun K hK => ?_)
        refine goes_ Try.func17 (by kernel_rfl) rfl #[.agg #[.slice A0_0 l0_0.length c0_0, .slice A0_1 l0_1.length c0_1]] (by rfl) rfl rfl (by (try simp only [List.map_toArray, List.map_cons, List.map_nil]); first | done | rfl | (simp only [List.length_drop, List.length_take]; rfl)) ?_
        with_reducible refine (laws_toSurface.calls k _ _ l0_0 _ _ l0_1 t1029 t1032 _ ?side1 ?side2 ?side3 ?side4 A13.out).mono ?_
        (case side1 => repeat (first | exact (Kd.C_below HR0_0.out HB.out) | (with_reducible refine Kd.C_alloc ?_ _) | (with_reducible refine Kd.C_drewN ?_ _) | (with_reducible refine Kd.C_drew ?_)))
        (case side2 => exact HC0_0.out)
        (case side3 => repeat (first | exact (Kd.C_below HR0_1.out HB.out) | (with_reducible refine Kd.C_alloc ?_ _) | (with_reducible refine Kd.C_drewN ?_ _) | (with_reducible refine Kd.C_drew ?_)))
        (case side4 => exact HC0_1.out)
        rintro e w37 ⟨v1030, v1033, rfl, ho0, ho1, hb⟩
        refine ⟨_, rfl, ?_⟩
        have n0_ := Aside0.mk (Kd.R_mono (Kd.R_told (Kd.R_told (Kd.R_old (by (with_reducible repeat (first | apply Kd.R_alloc | apply Kd.R_drewN | apply Kd.R_drew)); exact HO1011.out) hb) (Kd.R_base ho0)) (Kd.R_base ho1)) (fun _ h_ => h_.1))
        have n1_ := Aside0.mk (Kd.R_mono (Kd.R_told (Kd.R_told (Kd.R_old (by (with_reducible repeat (first | apply Kd.R_alloc | apply Kd.R_drewN | apply Kd.R_drew)); exact HO1014.out) hb) (Kd.R_base ho0)) (Kd.R_base ho1)) (fun _ h_ => h_.1))
        have n2_ := Aside0.mk (Kd.R_mono (Kd.R_told (Kd.R_told (Kd.R_old (by (with_reducible repeat (first | apply Kd.R_alloc | apply Kd.R_drewN | apply Kd.R_drew)); exact HO1017.out) hb) (Kd.R_base ho0)) (Kd.R_base ho1)) (fun _ h_ => h_.1))
        have n3_ := Aside0.mk (Kd.R_mono (Kd.R_told (Kd.R_told (Kd.R_old (by (with_reducible repeat (first | apply Kd.R_alloc | apply Kd.R_drewN | apply Kd.R_drew)); exact HO1020.out) hb) (Kd.R_base ho0)) (Kd.R_base ho1)) (fun _ h_ => h_.1))
        have n4_ := Aside0.mk (Kd.R_mono (Kd.R_told (Kd.R_told (Kd.R_old (by (with_reducible repeat (first | apply Kd.R_alloc | apply Kd.R_drewN | apply Kd.R_drew)); exact HO1023.out) hb) (Kd.R_base ho0)) (Kd.R_base ho1)) (fun _ h_ => h_.1))
        have n5_ := Aside0.mk (Kd.R_mono (Kd.R_told (Kd.R_told (Kd.R_old (by (with_reducible repeat (first | apply Kd.R_alloc | apply Kd.R_drewN | apply Kd.R_drew)); exact HO1027.out) hb) (Kd.R_base ho0)) (Kd.R_base ho1)) (fun _ h_ => h_.1))
        have n6_ := Aside0.mk (Kd.R_lower (Kd.R_new' (Kd.R_new' (Kd.R_new' (Kd.R_new' (Kd.R_new' (Kd.R_new' ho0 (Kd.R_lt (by (with_reducible repeat (first | apply Kd.R_alloc | apply Kd.R_drewN | apply Kd.R_drew)); exact HO1011.out))) (Kd.R_lt (by (with_reducible repeat (first | apply Kd.R_alloc | apply Kd.R_drewN | apply Kd.R_drew)); exact HO1014.out))) (Kd.R_lt (by (with_reducible repeat (first | apply Kd.R_alloc | apply Kd.R_drewN | apply Kd.R_drew)); exact HO1017.out))) (Kd.R_lt (by (with_reducible repeat (first | apply Kd.R_alloc | apply Kd.R_drewN | apply Kd.R_drew)); exact HO1020.out))) (Kd.R_lt (by (with_reducible repeat (first | apply Kd.R_alloc | apply Kd.R_drewN | apply Kd.R_drew)); exact HO1023.out))) (Kd.R_lt (by (with_reducible repeat (first | apply Kd.R_alloc | apply Kd.R_drewN | apply Kd.R_drew)); exact HO1027.out))) (below_size (by repeat (first | (with_reducible first | exact HB.out | apply below_alloc | apply pw_below_drewN | apply below_drew1 | refine below_set ?_ GE1007.out | refine below_set ?_ GE1024.out) | exact HB.out))))
        have n7_ := Aside0.mk (Kd.R_lower (Kd.R_new' (Kd.R_new' (Kd.R_new' (Kd.R_new' (Kd.R_new' (Kd.R_new' ho1 (Kd.R_lt (by (with_reducible repeat (first | apply Kd.R_alloc | apply Kd.R_drewN | apply Kd.R_drew)); exact HO1011.out))) (Kd.R_lt (by (with_reducible repeat (first | apply Kd.R_alloc | apply Kd.R_drewN | apply Kd.R_drew)); exact HO1014.out))) (Kd.R_lt (by (with_reducible repeat (first | apply Kd.R_alloc | apply Kd.R_drewN | apply Kd.R_drew)); exact HO1017.out))) (Kd.R_lt (by (with_reducible repeat (first | apply Kd.R_alloc | apply Kd.R_drewN | apply Kd.R_drew)); exact HO1020.out))) (Kd.R_lt (by (with_reducible repeat (first | apply Kd.R_alloc | apply Kd.R_drewN | apply Kd.R_drew)); exact HO1023.out))) (Kd.R_lt (by (with_reducible repeat (first | apply Kd.R_alloc | apply Kd.R_drewN | apply Kd.R_drew)); exact HO1027.out))) (below_size (by repeat (first | (with_reducible first | exact HB.out | apply below_alloc | apply pw_below_drewN | apply below_drew1 | refine below_set ?_ GE1007.out | refine below_set ?_ GE1024.out) | exact HB.out))))
        have n8_ := Aside0.mk (blk_below (g := gb1007) (o := .cells #[.slice A0_0 l0_0.length c0_0, .slice A0_1 l0_1.length c0_1] 24 (0, 0)) (by (with_reducible repeat (first | refine blk_drewN ?_ _ | refine blk_drew ?_ | refine blk_alloc ?_ _)); exact BK1007.out) hb)
        have n9_ := Aside0.mk (blk_below (g := gb1024) (o := .cells #[.slice Ao29 t1018.length co29, .slice Ao32 t1021.length co32] 27 (0, 0)) (by (with_reducible repeat (first | refine blk_drewN ?_ _ | refine blk_drew ?_ | refine blk_alloc ?_ _)); exact BK1024.out) hb)
        have n10_ := Aside0.mk (below_step (by repeat (first | (with_reducible first | exact HB.out | apply below_alloc | apply pw_below_drewN | apply below_drew1 | refine below_set ?_ GE1007.out | refine below_set ?_ GE1024.out) | exact HB.out)) hb)
        clear HO1011 HO1014 HO1017 HO1020 HO1023 HO1027 BK1007 BK1024 HB
        have HO1011 := n0_
        have HO1014 := n1_
        have HO1017 := n2_
        have HO1020 := n3_
        have HO1023 := n4_
        have HO1027 := n5_
        have HO1031 := n6_
        have HO1034 := n7_
        have BK1007 := n8_
        have BK1024 := n9_
        have HB := n10_
        clear n0_ n1_ n2_ n3_ n4_ n5_ n6_ n7_ n8_ n9_ n10_
        (try clear hb)
        (try clear hb2)
        (try clear hk)
        (try clear hi)
        (try clear ho0)
        (try clear ho1)
        obtain ⟨Ao38, co38, eo38⟩ := Kd.R_slice HO1031.out
        (first | subst eo38 | (injection eo38 with f1_ f2_ f3_; have f4_ := f1_.symm; have f5_ := f3_.symm; clear f1_ f2_ f3_; subst f4_; subst f5_))
        obtain ⟨Ao39, co39, eo39⟩ := Kd.R_slice HO1034.out
        (first | subst eo39 | (injection eo39 with f1_ f2_ f3_; have f4_ := f1_.symm; have f5_ := f3_.symm; clear f1_ f2_ f3_; subst f4_; subst f5_))
        refine hK.out _ _ ⟨(blk_cell BK1024.out 0).trans rfl, (blk_cell BK1024.out 1).trans rfl, (blk_cell BK1007.out 0).trans rfl, (blk_cell BK1007.out 1).trans rfl⟩ (fun hHeld => ?_)
        clear hK K
        refine norm_ (a' := ?_) ?_ ?_
        rotate_left
        · show Act.put _ (some 29) _ = _
          simp only [Act.put, List.setIfInBounds_toArray, List.set_cons_zero, List.set_cons_succ, i64_w, i32_w]
          rfl
        refine one_ (i := 3) (N := some 30) #[true, true, true, true, false] rfl rfl (by kernel_rfl) (by decide) (fun K hK => ?_)
        refine goes_ Try.func19 (by kernel_rfl) rfl #[.agg #[.slice Ao29 t1018.length co29, .slice Ao32 t1021.length co32], .agg #[.slice Ao38 t1029.length co38, .slice Ao39 t1032.length co39]] (by rfl) rfl rfl (by (try simp only [List.map_toArray, List.map_cons, List.map_nil]); first | done | rfl | (simp only [List.length_drop, List.length_take]; rfl)) ?_
        with_reducible refine (laws_eqSurface.calls k _ _ t1018 _ _ t1021 _ _ t1029 _ _ t1032 true _ ?side1 ?side2 ?side3 ?side4 ?side5 ?side6 ?side7 ?side8 A14.out).mono ?_
        (case side1 => repeat (first | exact (Kd.R_reads' HO1020.out).2.2 | (with_reducible refine Kd.C_alloc ?_ _) | (with_reducible refine Kd.C_drewN ?_ _) | (with_reducible refine Kd.C_drew ?_)))
        (case side2 => exact (Kd.R_reads' HO1020.out).2.1)
        (case side3 => repeat (first | exact (Kd.R_reads' HO1023.out).2.2 | (with_reducible refine Kd.C_alloc ?_ _) | (with_reducible refine Kd.C_drewN ?_ _) | (with_reducible refine Kd.C_drew ?_)))
        (case side4 => exact (Kd.R_reads' HO1023.out).2.1)
        (case side5 => repeat (first | exact (Kd.R_reads' HO1031.out).2.2 | (with_reducible refine Kd.C_alloc ?_ _) | (with_reducible refine Kd.C_drewN ?_ _) | (with_reducible refine Kd.C_drew ?_)))
        (case side6 => exact (Kd.R_reads' HO1031.out).2.1)
        (case side7 => repeat (first | exact (Kd.R_reads' HO1034.out).2.2 | (with_reducible refine Kd.C_alloc ?_ _) | (with_reducible refine Kd.C_drewN ?_ _) | (with_reducible refine Kd.C_drew ?_)))
        (case side8 => exact (Kd.R_reads' HO1034.out).2.1)
        rintro e w40 ⟨rfl, hb⟩
        refine ⟨_, rfl, ?_⟩
        have n0_ := Aside0.mk (Kd.R_below (by (with_reducible repeat (first | apply Kd.R_alloc | apply Kd.R_drewN | apply Kd.R_drew)); exact HO1011.out) hb)
        have n1_ := Aside0.mk (Kd.R_below (by (with_reducible repeat (first | apply Kd.R_alloc | apply Kd.R_drewN | apply Kd.R_drew)); exact HO1014.out) hb)
        have n2_ := Aside0.mk (Kd.R_below (by (with_reducible repeat (first | apply Kd.R_alloc | apply Kd.R_drewN | apply Kd.R_drew)); exact HO1017.out) hb)
        have n3_ := Aside0.mk (Kd.R_below (by (with_reducible repeat (first | apply Kd.R_alloc | apply Kd.R_drewN | apply Kd.R_drew)); exact HO1020.out) hb)
        have n4_ := Aside0.mk (Kd.R_below (by (with_reducible repeat (first | apply Kd.R_alloc | apply Kd.R_drewN | apply Kd.R_drew)); exact HO1023.out) hb)
        have n5_ := Aside0.mk (Kd.R_below (by (with_reducible repeat (first | apply Kd.R_alloc | apply Kd.R_drewN | apply Kd.R_drew)); exact HO1027.out) hb)
        have n6_ := Aside0.mk (Kd.R_below (by (with_reducible repeat (first | apply Kd.R_alloc | apply Kd.R_drewN | apply Kd.R_drew)); exact HO1031.out) hb)
        have n7_ := Aside0.mk (Kd.R_below (by (with_reducible repeat (first | apply Kd.R_alloc | apply Kd.R_drewN | apply Kd.R_drew)); exact HO1034.out) hb)
        have n8_ := Aside0.mk (blk_below (g := gb1007) (o := .cells #[.slice A0_0 l0_0.length c0_0, .slice A0_1 l0_1.length c0_1] 24 (0, 0)) (by (with_reducible repeat (first | refine blk_drewN ?_ _ | refine blk_drew ?_ | refine blk_alloc ?_ _)); exact BK1007.out) hb)
        have n9_ := Aside0.mk (blk_below (g := gb1024) (o := .cells #[.slice Ao29 t1018.length co29, .slice Ao32 t1021.length co32] 27 (0, 0)) (by (with_reducible repeat (first | refine blk_drewN ?_ _ | refine blk_drew ?_ | refine blk_alloc ?_ _)); exact BK1024.out) hb)
        have n10_ := Aside0.mk (below_step (by repeat (first | (with_reducible first | exact HB.out | apply below_alloc | apply pw_below_drewN | apply below_drew1 | refine below_set ?_ GE1007.out | refine below_set ?_ GE1024.out) | exact HB.out)) hb)
        clear HO1011 HO1014 HO1017 HO1020 HO1023 HO1027 HO1031 HO1034 BK1007 BK1024 HB
        have HO1011 := n0_
        have HO1014 := n1_
        have HO1017 := n2_
        have HO1020 := n3_
        have HO1023 := n4_
        have HO1027 := n5_
        have HO1031 := n6_
        have HO1034 := n7_
        have BK1007 := n8_
        have BK1024 := n9_
        have HB := n10_
        clear n0_ n1_ n2_ n3_ n4_ n5_ n6_ n7_ n8_ n9_ n10_
        (try clear hb)
        (try clear hb2)
        (try clear hk)
        (try clear hi)
        refine hK.out _ _ ⟨(blk_cell BK1024.out 0).trans rfl, (blk_cell BK1024.out 1).trans rfl, (blk_cell BK1007.out 0).trans rfl, (blk_cell BK1007.out 1).trans rfl⟩ (fun hHeld => ?_)
        clear hK K
        refine norm_ (a' := ?_) ?_ ?_
        rotate_left
        · show Act.put _ (some 30) _ = _
          simp only [Act.put, List.setIfInBounds_toArray, List.set_cons_zero, List.set_cons_succ, i64_w, i32_w]
          rfl
        refine pure_ (i := 4) (N := some 31) (v := ?_) (a' := ?_) #[true, true, true, true, true] rfl rfl (by kernel_rfl) (fun _ _ _ h => h) (Or.inl ⟨by rfl, ?_⟩) ?_ ?_
        rotate_left
        · intro w'
          go_simp
          with_reducible rfl
        rotate_left
        · simp only [Act.put, List.setIfInBounds_toArray, List.set_cons_zero, List.set_cons_succ, i64_w, i32_w]
          rfl
        refine done_ (by kernel_rfl) ?_
        have hcz41_0 : w40.cell? ⟨gb1024, 0, none⟩ = some (.slice Ao29 t1018.length co29) := (blk_cell BK1024.out 0).trans rfl
        have hcz41_1 : w40.cell? ⟨gb1024, 1, none⟩ = some (.slice Ao32 t1021.length co32) := (blk_cell BK1024.out 1).trans rfl
        have hfz41_0 := blk_frozen BK1024.out 0
        have hfz41_1 := blk_frozen BK1024.out 1
        go_upto_region 14 with (first | ((with_reducible refine gate_callee (f := 42) rfl ?_); refine goesL_ (some 34) rfl rfl Try.func42 (by kernel_rfl) rfl #[.agg #[.slice Ao29 t1018.length co29, .slice Ao32 t1021.length co32], .int .i64 1] rfl (by (try simp only [List.map_toArray, List.map_cons, List.map_nil]); first | done | rfl | (simp only [List.length_drop, List.length_take]; rfl)) ?_; (with_reducible refine (laws_markSurface.calls k (fun k_ => some k_ = (.slice Ao29 t1018.length co29 : Value).ownBlock) (.slice Ao29 t1018.length co29) t1018 (fun k_ => some k_ = (.slice Ao32 t1021.length co32 : Value).ownBlock) (.slice Ao32 t1021.length co32) t1021 1 t1036 t1037 t1038 w _ ?side1 ?side2 ?side3 ?side4 ?side5 A16.out).mono ?_); (case side1 => repeat (first | (with_reducible first | exact HB.out | apply below_alloc | apply pw_below_drewN | apply below_drew1 | refine below_set ?_ GE1007.out | refine below_set ?_ GE1024.out) | exact HB.out)); (case side2 => exact Kd.R_tight rfl HO1020.out); (case side3 => exact fun k_ e_ => (HO1020.out.1 k_ e_.symm).1.1.1.1.1.1); (case side4 => exact Kd.R_tight rfl HO1023.out); (case side5 => exact fun k_ e_ => (HO1023.out.1 k_ e_.symm).1.1.1.1.1.1); rintro e w42 ⟨rfl, hy0, hy1, hb, hkp⟩; refine ⟨_, rfl, ?_⟩; have n0_ := Aside0.mk (blk_kept (by (with_reducible repeat (first | refine blk_drewN ?_ _ | refine blk_drew ?_ | refine blk_alloc ?_ _)); exact BK1007.out) hkp (fun hs_ => Or.elim hs_ (fun e_ => (fun e_ => (Kd.R_ne HO1020.out BK1007.out (by decide)) e_) e_) (fun e_ => (fun e_ => (Kd.R_ne HO1023.out BK1007.out (by decide)) e_) e_))); have n1_ := Aside0.mk (Kd.R_mono (ok' := fun k_ => some k_ ≠ (.slice Ao24 t1012.length co24 : Value).ownBlock ∧ some k_ ≠ (.slice Ao35 t1015.length co35 : Value).ownBlock ∧ some k_ ≠ (.slice Ao29 t1018.length co29 : Value).ownBlock ∧ some k_ ≠ (.slice Ao32 t1021.length co32 : Value).ownBlock ∧ some k_ ≠ (.slice Ao34 t1025.length co34 : Value).ownBlock ∧ some k_ ≠ (.slice Ao38 t1029.length co38 : Value).ownBlock ∧ some k_ ≠ (.slice Ao39 t1032.length co39 : Value).ownBlock) (Kd.R_keptB (HO1011.out) hkp (fun k_ hk_ hs_ => Or.elim hs_ (fun e_ => (hk_.1.1.1.1.2) e_) (fun e_ => (hk_.1.1.1.2) e_))) (fun k_ hk_ => ⟨hk_.1.1.1.1.1.1.1, hk_.1.1.1.1.1.1.2, hk_.1.1.1.1.1.2, hk_.1.1.1.1.2, hk_.1.1.1.2, hk_.1.1.2, hk_.1.2⟩)); have n2_ := Aside0.mk (Kd.R_mono (ok' := fun k_ => some k_ ≠ (.slice Ao23 t1009.length co23 : Value).ownBlock ∧ some k_ ≠ (.slice Ao35 t1015.length co35 : Value).ownBlock ∧ some k_ ≠ (.slice Ao29 t1018.length co29 : Value).ownBlock ∧ some k_ ≠ (.slice Ao32 t1021.length co32 : Value).ownBlock ∧ some k_ ≠ (.slice Ao34 t1025.length co34 : Value).ownBlock ∧ some k_ ≠ (.slice Ao38 t1029.length co38 : Value).ownBlock ∧ some k_ ≠ (.slice Ao39 t1032.length co39 : Value).ownBlock) (Kd.R_keptB (HO1014.out) hkp (fun k_ hk_ hs_ => Or.elim hs_ (fun e_ => (hk_.1.1.1.1.2) e_) (fun e_ => (hk_.1.1.1.2) e_))) (fun k_ hk_ => ⟨hk_.1.1.1.1.1.1.1, hk_.1.1.1.1.1.1.2, hk_.1.1.1.1.1.2, hk_.1.1.1.1.2, hk_.1.1.1.2, hk_.1.1.2, hk_.1.2⟩)); have n3_ := Aside0.mk (Kd.R_mono (ok' := fun k_ => some k_ ≠ (.slice Ao23 t1009.length co23 : Value).ownBlock ∧ some k_ ≠ (.slice Ao24 t1012.length co24 : Value).ownBlock ∧ some k_ ≠ (.slice Ao29 t1018.length co29 : Value).ownBlock ∧ some k_ ≠ (.slice Ao32 t1021.length co32 : Value).ownBlock ∧ some k_ ≠ (.slice Ao34 t1025.length co34 : Value).ownBlock ∧ some k_ ≠ (.slice Ao38 t1029.length co38 : Value).ownBlock ∧ some k_ ≠ (.slice Ao39 t1032.length co39 : Value).ownBlock) (Kd.R_keptB (HO1017.out) hkp (fun k_ hk_ hs_ => Or.elim hs_ (fun e_ => (hk_.1.1.1.1.2) e_) (fun e_ => (hk_.1.1.1.2) e_))) (fun k_ hk_ => ⟨hk_.1.1.1.1.1.1.1.2, hk_.1.1.1.1.1.1.2, hk_.1.1.1.1.1.2, hk_.1.1.1.1.2, hk_.1.1.1.2, hk_.1.1.2, hk_.1.2⟩)); have n4_ := Aside0.mk (Kd.R_reok rfl hy0 (fun k_ e_ => HO1020.out.1 k_ e_)); have n5_ := Aside0.mk (Kd.R_reok rfl hy1 (fun k_ e_ => HO1023.out.1 k_ e_)); have n6_ := Aside0.mk (blk_kept (by (with_reducible repeat (first | refine blk_drewN ?_ _ | refine blk_drew ?_ | refine blk_alloc ?_ _)); exact BK1024.out) hkp (fun hs_ => Or.elim hs_ (fun e_ => (fun e_ => (Kd.R_ne HO1020.out BK1024.out (by decide)) e_) e_) (fun e_ => (fun e_ => (Kd.R_ne HO1023.out BK1024.out (by decide)) e_) e_))); have n7_ := Aside0.mk (Kd.R_mono (ok' := fun k_ => some k_ ≠ (.slice Ao23 t1009.length co23 : Value).ownBlock ∧ some k_ ≠ (.slice Ao24 t1012.length co24 : Value).ownBlock ∧ some k_ ≠ (.slice Ao35 t1015.length co35 : Value).ownBlock ∧ some k_ ≠ (.slice Ao29 t1018.length co29 : Value).ownBlock ∧ some k_ ≠ (.slice Ao32 t1021.length co32 : Value).ownBlock ∧ some k_ ≠ (.slice Ao38 t1029.length co38 : Value).ownBlock ∧ some k_ ≠ (.slice Ao39 t1032.length co39 : Value).ownBlock) (Kd.R_keptB (HO1027.out) hkp (fun k_ hk_ hs_ => Or.elim hs_ (fun e_ => (hk_.1.1.1.2) e_) (fun e_ => (hk_.1.1.2) e_))) (fun k_ hk_ => ⟨hk_.1.1.1.1.1.1.1.2, hk_.1.1.1.1.1.1.2, hk_.1.1.1.1.1.2, hk_.1.1.1.1.2, hk_.1.1.1.2, hk_.1.1.2, hk_.1.2⟩)); have n8_ := Aside0.mk (Kd.R_mono (ok' := fun k_ => some k_ ≠ (.slice Ao23 t1009.length co23 : Value).ownBlock ∧ some k_ ≠ (.slice Ao24 t1012.length co24 : Value).ownBlock ∧ some k_ ≠ (.slice Ao35 t1015.length co35 : Value).ownBlock ∧ some k_ ≠ (.slice Ao29 t1018.length co29 : Value).ownBlock ∧ some k_ ≠ (.slice Ao32 t1021.length co32 : Value).ownBlock ∧ some k_ ≠ (.slice Ao34 t1025.length co34 : Value).ownBlock ∧ some k_ ≠ (.slice Ao39 t1032.length co39 : Value).ownBlock) (Kd.R_keptB (HO1031.out) hkp (fun k_ hk_ hs_ => Or.elim hs_ (fun e_ => (hk_.1.1.2) e_) (fun e_ => (hk_.1.2) e_))) (fun k_ hk_ => ⟨hk_.1.1.1.1.1.1.2, hk_.1.1.1.1.1.2, hk_.1.1.1.1.2, hk_.1.1.1.2, hk_.1.1.2, hk_.1.2, hk_.1.1.1.1.1.1.1⟩)); have n9_ := Aside0.mk (Kd.R_mono (ok' := fun k_ => some k_ ≠ (.slice Ao23 t1009.length co23 : Value).ownBlock ∧ some k_ ≠ (.slice Ao24 t1012.length co24 : Value).ownBlock ∧ some k_ ≠ (.slice Ao35 t1015.length co35 : Value).ownBlock ∧ some k_ ≠ (.slice Ao29 t1018.length co29 : Value).ownBlock ∧ some k_ ≠ (.slice Ao32 t1021.length co32 : Value).ownBlock ∧ some k_ ≠ (.slice Ao34 t1025.length co34 : Value).ownBlock ∧ some k_ ≠ (.slice Ao38 t1029.length co38 : Value).ownBlock) (Kd.R_keptB (HO1034.out) hkp (fun k_ hk_ hs_ => Or.elim hs_ (fun e_ => (hk_.1.1.2) e_) (fun e_ => (hk_.1.2) e_))) (fun k_ hk_ => ⟨hk_.1.1.1.1.1.1.2, hk_.1.1.1.1.1.2, hk_.1.1.1.1.2, hk_.1.1.1.2, hk_.1.1.2, hk_.1.2, hk_.1.1.1.1.1.1.1⟩)); have n10_ := Aside0.mk (hb); clear BK1007; clear HO1011; clear HO1014; clear HO1017; clear HO1020; clear HO1023; clear BK1024; clear HO1027; clear HO1031; clear HO1034; clear HB; have BK1007 := n0_; have HO1011 := n1_; have HO1014 := n2_; have HO1017 := n3_; have HO1020 := n4_; have HO1023 := n5_; have BK1024 := n6_; have HO1027 := n7_; have HO1031 := n8_; have HO1034 := n9_; have HB := n10_; clear n0_ n1_ n2_ n3_ n4_ n5_ n6_ n7_ n8_ n9_ n10_; (try clear hb); (try clear hkp); (try clear hy0); (try clear hy1)))
        (try simp only [Act.put, List.setIfInBounds_toArray, List.set_cons_zero, List.set_cons_succ])
        go_cut [42] (fun v42 wc => ∃ (kq : Nat) (x42_16 : Bool), v42 = .bool x42_16 ∧ Aside0 (laws_FnExactAroundOf.j0 kq t1015 t1025 x42_16 l0_0 l0_1 = some true) ∧ Aside0 (kq ≤ k) ∧ Aside0 (Kd.R (Kd.int .i64) 3 wc w.heap.size (fun k_ => some k_ ≠ ((.slice Ao34 t1025.length co34) : Value).ownBlock ∧ some k_ ≠ ((.slice Ao29 t1018.length co29) : Value).ownBlock ∧ some k_ ≠ ((.slice Ao32 t1021.length co32) : Value).ownBlock) (.slice Ao35 t1015.length co35) t1015) ∧ Aside0 (Kd.R (Kd.int .i64) 3 wc w.heap.size (fun k_ => some k_ ≠ ((.slice Ao35 t1015.length co35) : Value).ownBlock ∧ some k_ ≠ ((.slice Ao29 t1018.length co29) : Value).ownBlock ∧ some k_ ≠ ((.slice Ao32 t1021.length co32) : Value).ownBlock) (.slice Ao34 t1025.length co34) t1025) ∧ Aside0 (Kd.R (Kd.int .i64) 3 wc w.heap.size (fun k_ => some k_ ≠ ((.slice Ao35 t1015.length co35) : Value).ownBlock ∧ some k_ ≠ ((.slice Ao34 t1025.length co34) : Value).ownBlock ∧ some k_ ≠ ((.slice Ao32 t1021.length co32) : Value).ownBlock) (.slice Ao29 t1018.length co29) t1037) ∧ Aside0 (Kd.R (Kd.int .i64) 3 wc w.heap.size (fun k_ => some k_ ≠ ((.slice Ao35 t1015.length co35) : Value).ownBlock ∧ some k_ ≠ ((.slice Ao34 t1025.length co34) : Value).ownBlock ∧ some k_ ≠ ((.slice Ao29 t1018.length co29) : Value).ownBlock) (.slice Ao32 t1021.length co32) t1038) ∧ Aside0 (wc.heap[gb1007]? = some (.cells #[(.slice A0_0 l0_0.length c0_0), (.slice A0_1 l0_1.length c0_1)] 24 (0, 0))) ∧ Aside0 (wc.heap[gb1024]? = some (.cells #[(.slice Ao29 t1018.length co29), (.slice Ao32 t1021.length co32)] 27 (0, 0))) ∧ Aside0 (Below w.heap.size w wc))
        case first =>
          have H := HC17.out
          clear HC17
          by_cases c43 : t1036 < 0
          · rw [if_pos c43] at H
            have c43b0 : decide (t1036 < 0) = true := decide_eq_true c43
            clear c43
            (first | rw [c43b0] | (simp only [i64_w, i32_w]; rw [c43b0]) | skip)
            exact absurd H (by cases k <;> simp [laws_FnExactAroundOf.j0])
          · rw [if_neg c43] at H
            have c43b0 : decide (t1036 < 0) = false := decide_eq_false c43
            clear c43
            (first | rw [c43b0] | (simp only [i64_w, i32_w]; rw [c43b0]) | skip)
            replace H := Option.bind_eq_some_iff.mp H
            obtain ⟨t1039, A440, H⟩ := H
            replace H : (laws_FnExactAroundOf.j0 k t1015 t1025 (!t1039) l0_0 l0_1) = some true := H
            have A44 := Aside0.mk A440
            clear A440
            have H' := Aside0.mk H
            clear H
            go_wp2_with (first | (go_at_call 24; (with_reducible refine (laws_eqIntS.calls k _ _ t1025 _ _ t1015 t1039 _ ?side1 ?side2 ?side3 ?side4 A44.out).mono ?_); (case side1 => repeat (first | exact (Kd.R_reads' HO1027.out).2.2 | (with_reducible refine Kd.C_alloc ?_ _) | (with_reducible refine Kd.C_drewN ?_ _) | (with_reducible refine Kd.C_drew ?_))); (case side2 => exact (Kd.R_reads' HO1027.out).2.1); (case side3 => repeat (first | exact (Kd.R_reads' HO1017.out).2.2 | (with_reducible refine Kd.C_alloc ?_ _) | (with_reducible refine Kd.C_drewN ?_ _) | (with_reducible refine Kd.C_drew ?_))); (case side4 => exact (Kd.R_reads' HO1017.out).2.1); rintro e w' ⟨rfl, ⟨nd, rfl⟩⟩))
            go_meet
            case rel => exact ⟨_, (!t1039), (by first | rfl | (simp; done) | (simp [*]; done)), H', ⟨by first | omega | exact Nat.le_refl _⟩, ⟨by (with_reducible repeat (first | apply Kd.R_alloc | apply Kd.R_drewN | apply Kd.R_drew)); exact Kd.R_mono HO1017.out (fun _ hk => ⟨hk.2.2.2.2.1, ⟨hk.2.2.1, hk.2.2.2.1⟩⟩)⟩, ⟨by (with_reducible repeat (first | apply Kd.R_alloc | apply Kd.R_drewN | apply Kd.R_drew)); exact Kd.R_mono HO1027.out (fun _ hk => ⟨hk.2.2.1, ⟨hk.2.2.2.1, hk.2.2.2.2.1⟩⟩)⟩, ⟨by (with_reducible repeat (first | apply Kd.R_alloc | apply Kd.R_drewN | apply Kd.R_drew)); exact Kd.R_mono HO1020.out (fun _ hk => ⟨hk.1.1.1.2, ⟨hk.1.1.2, hk.1.1.1.1.1.1⟩⟩)⟩, ⟨by (with_reducible repeat (first | apply Kd.R_alloc | apply Kd.R_drewN | apply Kd.R_drew)); exact Kd.R_mono HO1023.out (fun _ hk => ⟨hk.1.1.1.2, ⟨hk.1.1.2, hk.1.1.1.1.1.1⟩⟩)⟩, ⟨by (with_reducible repeat (first | refine blk_drewN ?_ _ | refine blk_drew ?_ | refine blk_alloc ?_ _)); exact BK1007.out⟩, ⟨by (with_reducible repeat (first | refine blk_drewN ?_ _ | refine blk_drew ?_ | refine blk_alloc ?_ _)); exact BK1024.out⟩, ⟨by repeat (first | (with_reducible first | exact HB.out | apply below_alloc | apply pw_below_drewN | apply below_drew1 | refine below_set ?_ GE1007.out | refine below_set ?_ GE1024.out) | exact HB.out)⟩⟩
        case rest =>
          clear HC17
          try clear c1
          try clear c2
          try clear p2
          try clear c3
          try clear c3b0
          try clear c4
          try clear c5
          try clear c12
          try clear c13
          try clear c15
          try clear c17
          try clear c19
          try clear c24
          try clear c30
          try clear c42
          try clear c43
          try clear c43b0
          try clear hcz19_0
          try clear hcz19_1
          try clear hcz21_0
          try clear hcz21_1
          try clear hcz26_0
          try clear hcz26_1
          try clear hcz31_0
          try clear hcz31_1
          try clear hcz41_0
          try clear hcz41_1
          try clear hcz5_0
          try clear hcz5_1
          try clear hfz19_0
          try clear hfz19_1
          try clear hfz21_0
          try clear hfz21_1
          try clear hfz26_0
          try clear hfz26_1
          try clear hfz31_0
          try clear hfz31_1
          try clear hfz41_0
          try clear hfz41_1
          try clear hfz5_0
          try clear hfz5_1
          obtain ⟨kq, x42_16, rfl, HA, HJ16, HO_4, HO_6, HO_1025000, HO_1025001, BK1007, BK1024, HB⟩ := hcut
          have hl1025000_16 := (Kd.R_reads' HO_1025000.out).1
          rw [hl1025000_16] at HO_1025000
          (try simp only [hl1025000_16])
          (try simp only [hl1025000_16] at BK1007)
          (try simp only [hl1025000_16] at BK1024)
          (try simp only [hl1025000_16] at HO_4)
          (try simp only [hl1025000_16] at HO_6)
          (try simp only [hl1025000_16] at HO_1025001)
          have hl1025001_16 := (Kd.R_reads' HO_1025001.out).1
          rw [hl1025001_16] at HO_1025001
          (try simp only [hl1025001_16])
          (try simp only [hl1025001_16] at BK1007)
          (try simp only [hl1025001_16] at BK1024)
          (try simp only [hl1025001_16] at HO_4)
          (try simp only [hl1025001_16] at HO_6)
          (try simp only [hl1025001_16] at HO_1025000)
          cases kq with
          | zero => exact absurd HA.out (by simp [laws_FnExactAroundOf.j0])
          | succ kj16 =>
            have H := HA.out
            clear HA
            simp only [laws_FnExactAroundOf.j0] at H
            by_cases c45 : x42_16 = true
            · subst c45
              have H1 : (some false) = some true := by rw [if_pos rfl] at H; exact H
              clear H
              have H := H1
              clear H1
              exact absurd H (by simp)
            · replace c45 := Bool.eq_false_iff.mpr c45
              subst c45
              have H1 : ((laws_markIntS.f kj16 t1025 1).bind fun bt1040 => ((laws_heldIntS.f kj16 bt1040.2 1).bind fun t1042 => (if t1042 < 0 then (some false) else (if t1042 = bt1040.1 then ((laws_toSurface.f kj16 l0_0 l0_1).bind fun bt1043 => ((impl_AroundOf.f kj16 bt1043.1 bt1043.2).bind fun t1049 => ((laws_eqIntS.f kj16 t1049 t1015).bind fun t1052 => (if t1052 = true then ((laws_heldIntS.f kj16 bt1040.2 1).bind fun t1053 => (if t1053 < 0 then (some false) else (if t1053 = bt1040.1 then (some true) else (some false)))) else (some false))))) else (some false))))) = some true := by rw [if_neg (show ¬ (false = true) by decide)] at H; exact H
              clear H
              have H := H1
              clear H1
              replace H := Option.bind_eq_some_iff.mp H
              obtain ⟨⟨t1040, t1041⟩, A460, H⟩ := H
              replace H : ((laws_heldIntS.f kj16 t1041 1).bind fun t1042 => (if t1042 < 0 then (some false) else (if t1042 = t1040 then ((laws_toSurface.f kj16 l0_0 l0_1).bind fun bt1043 => ((impl_AroundOf.f kj16 bt1043.1 bt1043.2).bind fun t1049 => ((laws_eqIntS.f kj16 t1049 t1015).bind fun t1052 => (if t1052 = true then ((laws_heldIntS.f kj16 t1041 1).bind fun t1053 => (if t1053 < 0 then (some false) else (if t1053 = t1040 then (some true) else (some false)))) else (some false))))) else (some false)))) = some true := H
              have A46 := Aside0.mk A460
              clear A460
              replace H := Option.bind_eq_some_iff.mp H
              obtain ⟨t1042, A470, H⟩ := H
              replace H : (if t1042 < 0 then (some false) else (if t1042 = t1040 then ((laws_toSurface.f kj16 l0_0 l0_1).bind fun bt1043 => ((impl_AroundOf.f kj16 bt1043.1 bt1043.2).bind fun t1049 => ((laws_eqIntS.f kj16 t1049 t1015).bind fun t1052 => (if t1052 = true then ((laws_heldIntS.f kj16 t1041 1).bind fun t1053 => (if t1053 < 0 then (some false) else (if t1053 = t1040 then (some true) else (some false)))) else (some false))))) else (some false))) = some true := H
              have A47 := Aside0.mk A470
              clear A470
              by_cases c48 : t1042 < 0
              · rw [if_pos c48] at H
                have c48b0 : decide (t1042 < 0) = true := decide_eq_true c48
                clear c48
                exact absurd H (by simp)
              · rw [if_neg c48] at H
                have c48b0 : decide (t1042 < 0) = false := decide_eq_false c48
                clear c48
                by_cases c50 : t1042 = t1040
                · rw [if_pos c50] at H
                  have c50b0 : (t1042 == t1040) = true := beq_iff_eq.mpr c50
                  have c50b1 : (t1042 != t1040) = false := bne_eq_false_iff_eq.mpr c50
                  clear c50
                  replace H := Option.bind_eq_some_iff.mp H
                  obtain ⟨⟨t1043, t1046⟩, A510, H⟩ := H
                  replace H : ((impl_AroundOf.f kj16 t1043 t1046).bind fun t1049 => ((laws_eqIntS.f kj16 t1049 t1015).bind fun t1052 => (if t1052 = true then ((laws_heldIntS.f kj16 t1041 1).bind fun t1053 => (if t1053 < 0 then (some false) else (if t1053 = t1040 then (some true) else (some false)))) else (some false)))) = some true := H
                  have A51 := Aside0.mk A510
                  clear A510
                  replace H := Option.bind_eq_some_iff.mp H
                  obtain ⟨t1049, A520, H⟩ := H
                  replace H : ((laws_eqIntS.f kj16 t1049 t1015).bind fun t1052 => (if t1052 = true then ((laws_heldIntS.f kj16 t1041 1).bind fun t1053 => (if t1053 < 0 then (some false) else (if t1053 = t1040 then (some true) else (some false)))) else (some false))) = some true := H
                  have A52 := Aside0.mk A520
                  clear A520
                  replace H := Option.bind_eq_some_iff.mp H
                  obtain ⟨t1052, A530, H⟩ := H
                  replace H : (if t1052 = true then ((laws_heldIntS.f kj16 t1041 1).bind fun t1053 => (if t1053 < 0 then (some false) else (if t1053 = t1040 then (some true) else (some false)))) else (some false)) = some true := H
                  have A53 := Aside0.mk A530
                  clear A530
                  by_cases c54 : t1052 = true
                  · subst c54
                    have H1 : ((laws_heldIntS.f kj16 t1041 1).bind fun t1053 => (if t1053 < 0 then (some false) else (if t1053 = t1040 then (some true) else (some false)))) = some true := by rw [if_pos rfl] at H; exact H
                    clear H
                    have H := H1
                    clear H1
                    replace H := Option.bind_eq_some_iff.mp H
                    obtain ⟨t1053, A550, H⟩ := H
                    replace H : (if t1053 < 0 then (some false) else (if t1053 = t1040 then (some true) else (some false))) = some true := H
                    have A55 := Aside0.mk A550
                    clear A550
                    by_cases c56 : t1053 < 0
                    · rw [if_pos c56] at H
                      have c56b0 : decide (t1053 < 0) = true := decide_eq_true c56
                      clear c56
                      exact absurd H (by simp)
                    · rw [if_neg c56] at H
                      have c56b0 : decide (t1053 < 0) = false := decide_eq_false c56
                      clear c56
                      by_cases c65 : t1053 = t1040
                      · rw [if_pos c65] at H
                        have c65b0 : (t1053 == t1040) = true := beq_iff_eq.mpr c65
                        have c65b1 : (t1053 != t1040) = false := bne_eq_false_iff_eq.mpr c65
                        clear c65
                        go_wp2_with (first | ((with_reducible refine gate_callee (f := 25) rfl ?_); refine goesL_ (some 45) rfl rfl Try.func25 (by kernel_rfl) rfl #[.slice Ao34 t1025.length co34, .int .i64 1] rfl (by (try simp only [List.map_toArray, List.map_cons, List.map_nil]); first | done | rfl | (simp only [List.length_drop, List.length_take]; rfl)) ?_; (with_reducible refine (laws_markIntS.calls kj16 (fun k_ => some k_ = (.slice Ao34 t1025.length co34 : Value).ownBlock) (.slice Ao34 t1025.length co34) t1025 1 t1040 t1041 w _ ?side1 ?side2 A46.out).mono ?_); (case side1 => repeat (first | (with_reducible first | exact HB.out | apply below_alloc | apply pw_below_drewN | apply below_drew1 | refine below_set ?_ GE1007.out | refine below_set ?_ GE1024.out) | exact HB.out)); (case side2 => exact Kd.R_tight rfl HO_6.out); rintro e w66 ⟨rfl, hy0, hb, hkp⟩; refine ⟨_, rfl, ?_⟩; have n0_ := Aside0.mk (Kd.R_mono (ok' := fun k_ => some k_ ≠ (.slice Ao34 t1025.length co34 : Value).ownBlock ∧ some k_ ≠ (.slice Ao29 t1037.length co29 : Value).ownBlock ∧ some k_ ≠ (.slice Ao32 t1038.length co32 : Value).ownBlock) (Kd.R_keptB (HO_4.out) hkp (fun k_ hk_ hs_ => (hk_.1) hs_)) (fun k_ hk_ => ⟨hk_.1.1, hk_.1.2.1, hk_.1.2.2⟩)); have n1_ := Aside0.mk (Kd.R_reok rfl hy0 (fun k_ e_ => HO_6.out.1 k_ e_)); have n2_ := Aside0.mk (Kd.R_mono (ok' := fun k_ => some k_ ≠ (.slice Ao35 t1015.length co35 : Value).ownBlock ∧ some k_ ≠ (.slice Ao34 t1025.length co34 : Value).ownBlock ∧ some k_ ≠ (.slice Ao32 t1038.length co32 : Value).ownBlock) (Kd.R_keptB (HO_1025000.out) hkp (fun k_ hk_ hs_ => (hk_.2.1) hs_)) (fun k_ hk_ => ⟨hk_.1.1, hk_.1.2.1, hk_.1.2.2⟩)); have n3_ := Aside0.mk (Kd.R_mono (ok' := fun k_ => some k_ ≠ (.slice Ao35 t1015.length co35 : Value).ownBlock ∧ some k_ ≠ (.slice Ao34 t1025.length co34 : Value).ownBlock ∧ some k_ ≠ (.slice Ao29 t1037.length co29 : Value).ownBlock) (Kd.R_keptB (HO_1025001.out) hkp (fun k_ hk_ hs_ => (hk_.2.1) hs_)) (fun k_ hk_ => ⟨hk_.1.1, hk_.1.2.1, hk_.1.2.2⟩)); have n4_ := Aside0.mk (blk_kept (by (with_reducible repeat (first | refine blk_drewN ?_ _ | refine blk_drew ?_ | refine blk_alloc ?_ _)); exact BK1007.out) hkp (fun hs_ => (fun e_ => (Kd.R_ne HO_6.out BK1007.out (by decide)) e_) hs_)); have n5_ := Aside0.mk (blk_kept (by (with_reducible repeat (first | refine blk_drewN ?_ _ | refine blk_drew ?_ | refine blk_alloc ?_ _)); exact BK1024.out) hkp (fun hs_ => (fun e_ => (Kd.R_ne HO_6.out BK1024.out (by decide)) e_) hs_)); have n6_ := Aside0.mk (hb); clear HO_4; clear HO_6; clear HO_1025000; clear HO_1025001; clear BK1007; clear BK1024; clear HB; have HO_4 := n0_; have HO_6 := n1_; have HO_1025000 := n2_; have HO_1025001 := n3_; have BK1007 := n4_; have BK1024 := n5_; have HB := n6_; clear n0_ n1_ n2_ n3_ n4_ n5_ n6_; (try clear hb); (try clear hkp); (try clear hy0)) | ((with_reducible refine gate_callee (f := 43) rfl ?_); refine goesL_ (some 48) rfl rfl Try.func43 (by kernel_rfl) rfl #[.slice Ao34 t1041.length co34, .int .i64 1] rfl (by (try simp only [List.map_toArray, List.map_cons, List.map_nil]); first | done | (rw [show t1041.length = t1025.length from (Kd.R_reads' HO_6.out).1.symm] <;> rfl) | rfl | (simp only [List.length_drop, List.length_take]; rfl)) ?_; (with_reducible refine (laws_heldIntS.calls kj16 _ _ t1041 1 t1042 _ ?side1 ?side2 A47.out).mono ?_); (case side1 => repeat (first | exact (Kd.R_reads' HO_6.out).2.2 | (with_reducible refine Kd.C_alloc ?_ _) | (with_reducible refine Kd.C_drewN ?_ _) | (with_reducible refine Kd.C_drew ?_))); (case side2 => rw [show t1041.length = t1025.length from (Kd.R_reads' HO_6.out).1.symm]; exact (Kd.R_reads' HO_6.out).2.1); rintro e w' ⟨rfl, ⟨nd, rfl⟩⟩; refine ⟨_, rfl, ?_⟩; have hnb67 := NB1007_1024.out; have hnc67 := NB1024_1007.out; have hcz68_0 : w66.cell? ⟨gb1007, 0, none⟩ = some (.slice A0_0 l0_0.length c0_0) := (blk_cell BK1007.out 0).trans rfl; have hcz68_1 : w66.cell? ⟨gb1007, 1, none⟩ = some (.slice A0_1 l0_1.length c0_1) := (blk_cell BK1007.out 1).trans rfl; have hfz68_0 := blk_frozen BK1007.out 0; have hfz68_1 := blk_frozen BK1007.out 1) | ((with_reducible refine gate_callee (f := 17) rfl ?_); refine goesL_ (some 55) rfl rfl Try.func17 (by kernel_rfl) rfl #[.agg #[.slice A0_0 l0_0.length c0_0, .slice A0_1 l0_1.length c0_1]] rfl (by (try simp only [List.map_toArray, List.map_cons, List.map_nil]); first | done | rfl | (simp only [List.length_drop, List.length_take]; rfl)) ?_; (with_reducible refine (laws_toSurface.calls kj16 _ _ l0_0 _ _ l0_1 t1043 t1046 _ ?side1 ?side2 ?side3 ?side4 A51.out).mono ?_); (case side1 => repeat (first | exact (Kd.C_below HR0_0.out (by repeat (first | (with_reducible first | exact HB.out | apply below_alloc | apply pw_below_drewN | apply below_drew1 | refine below_set ?_ GE1007.out | refine below_set ?_ GE1024.out) | exact HB.out))) | (with_reducible refine Kd.C_alloc ?_ _) | (with_reducible refine Kd.C_drewN ?_ _) | (with_reducible refine Kd.C_drew ?_))); (case side2 => exact HC0_0.out); (case side3 => repeat (first | exact (Kd.C_below HR0_1.out (by repeat (first | (with_reducible first | exact HB.out | apply below_alloc | apply pw_below_drewN | apply below_drew1 | refine below_set ?_ GE1007.out | refine below_set ?_ GE1024.out) | exact HB.out))) | (with_reducible refine Kd.C_alloc ?_ _) | (with_reducible refine Kd.C_drewN ?_ _) | (with_reducible refine Kd.C_drew ?_))); (case side4 => exact HC0_1.out); rintro e w69 ⟨v1044, v1047, rfl, ho0, ho1, hb⟩; refine ⟨_, rfl, ?_⟩; have n0_ := Aside0.mk (Kd.R_mono (Kd.R_told (Kd.R_told (Kd.R_old (by (with_reducible repeat (first | apply Kd.R_alloc | apply Kd.R_drewN | apply Kd.R_drew)); exact HO_4.out) hb) (Kd.R_base ho0)) (Kd.R_base ho1)) (fun _ h_ => h_.1)); have n1_ := Aside0.mk (Kd.R_mono (Kd.R_told (Kd.R_told (Kd.R_old (by (with_reducible repeat (first | apply Kd.R_alloc | apply Kd.R_drewN | apply Kd.R_drew)); exact HO_6.out) hb) (Kd.R_base ho0)) (Kd.R_base ho1)) (fun _ h_ => h_.1)); have n2_ := Aside0.mk (Kd.R_mono (Kd.R_told (Kd.R_told (Kd.R_old (by (with_reducible repeat (first | apply Kd.R_alloc | apply Kd.R_drewN | apply Kd.R_drew)); exact HO_1025000.out) hb) (Kd.R_base ho0)) (Kd.R_base ho1)) (fun _ h_ => h_.1)); have n3_ := Aside0.mk (Kd.R_mono (Kd.R_told (Kd.R_told (Kd.R_old (by (with_reducible repeat (first | apply Kd.R_alloc | apply Kd.R_drewN | apply Kd.R_drew)); exact HO_1025001.out) hb) (Kd.R_base ho0)) (Kd.R_base ho1)) (fun _ h_ => h_.1)); have n4_ := Aside0.mk (Kd.R_lower (Kd.R_new' (Kd.R_new' (Kd.R_new' (Kd.R_new' ho0 (Kd.R_lt (by (with_reducible repeat (first | apply Kd.R_alloc | apply Kd.R_drewN | apply Kd.R_drew)); exact HO_4.out))) (Kd.R_lt (by (with_reducible repeat (first | apply Kd.R_alloc | apply Kd.R_drewN | apply Kd.R_drew)); exact HO_6.out))) (Kd.R_lt (by (with_reducible repeat (first | apply Kd.R_alloc | apply Kd.R_drewN | apply Kd.R_drew)); exact HO_1025000.out))) (Kd.R_lt (by (with_reducible repeat (first | apply Kd.R_alloc | apply Kd.R_drewN | apply Kd.R_drew)); exact HO_1025001.out))) (below_size (by repeat (first | (with_reducible first | exact HB.out | apply below_alloc | apply pw_below_drewN | apply below_drew1 | refine below_set ?_ GE1007.out | refine below_set ?_ GE1024.out) | exact HB.out)))); have n5_ := Aside0.mk (Kd.R_lower (Kd.R_new' (Kd.R_new' (Kd.R_new' (Kd.R_new' ho1 (Kd.R_lt (by (with_reducible repeat (first | apply Kd.R_alloc | apply Kd.R_drewN | apply Kd.R_drew)); exact HO_4.out))) (Kd.R_lt (by (with_reducible repeat (first | apply Kd.R_alloc | apply Kd.R_drewN | apply Kd.R_drew)); exact HO_6.out))) (Kd.R_lt (by (with_reducible repeat (first | apply Kd.R_alloc | apply Kd.R_drewN | apply Kd.R_drew)); exact HO_1025000.out))) (Kd.R_lt (by (with_reducible repeat (first | apply Kd.R_alloc | apply Kd.R_drewN | apply Kd.R_drew)); exact HO_1025001.out))) (below_size (by repeat (first | (with_reducible first | exact HB.out | apply below_alloc | apply pw_below_drewN | apply below_drew1 | refine below_set ?_ GE1007.out | refine below_set ?_ GE1024.out) | exact HB.out)))); have n6_ := Aside0.mk (blk_below (g := gb1007) (o := .cells #[.slice A0_0 l0_0.length c0_0, .slice A0_1 l0_1.length c0_1] 24 (0, 0)) (by (with_reducible repeat (first | refine blk_drewN ?_ _ | refine blk_drew ?_ | refine blk_alloc ?_ _)); exact BK1007.out) hb); have n7_ := Aside0.mk (blk_below (g := gb1024) (o := .cells #[.slice Ao29 t1037.length co29, .slice Ao32 t1038.length co32] 27 (0, 0)) (by (with_reducible repeat (first | refine blk_drewN ?_ _ | refine blk_drew ?_ | refine blk_alloc ?_ _)); exact BK1024.out) hb); have n8_ := Aside0.mk (below_step (by repeat (first | (with_reducible first | exact HB.out | apply below_alloc | apply pw_below_drewN | apply below_drew1 | refine below_set ?_ GE1007.out | refine below_set ?_ GE1024.out) | exact HB.out)) hb); clear HO_4; clear HO_6; clear HO_1025000; clear HO_1025001; clear BK1007; clear BK1024; clear HB; have HO_4 := n0_; have HO_6 := n1_; have HO_1025000 := n2_; have HO_1025001 := n3_; have HO1045 := n4_; have HO1048 := n5_; have BK1007 := n6_; have BK1024 := n7_; have HB := n8_; clear n0_ n1_ n2_ n3_ n4_ n5_ n6_ n7_ n8_; (try clear hb); (try clear hb2); (try clear hk); (try clear hi); (try clear ho0); (try clear ho1); obtain ⟨Ao70, co70, eo70⟩ := Kd.R_slice HO1045.out; subst eo70; obtain ⟨Ao71, co71, eo71⟩ := Kd.R_slice HO1048.out; subst eo71) | ((with_reducible refine gate_callee (f := 54) rfl ?_); refine goesL_ (some 56) rfl rfl Try.func54 (by kernel_rfl) rfl #[.agg #[.slice Ao70 t1043.length co70, .slice Ao71 t1046.length co71]] rfl (by (try simp only [List.map_toArray, List.map_cons, List.map_nil]); first | done | rfl | (simp only [List.length_drop, List.length_take]; rfl)) ?_; (with_reducible refine (impl_AroundOf.calls kj16 _ _ t1043 _ _ t1046 t1049 _ ?side1 ?side2 ?side3 ?side4 A52.out).mono ?_); (case side1 => repeat (first | exact (Kd.R_reads' HO1045.out).2.2 | (with_reducible refine Kd.C_alloc ?_ _) | (with_reducible refine Kd.C_drewN ?_ _) | (with_reducible refine Kd.C_drew ?_))); (case side2 => exact (Kd.R_reads' HO1045.out).2.1); (case side3 => repeat (first | exact (Kd.R_reads' HO1048.out).2.2 | (with_reducible refine Kd.C_alloc ?_ _) | (with_reducible refine Kd.C_drewN ?_ _) | (with_reducible refine Kd.C_drew ?_))); (case side4 => exact (Kd.R_reads' HO1048.out).2.1); rintro e w72 ⟨v1050, rfl, ho0, hb⟩; refine ⟨_, rfl, ?_⟩; have n0_ := Aside0.mk (Kd.R_elder' (by (with_reducible repeat (first | apply Kd.R_alloc | apply Kd.R_drewN | apply Kd.R_drew)); exact HO_4.out) (Kd.R_base ho0) hb); have n1_ := Aside0.mk (Kd.R_elder' (by (with_reducible repeat (first | apply Kd.R_alloc | apply Kd.R_drewN | apply Kd.R_drew)); exact HO_6.out) (Kd.R_base ho0) hb); have n2_ := Aside0.mk (Kd.R_elder' (by (with_reducible repeat (first | apply Kd.R_alloc | apply Kd.R_drewN | apply Kd.R_drew)); exact HO_1025000.out) (Kd.R_base ho0) hb); have n3_ := Aside0.mk (Kd.R_elder' (by (with_reducible repeat (first | apply Kd.R_alloc | apply Kd.R_drewN | apply Kd.R_drew)); exact HO_1025001.out) (Kd.R_base ho0) hb); have n4_ := Aside0.mk (Kd.R_elder' (by (with_reducible repeat (first | apply Kd.R_alloc | apply Kd.R_drewN | apply Kd.R_drew)); exact HO1045.out) (Kd.R_base ho0) hb); have n5_ := Aside0.mk (Kd.R_elder' (by (with_reducible repeat (first | apply Kd.R_alloc | apply Kd.R_drewN | apply Kd.R_drew)); exact HO1048.out) (Kd.R_base ho0) hb); have n6_ := Aside0.mk (Kd.R_lower (Kd.R_new' (Kd.R_new' (Kd.R_new' (Kd.R_new' (Kd.R_new' (Kd.R_new' ho0 (Kd.R_lt (by (with_reducible repeat (first | apply Kd.R_alloc | apply Kd.R_drewN | apply Kd.R_drew)); exact HO_4.out))) (Kd.R_lt (by (with_reducible repeat (first | apply Kd.R_alloc | apply Kd.R_drewN | apply Kd.R_drew)); exact HO_6.out))) (Kd.R_lt (by (with_reducible repeat (first | apply Kd.R_alloc | apply Kd.R_drewN | apply Kd.R_drew)); exact HO_1025000.out))) (Kd.R_lt (by (with_reducible repeat (first | apply Kd.R_alloc | apply Kd.R_drewN | apply Kd.R_drew)); exact HO_1025001.out))) (Kd.R_lt (by (with_reducible repeat (first | apply Kd.R_alloc | apply Kd.R_drewN | apply Kd.R_drew)); exact HO1045.out))) (Kd.R_lt (by (with_reducible repeat (first | apply Kd.R_alloc | apply Kd.R_drewN | apply Kd.R_drew)); exact HO1048.out))) (below_size (by repeat (first | (with_reducible first | exact HB.out | apply below_alloc | apply pw_below_drewN | apply below_drew1 | refine below_set ?_ GE1007.out | refine below_set ?_ GE1024.out) | exact HB.out)))); have n7_ := Aside0.mk (blk_below (g := gb1007) (o := .cells #[.slice A0_0 l0_0.length c0_0, .slice A0_1 l0_1.length c0_1] 24 (0, 0)) (by (with_reducible repeat (first | refine blk_drewN ?_ _ | refine blk_drew ?_ | refine blk_alloc ?_ _)); exact BK1007.out) hb); have n8_ := Aside0.mk (blk_below (g := gb1024) (o := .cells #[.slice Ao29 t1037.length co29, .slice Ao32 t1038.length co32] 27 (0, 0)) (by (with_reducible repeat (first | refine blk_drewN ?_ _ | refine blk_drew ?_ | refine blk_alloc ?_ _)); exact BK1024.out) hb); have n9_ := Aside0.mk (below_step (by repeat (first | (with_reducible first | exact HB.out | apply below_alloc | apply pw_below_drewN | apply below_drew1 | refine below_set ?_ GE1007.out | refine below_set ?_ GE1024.out) | exact HB.out)) hb); clear HO_4; clear HO_6; clear HO_1025000; clear HO_1025001; clear HO1045; clear HO1048; clear BK1007; clear BK1024; clear HB; have HO_4 := n0_; have HO_6 := n1_; have HO_1025000 := n2_; have HO_1025001 := n3_; have HO1045 := n4_; have HO1048 := n5_; have HO1051 := n6_; have BK1007 := n7_; have BK1024 := n8_; have HB := n9_; clear n0_ n1_ n2_ n3_ n4_ n5_ n6_ n7_ n8_ n9_; (try clear hb); (try clear hb2); (try clear hk); (try clear hi); (try clear ho0); obtain ⟨Ao73, co73, eo73⟩ := Kd.R_slice HO1051.out; subst eo73) | ((with_reducible refine gate_callee (f := 24) rfl ?_); refine goesL_ (some 59) rfl rfl Try.func24 (by kernel_rfl) rfl #[.slice Ao73 t1049.length co73, .slice Ao35 t1015.length co35] rfl (by (try simp only [List.map_toArray, List.map_cons, List.map_nil]); first | done | rfl | (simp only [List.length_drop, List.length_take]; rfl)) ?_; (with_reducible refine (laws_eqIntS.calls kj16 _ _ t1049 _ _ t1015 true _ ?side1 ?side2 ?side3 ?side4 A53.out).mono ?_); (case side1 => repeat (first | exact (Kd.R_reads' HO1051.out).2.2 | (with_reducible refine Kd.C_alloc ?_ _) | (with_reducible refine Kd.C_drewN ?_ _) | (with_reducible refine Kd.C_drew ?_))); (case side2 => exact (Kd.R_reads' HO1051.out).2.1); (case side3 => repeat (first | exact (Kd.R_reads' HO_4.out).2.2 | (with_reducible refine Kd.C_alloc ?_ _) | (with_reducible refine Kd.C_drewN ?_ _) | (with_reducible refine Kd.C_drew ?_))); (case side4 => exact (Kd.R_reads' HO_4.out).2.1); rintro e w' ⟨rfl, ⟨nd, rfl⟩⟩; refine ⟨_, rfl, ?_⟩) | ((with_reducible refine gate_callee (f := 43) rfl ?_); refine goesL_ (some 63) rfl rfl Try.func43 (by kernel_rfl) rfl #[.slice Ao34 t1041.length co34, .int .i64 1] rfl (by (try simp only [List.map_toArray, List.map_cons, List.map_nil]); first | done | (rw [show t1041.length = t1025.length from (Kd.R_reads' HO_6.out).1.symm] <;> rfl) | rfl | (simp only [List.length_drop, List.length_take]; rfl)) ?_; (with_reducible refine (laws_heldIntS.calls kj16 _ _ t1041 1 t1053 _ ?side1 ?side2 A55.out).mono ?_); (case side1 => repeat (first | exact (Kd.R_reads' HO_6.out).2.2 | (with_reducible refine Kd.C_alloc ?_ _) | (with_reducible refine Kd.C_drewN ?_ _) | (with_reducible refine Kd.C_drew ?_))); (case side2 => rw [show t1041.length = t1025.length from (Kd.R_reads' HO_6.out).1.symm]; exact (Kd.R_reads' HO_6.out).2.1); rintro e w' ⟨rfl, ⟨nd, rfl⟩⟩; refine ⟨_, rfl, ?_⟩))
                        go_ret
                        exact ⟨by first | rfl | (simp [errW_none, errW_some] <;> rfl) | (simp [*, errW_none, errW_some] <;> rfl), by repeat (first | (with_reducible first | exact HB.out | apply below_alloc | apply pw_below_drewN | apply below_drew1 | refine below_set ?_ GE1007.out | refine below_set ?_ GE1024.out) | exact HB.out)⟩
                      · rw [if_neg c65] at H
                        have c65b0 : (t1053 == t1040) = false := beq_eq_false_iff_ne.mpr c65
                        have c65b1 : (t1053 != t1040) = true := bne_iff_ne.mpr c65
                        exact absurd H (by simp)
                  · replace c54 := Bool.eq_false_iff.mpr c54
                    subst c54
                    have H1 : (some false) = some true := by rw [if_neg (show ¬ (false = true) by decide)] at H; exact H
                    clear H
                    have H := H1
                    clear H1
                    exact absurd H (by simp)
                · rw [if_neg c50] at H
                  have c50b0 : (t1042 == t1040) = false := beq_eq_false_iff_ne.mpr c50
                  have c50b1 : (t1042 != t1040) = true := bne_iff_ne.mpr c50
                  exact absurd H (by simp)
      · replace c15 := Bool.eq_false_iff.mpr c15
        subst c15
        have H1 : (some false) = some true := by rw [if_neg (show ¬ (false = true) by decide)] at H; exact H
        clear H
        have H := H1
        clear H1
        exact absurd H (by simp)
    · replace c12 := Bool.eq_false_iff.mpr c12
      subst c12
      have H1 : (some false) = some true := by rw [if_neg (show ¬ (false = true) by decide)] at H; exact H
      clear H
      have H := H1
      clear H1
      exact absurd H (by simp)

/-- The pure statement of laws_FnExactAroundOf. -/
def laws_FnExactAroundOf.Pure : Prop := ∀ (l0_0 : List Int) (l0_1 : List Int), l0_0.length ≤ maxLen → (∀ x ∈ l0_0, (Lit.int .i64 x).wf = true) → l0_1.length ≤ maxLen → (∀ x ∈ l0_1, (Lit.int .i64 x).wf = true) → ∃ k, laws_FnExactAroundOf.f k l0_0 l0_1 = some true
theorem laws_FnExactAroundOf.walk (P : laws_FnExactAroundOf.Pure) (a0_0 : Option Addr) (len0_0 cap0_0 : Nat) (z0_0 : List Int) (a0_1 : Option Addr) (len0_1 cap0_1 : Nat) (z0_1 : List Int) (w : World) (w0_0 : ((a0_0 = none ∧ len0_0 = 0 ∧ cap0_0 = 0 ∧ z0_0 = []) ∨ ∃ x, a0_0 = some x ∧ len0_0 ≤ cap0_0 ∧ cap0_0 ≤ maxLen ∧ z0_0.length = cap0_0 ∧ (∀ i, i < z0_0.length → w.cell? (x.add i) = some (.int .i64 (z0_0.getD i 0))) ∧ ∀ n ∈ z0_0, (Lit.int .i64 n).wf = true)) (w0_1 : ((a0_1 = none ∧ len0_1 = 0 ∧ cap0_1 = 0 ∧ z0_1 = []) ∨ ∃ x, a0_1 = some x ∧ len0_1 ≤ cap0_1 ∧ cap0_1 ≤ maxLen ∧ z0_1.length = cap0_1 ∧ (∀ i, i < z0_1.length → w.cell? (x.add i) = some (.int .i64 (z0_1.getD i 0))) ∧ ∀ n ∈ z0_1, (Lit.int .i64 n).wf = true)) :
    Calls Try.prog 13 #[.agg #[.slice a0_0 len0_0 cap0_0, .slice a0_1 len0_1 cap0_1]] w fun e w' => e = .returned (.bool true) ∧ Below w.heap.size w w' := by
  obtain ⟨l0_0, rfl, hr0_0, hm0_0, hw0_0, hc0_0⟩ := ReadsInt.ofRowC w0_0
  obtain ⟨l0_1, rfl, hr0_1, hm0_1, hw0_1, hc0_1⟩ := ReadsInt.ofRowC w0_1
  obtain ⟨k, h⟩ := P l0_0 l0_1 hm0_0 hw0_0 hm0_1 hw0_1
  refine (laws_FnExactAroundOf.calls_true k _ _ l0_0 _ _ l0_1 w (Kd.C_of_reads (d := (0 : Int)) (h1 := fun _ => rfl) hr0_0) hc0_0 (Kd.C_of_reads (d := (0 : Int)) (h1 := fun _ => rfl) hr0_1) hc0_1 h).mono ?_
  rintro e w' ⟨rfl, hd⟩
  exact ⟨rfl, hd⟩

end Go.Proofs.Ytlohmpgbjgidpac.P
