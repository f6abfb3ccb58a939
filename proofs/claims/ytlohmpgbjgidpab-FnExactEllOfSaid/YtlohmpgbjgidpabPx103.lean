-- MADE by this project's printer (wip/mk) out of the translation; Lean checks it.
import Derived.Test.YtlohmpgbjgidpabPx0
import Derived.Test.YtlohmpgbjgidpabPx15
import Derived.Test.YtlohmpgbjgidpabPx17
import Derived.Test.YtlohmpgbjgidpabPx19
import Derived.Test.YtlohmpgbjgidpabPx53
import Derived.Test.YtlohmpgbjgidpabPx102
namespace Go.Proofs.Ytlohmpgbjgidpab.P
open Go.RowKit Go.Proofs.YtlohmpgbjgidpabW.PrintWords Go.Proofs.YtlohmpgbjgidpabW.PrintLast Go.Proofs.YtlohmpgbjgidpabW.PrintMore
attribute [local go_sem] max2_int min2_int max_two min_two max_three min_three max_four min_four   -- for this text's walks alone
set_option linter.unusedVariables false
set_option linter.unusedSimpArgs false

/-! ### laws_FnExactEllOf: function 12 -/
mutual
def laws_FnExactEllOf.j0 : Nat → Int → Int → Bool → Bool → List Int → List Int → List Int → List Int → Option (Bool)
  | 0, _, _, _, _, _, _, _, _ => none
  | k + 1, x0, x1, x6, x33, x837000, x837001, x845000, x845001 => if x33 = true then (some false) else ((laws_markSurface.f k x845000 x845001 1).bind fun bt846 => ((laws_heldSurface.f k bt846.2.1 bt846.2.2 1).bind fun t849 => (if t849 < 0 then (some false) else (if t849 = bt846.1 then ((impl_EllOf.f k x0 x1).bind fun bt850 => ((laws_eqSurface.f k bt850.1 bt850.2.1 x837000 x837001).bind fun t858 => (if t858 = true then (laws_FnExactEllOf.j1 k bt846.1 (bt850.2.2 != x6) bt846.2.1 bt846.2.2) else (laws_FnExactEllOf.j1 k bt846.1 true bt846.2.1 bt846.2.2)))) else (some false)))))
def laws_FnExactEllOf.j1 : Nat → Int → Bool → List Int → List Int → Option (Bool)
  | 0, _, _, _, _ => none
  | k + 1, x9, x59, x845000, x845001 => if x59 = true then (some false) else ((laws_heldSurface.f k x845000 x845001 1).bind fun t859 => (if t859 < 0 then (some false) else (if t859 = x9 then (some true) else (some false))))
end
def laws_FnExactEllOf.f (k : Nat) (a0 : Int) (a1 : Int) : Option (Bool) := (spec_EllOf.f k a0 a1).bind fun bt829 => ((impl_EllOf.f k a0 a1).bind fun bt837 => ((laws_eqSurface.f k bt837.1 bt837.2.1 bt829.1 bt829.2.1).bind fun t845 => (if t845 = true then (laws_FnExactEllOf.j0 k a0 a1 bt829.2.2 (bt837.2.2 != bt829.2.2) bt829.1 bt829.2.1 bt837.1 bt837.2.1) else (laws_FnExactEllOf.j0 k a0 a1 bt829.2.2 true bt829.1 bt829.2.1 bt837.1 bt837.2.1))))
theorem laws_FnExactEllOf.mono_l : ∀ k, (∀ y0 y1 y2 y3 y4 y5 y6 y7, LeO (laws_FnExactEllOf.j0 k y0 y1 y2 y3 y4 y5 y6 y7) (laws_FnExactEllOf.j0 (k + 1) y0 y1 y2 y3 y4 y5 y6 y7)) ∧ (∀ y0 y1 y2 y3, LeO (laws_FnExactEllOf.j1 k y0 y1 y2 y3) (laws_FnExactEllOf.j1 (k + 1) y0 y1 y2 y3))
  | 0 => ⟨fun _ _ _ _ _ _ _ _ r h => by simp [laws_FnExactEllOf.j0] at h, fun _ _ _ _ r h => by simp [laws_FnExactEllOf.j1] at h⟩
  | k + 1 => by
    obtain ⟨ih0, ih1⟩ := laws_FnExactEllOf.mono_l k
    refine ⟨?_, ?_⟩
    · intro y0 y1 y2 y3 y4 y5 y6 y7
      unfold laws_FnExactEllOf.j0
      repeat' first
      | (with_reducible exact ih0 _ _ _ _ _ _ _ _)
      | (with_reducible exact ih1 _ _ _ _)
      | (with_reducible exact impl_EllOf.mono _ _ _)
      | (with_reducible exact laws_eqSurface.mono _ _ _ _ _)
      | (with_reducible exact laws_heldSurface.mono _ _ _ _)
      | (with_reducible exact laws_markSurface.mono _ _ _ _)
      | (with_reducible exact spec_EllOf.mono _ _ _)
      | (with_reducible exact LeO.refl _)
      | (with_reducible exact LeO.none _)
      | (with_reducible refine LeO.ite ?_ ?_)
      | (with_reducible refine LeO.bind ?_ (fun _ => ?_))
      | exact ih0 _ _ _ _ _ _ _ _
      | exact ih1 _ _ _ _
      | exact impl_EllOf.mono _ _ _
      | exact laws_eqSurface.mono _ _ _ _ _
      | exact laws_heldSurface.mono _ _ _ _
      | exact laws_markSurface.mono _ _ _ _
      | exact spec_EllOf.mono _ _ _
      | exact LeO.none _
      | refine LeO.ite ?_ ?_
      | refine LeO.bind ?_ (fun _ => ?_)
    · intro y0 y1 y2 y3
      unfold laws_FnExactEllOf.j1
      repeat' first
      | (with_reducible exact ih0 _ _ _ _ _ _ _ _)
      | (with_reducible exact ih1 _ _ _ _)
      | (with_reducible exact impl_EllOf.mono _ _ _)
      | (with_reducible exact laws_eqSurface.mono _ _ _ _ _)
      | (with_reducible exact laws_heldSurface.mono _ _ _ _)
      | (with_reducible exact laws_markSurface.mono _ _ _ _)
      | (with_reducible exact spec_EllOf.mono _ _ _)
      | (with_reducible exact LeO.refl _)
      | (with_reducible exact LeO.none _)
      | (with_reducible refine LeO.ite ?_ ?_)
      | (with_reducible refine LeO.bind ?_ (fun _ => ?_))
      | exact ih0 _ _ _ _ _ _ _ _
      | exact ih1 _ _ _ _
      | exact impl_EllOf.mono _ _ _
      | exact laws_eqSurface.mono _ _ _ _ _
      | exact laws_heldSurface.mono _ _ _ _
      | exact laws_markSurface.mono _ _ _ _
      | exact spec_EllOf.mono _ _ _
      | exact LeO.none _
      | refine LeO.ite ?_ ?_
      | refine LeO.bind ?_ (fun _ => ?_)
theorem laws_FnExactEllOf.mono : ∀ a0 a1 k, LeO (laws_FnExactEllOf.f k a0 a1) (laws_FnExactEllOf.f (k + 1) a0 a1) := by
  intro a0 a1 k
  obtain ⟨ih0, ih1⟩ := laws_FnExactEllOf.mono_l k
  unfold laws_FnExactEllOf.f
  repeat' first
      | (with_reducible exact ih0 _ _ _ _ _ _ _ _)
      | (with_reducible exact ih1 _ _ _ _)
      | (with_reducible exact impl_EllOf.mono _ _ _)
      | (with_reducible exact laws_eqSurface.mono _ _ _ _ _)
      | (with_reducible exact laws_heldSurface.mono _ _ _ _)
      | (with_reducible exact laws_markSurface.mono _ _ _ _)
      | (with_reducible exact spec_EllOf.mono _ _ _)
      | (with_reducible exact LeO.refl _)
      | (with_reducible exact LeO.none _)
      | (with_reducible refine LeO.ite ?_ ?_)
      | (with_reducible refine LeO.bind ?_ (fun _ => ?_))
      | exact ih0 _ _ _ _ _ _ _ _
      | exact ih1 _ _ _ _
      | exact impl_EllOf.mono _ _ _
      | exact laws_eqSurface.mono _ _ _ _ _
      | exact laws_heldSurface.mono _ _ _ _
      | exact laws_markSurface.mono _ _ _ _
      | exact spec_EllOf.mono _ _ _
      | exact LeO.none _
      | refine LeO.ite ?_ ?_
      | refine LeO.bind ?_ (fun _ => ?_)
set_option maxHeartbeats 8000000 in
set_option maxRecDepth 100000 in
theorem laws_FnExactEllOf.calls_true (k : Nat) (a0 : Int) (a1 : Int) (w : World) (h : laws_FnExactEllOf.f k a0 a1 = some true) :
    Calls Try.prog 12 #[.int .i64 a0, .int .i64 a1] w fun e w' => e = .returned (.bool true) ∧ Below w.heap.size w w' := by
  have hu29 := Try.underlying29
  have HB := Aside0.mk (Below.refl w.heap.size w)
  have H : ((spec_EllOf.f k a0 a1).bind fun bt829 => ((impl_EllOf.f k a0 a1).bind fun bt837 => ((laws_eqSurface.f k bt837.1 bt837.2.1 bt829.1 bt829.2.1).bind fun t845 => (if t845 = true then (laws_FnExactEllOf.j0 k a0 a1 bt829.2.2 (bt837.2.2 != bt829.2.2) bt829.1 bt829.2.1 bt837.1 bt837.2.1) else (laws_FnExactEllOf.j0 k a0 a1 bt829.2.2 true bt829.1 bt829.2.1 bt837.1 bt837.2.1))))) = some true := h
  clear h
  replace H := Option.bind_eq_some_iff.mp H
  obtain ⟨⟨t829, t832, t835⟩, A30, H⟩ := H
  replace H : ((impl_EllOf.f k a0 a1).bind fun bt837 => ((laws_eqSurface.f k bt837.1 bt837.2.1 t829 t832).bind fun t845 => (if t845 = true then (laws_FnExactEllOf.j0 k a0 a1 t835 (bt837.2.2 != t835) t829 t832 bt837.1 bt837.2.1) else (laws_FnExactEllOf.j0 k a0 a1 t835 true t829 t832 bt837.1 bt837.2.1)))) = some true := H
  have A3 := Aside0.mk A30
  clear A30
  replace H := Option.bind_eq_some_iff.mp H
  obtain ⟨⟨t837, t840, t843⟩, A40, H⟩ := H
  replace H : ((laws_eqSurface.f k t837 t840 t829 t832).bind fun t845 => (if t845 = true then (laws_FnExactEllOf.j0 k a0 a1 t835 (t843 != t835) t829 t832 t837 t840) else (laws_FnExactEllOf.j0 k a0 a1 t835 true t829 t832 t837 t840))) = some true := H
  have A4 := Aside0.mk A40
  clear A40
  have HC5 := Aside0.mk H
  clear H
  go_enter Try.func12, Try.ntmps12
  go_upto_region 3 with (first | ((with_reducible refine gate_callee (f := 53) rfl ?_); refine goesL_ (some 16) rfl rfl Try.func53 (by kernel_rfl) rfl #[.int .i64 a0, .int .i64 a1] rfl (by (try simp only [List.map_toArray, List.map_cons, List.map_nil]); first | done | rfl | (simp only [List.length_drop, List.length_take]; rfl)) ?_; (with_reducible refine (spec_EllOf.calls k a0 a1 t829 t832 t835 _ A3.out).mono ?_); rintro e w6 ⟨v830, v833, rfl, ho0, ho1, hb⟩; refine ⟨_, rfl, ?_⟩; have n0_ := Aside0.mk (Kd.R_lower ho0 (below_size (by repeat (first | (with_reducible first | exact HB.out | apply below_alloc | apply pw_below_drewN | apply below_drew1) | exact HB.out)))); have n1_ := Aside0.mk (Kd.R_lower ho1 (below_size (by repeat (first | (with_reducible first | exact HB.out | apply below_alloc | apply pw_below_drewN | apply below_drew1) | exact HB.out)))); have n2_ := Aside0.mk (below_step (by repeat (first | (with_reducible first | exact HB.out | apply below_alloc | apply pw_below_drewN | apply below_drew1) | exact HB.out)) hb); clear HB; have HO831 := n0_; have HO834 := n1_; have HB := n2_; clear n0_ n1_ n2_; (try clear hb); (try clear hb2); (try clear hk); (try clear hi); (try clear ho0); (try clear ho1)) | ((with_reducible refine gate_dst (N := 5) rfl ?_); refine box_event ?hg (N := 5) ?hd (cs := #[.slice none 0 0, .slice none 0 0]) (t := 29) ?hr ?_; (case hd => rfl); (case hg => rfl); (case hr => first | (go_simp; done) | (go_simp; rfl)); intro gb836 hg w7 hbox hb; have n0_ := Aside0.mk (Kd.R_below (by (with_reducible repeat (first | apply Kd.R_alloc | apply Kd.R_drewN | apply Kd.R_drew)); exact HO831.out) hb); have n1_ := Aside0.mk (Kd.R_below (by (with_reducible repeat (first | apply Kd.R_alloc | apply Kd.R_drewN | apply Kd.R_drew)); exact HO834.out) hb); have n2_ := Aside0.mk (below_step (by repeat (first | (with_reducible first | exact HB.out | apply below_alloc | apply pw_below_drewN | apply below_drew1) | exact HB.out)) hb); have n3_ := Aside0.mk (hbox); have n4_ := Aside0.mk ((by rw [hg]; exact (below_size (by repeat (first | (with_reducible first | exact HB.out | apply below_alloc | apply pw_below_drewN | apply below_drew1) | exact HB.out))) : w.heap.size ≤ gb836)); have n5_ := Aside0.mk ((by rw [hg]; exact (below_size (by repeat (first | (with_reducible first | exact HB.out | apply below_alloc | apply pw_below_drewN | apply below_drew1) | exact HB.out))) : w.heap.size ≤ gb836)); clear HO831; clear HO834; clear HB; have HO831 := n0_; have HO834 := n1_; have HB := n2_; have BK836 := n3_; have GW836 := n4_; have GE836 := n5_; clear n0_ n1_ n2_ n3_ n4_ n5_; clear hb hbox hg; obtain ⟨Ao8, co8, eo8⟩ := Kd.R_slice HO831.out; subst eo8; have hcz9_0 : w7.cell? ⟨gb836, 0, none⟩ = some (.slice none 0 0) := (blk_cell BK836.out 0).trans rfl; have hcz9_1 : w7.cell? ⟨gb836, 1, none⟩ = some (.slice none 0 0) := (blk_cell BK836.out 1).trans rfl; have hfz9_0 := blk_frozen BK836.out 0; have hfz9_1 := blk_frozen BK836.out 1; obtain ⟨Ao10, co10, eo10⟩ := Kd.R_slice HO834.out; subst eo10) | ((with_reducible refine gate_callee (f := 54) rfl ?_); refine goesL_ (some 22) rfl rfl Try.func54 (by kernel_rfl) rfl #[.int .i64 a0, .int .i64 a1] rfl (by (try simp only [List.map_toArray, List.map_cons, List.map_nil]); first | done | rfl | (simp only [List.length_drop, List.length_take]; rfl)) ?_; (with_reducible refine (impl_EllOf.calls k a0 a1 t837 t840 t843 _ A4.out).mono ?_); rintro e w11 ⟨v838, v841, rfl, ho0, ho1, hb⟩; refine ⟨_, rfl, ?_⟩; have n0_ := Aside0.mk (Kd.R_mono (Kd.R_told (Kd.R_told (Kd.R_old (by (with_reducible repeat (first | apply Kd.R_alloc | apply Kd.R_drewN | apply Kd.R_drew)); exact (Kd.R_mono (Kd.R_far (p := ⟨gb836, 1, none⟩) (Kd.R_far (p := ⟨gb836, 0, none⟩) (Kd.R_types HO831.out BK836.out (by decide)) (fun _ hk => hk.2) (.slice Ao8 t829.length co8)) (fun _ hk => hk.2) (.slice Ao10 t832.length co10)) (fun _ h_ => h_.1))) hb) (Kd.R_base ho0)) (Kd.R_base ho1)) (fun _ h_ => h_.1)); have n1_ := Aside0.mk (Kd.R_mono (Kd.R_told (Kd.R_told (Kd.R_old (by (with_reducible repeat (first | apply Kd.R_alloc | apply Kd.R_drewN | apply Kd.R_drew)); exact (Kd.R_mono (Kd.R_far (p := ⟨gb836, 1, none⟩) (Kd.R_far (p := ⟨gb836, 0, none⟩) (Kd.R_types HO834.out BK836.out (by decide)) (fun _ hk => hk.2) (.slice Ao8 t829.length co8)) (fun _ hk => hk.2) (.slice Ao10 t832.length co10)) (fun _ h_ => h_.1))) hb) (Kd.R_base ho0)) (Kd.R_base ho1)) (fun _ h_ => h_.1)); have n2_ := Aside0.mk (Kd.R_lower (Kd.R_new' (Kd.R_new' ho0 (Kd.R_lt (by (with_reducible repeat (first | apply Kd.R_alloc | apply Kd.R_drewN | apply Kd.R_drew)); exact (Kd.R_mono (Kd.R_far (p := ⟨gb836, 1, none⟩) (Kd.R_far (p := ⟨gb836, 0, none⟩) (Kd.R_types HO831.out BK836.out (by decide)) (fun _ hk => hk.2) (.slice Ao8 t829.length co8)) (fun _ hk => hk.2) (.slice Ao10 t832.length co10)) (fun _ h_ => h_.1))))) (Kd.R_lt (by (with_reducible repeat (first | apply Kd.R_alloc | apply Kd.R_drewN | apply Kd.R_drew)); exact (Kd.R_mono (Kd.R_far (p := ⟨gb836, 1, none⟩) (Kd.R_far (p := ⟨gb836, 0, none⟩) (Kd.R_types HO834.out BK836.out (by decide)) (fun _ hk => hk.2) (.slice Ao8 t829.length co8)) (fun _ hk => hk.2) (.slice Ao10 t832.length co10)) (fun _ h_ => h_.1))))) (below_size (by repeat (first | (with_reducible first | exact HB.out | apply below_alloc | apply pw_below_drewN | apply below_drew1 | refine below_set ?_ GE836.out) | exact HB.out)))); have n3_ := Aside0.mk (Kd.R_lower (Kd.R_new' (Kd.R_new' ho1 (Kd.R_lt (by (with_reducible repeat (first | apply Kd.R_alloc | apply Kd.R_drewN | apply Kd.R_drew)); exact (Kd.R_mono (Kd.R_far (p := ⟨gb836, 1, none⟩) (Kd.R_far (p := ⟨gb836, 0, none⟩) (Kd.R_types HO831.out BK836.out (by decide)) (fun _ hk => hk.2) (.slice Ao8 t829.length co8)) (fun _ hk => hk.2) (.slice Ao10 t832.length co10)) (fun _ h_ => h_.1))))) (Kd.R_lt (by (with_reducible repeat (first | apply Kd.R_alloc | apply Kd.R_drewN | apply Kd.R_drew)); exact (Kd.R_mono (Kd.R_far (p := ⟨gb836, 1, none⟩) (Kd.R_far (p := ⟨gb836, 0, none⟩) (Kd.R_types HO834.out BK836.out (by decide)) (fun _ hk => hk.2) (.slice Ao8 t829.length co8)) (fun _ hk => hk.2) (.slice Ao10 t832.length co10)) (fun _ h_ => h_.1))))) (below_size (by repeat (first | (with_reducible first | exact HB.out | apply below_alloc | apply pw_below_drewN | apply below_drew1 | refine below_set ?_ GE836.out) | exact HB.out)))); have n4_ := Aside0.mk (blk_below (g := gb836) (o := .cells #[.slice Ao8 t829.length co8, .slice Ao10 t832.length co10] 29 (0, 0)) (by (with_reducible repeat (first | refine blk_drewN ?_ _ | refine blk_drew ?_ | refine blk_alloc ?_ _)); refine blk_put (cs := #[.slice Ao8 t829.length co8, .slice none 0 0]) ?_ 1 _ rfl; (with_reducible repeat (first | refine blk_drewN ?_ _ | refine blk_drew ?_ | refine blk_alloc ?_ _)); refine blk_put (cs := #[.slice none 0 0, .slice none 0 0]) ?_ 0 _ rfl; (with_reducible repeat (first | refine blk_drewN ?_ _ | refine blk_drew ?_ | refine blk_alloc ?_ _)); exact BK836.out) hb); have n5_ := Aside0.mk (below_step (by repeat (first | (with_reducible first | exact HB.out | apply below_alloc | apply pw_below_drewN | apply below_drew1 | refine below_set ?_ GE836.out) | exact HB.out)) hb); clear HO831; clear HO834; clear BK836; clear HB; have HO831 := n0_; have HO834 := n1_; have HO839 := n2_; have HO842 := n3_; have BK836 := n4_; have HB := n5_; clear n0_ n1_ n2_ n3_ n4_ n5_; (try clear hb); (try clear hb2); (try clear hk); (try clear hi); (try clear ho0); (try clear ho1)) | ((with_reducible refine gate_dst (N := 7) rfl ?_); refine box_event ?hg (N := 7) ?hd (cs := #[.slice none 0 0, .slice none 0 0]) (t := 29) ?hr ?_; (case hd => rfl); (case hg => rfl); (case hr => first | (go_simp; done) | (go_simp; rfl)); intro gb844 hg w12 hbox hb; have n0_ := Aside0.mk (Kd.R_below (by (with_reducible repeat (first | apply Kd.R_alloc | apply Kd.R_drewN | apply Kd.R_drew)); exact HO831.out) hb); have n1_ := Aside0.mk (Kd.R_below (by (with_reducible repeat (first | apply Kd.R_alloc | apply Kd.R_drewN | apply Kd.R_drew)); exact HO834.out) hb); have n2_ := Aside0.mk (Kd.R_below (by (with_reducible repeat (first | apply Kd.R_alloc | apply Kd.R_drewN | apply Kd.R_drew)); exact HO839.out) hb); have n3_ := Aside0.mk (Kd.R_below (by (with_reducible repeat (first | apply Kd.R_alloc | apply Kd.R_drewN | apply Kd.R_drew)); exact HO842.out) hb); have n4_ := Aside0.mk (blk_below (g := gb836) (o := .cells #[.slice Ao8 t829.length co8, .slice Ao10 t832.length co10] 29 (0, 0)) (by (with_reducible repeat (first | refine blk_drewN ?_ _ | refine blk_drew ?_ | refine blk_alloc ?_ _)); exact BK836.out) hb); have n5_ := Aside0.mk (below_step (by repeat (first | (with_reducible first | exact HB.out | apply below_alloc | apply pw_below_drewN | apply below_drew1 | refine below_set ?_ GE836.out) | exact HB.out)) hb); have n6_ := Aside0.mk (hbox); have n7_ := Aside0.mk ((by rw [hg]; exact (below_size (by repeat (first | (with_reducible first | exact HB.out | apply below_alloc | apply pw_below_drewN | apply below_drew1 | refine below_set ?_ GE836.out) | exact HB.out))) : w.heap.size ≤ gb844)); have n8_ := Aside0.mk ((by rw [hg]; exact (below_size (by repeat (first | (with_reducible first | exact HB.out | apply below_alloc | apply pw_below_drewN | apply below_drew1 | refine below_set ?_ GE836.out) | exact HB.out))) : w.heap.size ≤ gb844)); have n9_ := Aside0.mk ((by rw [hg]; exact Nat.ne_of_lt (blk_lt (g := gb836) (o := .cells #[.slice Ao8 t829.length co8, .slice Ao10 t832.length co10] 29 (0, 0)) (by (with_reducible repeat (first | refine blk_drewN ?_ _ | refine blk_drew ?_ | refine blk_alloc ?_ _)); exact BK836.out)) : gb836 ≠ gb844)); have n10_ := Aside0.mk ((by rw [hg]; exact Nat.ne_of_gt (blk_lt (g := gb836) (o := .cells #[.slice Ao8 t829.length co8, .slice Ao10 t832.length co10] 29 (0, 0)) (by (with_reducible repeat (first | refine blk_drewN ?_ _ | refine blk_drew ?_ | refine blk_alloc ?_ _)); exact BK836.out)) : gb844 ≠ gb836)); clear HO831; clear HO834; clear HO839; clear HO842; clear BK836; clear HB; have HO831 := n0_; have HO834 := n1_; have HO839 := n2_; have HO842 := n3_; have BK836 := n4_; have HB := n5_; have BK844 := n6_; have GW844 := n7_; have GE844 := n8_; have NB836_844 := n9_; have NB844_836 := n10_; clear n0_ n1_ n2_ n3_ n4_ n5_ n6_ n7_ n8_ n9_ n10_; clear hb hbox hg; obtain ⟨Ao13, co13, eo13⟩ := Kd.R_slice HO839.out; subst eo13; have hnb14 := NB844_836.out; have hnc14 := NB836_844.out; have hcz15_0 : w12.cell? ⟨gb844, 0, none⟩ = some (.slice none 0 0) := (blk_cell BK844.out 0).trans rfl; have hcz15_1 : w12.cell? ⟨gb844, 1, none⟩ = some (.slice none 0 0) := (blk_cell BK844.out 1).trans rfl; have hfz15_0 := blk_frozen BK844.out 0; have hfz15_1 := blk_frozen BK844.out 1; obtain ⟨Ao16, co16, eo16⟩ := Kd.R_slice HO842.out; subst eo16))
  (try simp only [Act.put, List.setIfInBounds_toArray, List.set_cons_zero, List.set_cons_succ])
  go_cut [33] (fun v33 wc => ∃ (kq : Nat) (x33_4 : Bool), v33 = .bool x33_4 ∧ Aside0 (laws_FnExactEllOf.j0 kq a0 a1 t835 x33_4 t829 t832 t837 t840 = some true) ∧ Aside0 (kq ≤ k) ∧ Aside0 (Kd.R (Kd.int .i64) 3 wc w.heap.size (fun k_ => some k_ ≠ ((.slice Ao10 t832.length co10) : Value).ownBlock ∧ some k_ ≠ ((.slice Ao13 t837.length co13) : Value).ownBlock ∧ some k_ ≠ ((.slice Ao16 t840.length co16) : Value).ownBlock) (.slice Ao8 t829.length co8) t829) ∧ Aside0 (Kd.R (Kd.int .i64) 3 wc w.heap.size (fun k_ => some k_ ≠ ((.slice Ao8 t829.length co8) : Value).ownBlock ∧ some k_ ≠ ((.slice Ao13 t837.length co13) : Value).ownBlock ∧ some k_ ≠ ((.slice Ao16 t840.length co16) : Value).ownBlock) (.slice Ao10 t832.length co10) t832) ∧ Aside0 (Kd.R (Kd.int .i64) 3 wc w.heap.size (fun k_ => some k_ ≠ ((.slice Ao8 t829.length co8) : Value).ownBlock ∧ some k_ ≠ ((.slice Ao10 t832.length co10) : Value).ownBlock ∧ some k_ ≠ ((.slice Ao16 t840.length co16) : Value).ownBlock) (.slice Ao13 t837.length co13) t837) ∧ Aside0 (Kd.R (Kd.int .i64) 3 wc w.heap.size (fun k_ => some k_ ≠ ((.slice Ao8 t829.length co8) : Value).ownBlock ∧ some k_ ≠ ((.slice Ao10 t832.length co10) : Value).ownBlock ∧ some k_ ≠ ((.slice Ao13 t837.length co13) : Value).ownBlock) (.slice Ao16 t840.length co16) t840) ∧ Aside0 (wc.heap[gb836]? = some (.cells #[(.slice Ao8 t829.length co8), (.slice Ao10 t832.length co10)] 29 (0, 0))) ∧ Aside0 (wc.heap[gb844]? = some (.cells #[(.slice Ao13 t837.length co13), (.slice Ao16 t840.length co16)] 29 (0, 0))) ∧ Aside0 (Below w.heap.size w wc))
  case first =>
    have H := HC5.out
    clear HC5
    replace H := Option.bind_eq_some_iff.mp H
    obtain ⟨t845, A170, H⟩ := H
    replace H : (if t845 = true then (laws_FnExactEllOf.j0 k a0 a1 t835 (t843 != t835) t829 t832 t837 t840) else (laws_FnExactEllOf.j0 k a0 a1 t835 true t829 t832 t837 t840)) = some true := H
    have A17 := Aside0.mk A170
    clear A170
    by_cases c18 : t845 = true
    · subst c18
      have H1 : (laws_FnExactEllOf.j0 k a0 a1 t835 (t843 != t835) t829 t832 t837 t840) = some true := by rw [if_pos rfl] at H; exact H
      clear H
      have H := H1
      clear H1
      have H' := Aside0.mk H
      clear H
      have hnb19 := NB844_836.out
      have hnc19 := NB836_844.out
      have hcz20_0 : w12.cell? ⟨gb844, 0, none⟩ = some (.slice none 0 0) := (blk_cell BK844.out 0).trans rfl
      have hcz20_1 : w12.cell? ⟨gb844, 1, none⟩ = some (.slice none 0 0) := (blk_cell BK844.out 1).trans rfl
      have hfz20_0 := blk_frozen BK844.out 0
      have hfz20_1 := blk_frozen BK844.out 1
      have hcz21_0 : w12.cell? ⟨gb836, 0, none⟩ = some (.slice Ao8 t829.length co8) := (blk_cell BK836.out 0).trans rfl
      have hcz21_1 : w12.cell? ⟨gb836, 1, none⟩ = some (.slice Ao10 t832.length co10) := (blk_cell BK836.out 1).trans rfl
      have hfz21_0 := blk_frozen BK836.out 0
      have hfz21_1 := blk_frozen BK836.out 1
      go_wp2_with (first | ((with_reducible refine gate_callee (f := 22) rfl ?_); refine goesL_ (some 27) rfl rfl Try.func22 (by kernel_rfl) rfl #[.agg #[.slice Ao13 t837.length co13, .slice Ao16 t840.length co16], .agg #[.slice Ao8 t829.length co8, .slice Ao10 t832.length co10]] rfl (by (try simp only [List.map_toArray, List.map_cons, List.map_nil]); first | done | rfl | (simp only [List.length_drop, List.length_take]; rfl)) ?_; (with_reducible refine (laws_eqSurface.calls k _ _ t837 _ _ t840 _ _ t829 _ _ t832 true _ ?side1 ?side2 ?side3 ?side4 ?side5 ?side6 ?side7 ?side8 A17.out).mono ?_); (case side1 => refine (Kd.R_reads' (e := 3) (base := w.heap.size) (ok := fun k_ => ((some k_ ≠ (.slice Ao16 t840.length co16 : Value).ownBlock ∧ some k_ ≠ (.slice Ao8 t829.length co8 : Value).ownBlock) ∧ some k_ ≠ (.slice Ao10 t832.length co10 : Value).ownBlock)) (n := t837.length) (c := co13) ?_).2.2; exact (by (with_reducible repeat (first | apply Kd.R_alloc | apply Kd.R_drewN | apply Kd.R_drew)); exact (Kd.R_mono (Kd.R_far (p := ⟨gb844, 1, none⟩) (Kd.R_far (p := ⟨gb844, 0, none⟩) (Kd.R_types HO839.out BK844.out (by decide)) (fun _ hk => hk.2) (.slice Ao13 t837.length co13)) (fun _ hk => hk.2) (.slice Ao16 t840.length co16)) (fun _ h_ => h_.1)))); (case side2 => exact (Kd.R_reads' HO839.out).2.1); (case side3 => refine (Kd.R_reads' (e := 3) (base := w.heap.size) (ok := fun k_ => ((some k_ ≠ (.slice Ao13 t837.length co13 : Value).ownBlock ∧ some k_ ≠ (.slice Ao8 t829.length co8 : Value).ownBlock) ∧ some k_ ≠ (.slice Ao10 t832.length co10 : Value).ownBlock)) (n := t840.length) (c := co16) ?_).2.2; exact (by (with_reducible repeat (first | apply Kd.R_alloc | apply Kd.R_drewN | apply Kd.R_drew)); exact (Kd.R_mono (Kd.R_far (p := ⟨gb844, 1, none⟩) (Kd.R_far (p := ⟨gb844, 0, none⟩) (Kd.R_types HO842.out BK844.out (by decide)) (fun _ hk => hk.2) (.slice Ao13 t837.length co13)) (fun _ hk => hk.2) (.slice Ao16 t840.length co16)) (fun _ h_ => h_.1)))); (case side4 => exact (Kd.R_reads' HO842.out).2.1); (case side5 => refine (Kd.R_reads' (e := 3) (base := w.heap.size) (ok := fun k_ => ((some k_ ≠ (.slice Ao10 t832.length co10 : Value).ownBlock ∧ some k_ ≠ (.slice Ao13 t837.length co13 : Value).ownBlock) ∧ some k_ ≠ (.slice Ao16 t840.length co16 : Value).ownBlock)) (n := t829.length) (c := co8) ?_).2.2; exact (by (with_reducible repeat (first | apply Kd.R_alloc | apply Kd.R_drewN | apply Kd.R_drew)); exact (Kd.R_mono (Kd.R_far (p := ⟨gb844, 1, none⟩) (Kd.R_far (p := ⟨gb844, 0, none⟩) (Kd.R_types HO831.out BK844.out (by decide)) (fun _ hk => hk.2) (.slice Ao13 t837.length co13)) (fun _ hk => hk.2) (.slice Ao16 t840.length co16)) (fun _ h_ => h_.1)))); (case side6 => exact (Kd.R_reads' HO831.out).2.1); (case side7 => refine (Kd.R_reads' (e := 3) (base := w.heap.size) (ok := fun k_ => ((some k_ ≠ (.slice Ao8 t829.length co8 : Value).ownBlock ∧ some k_ ≠ (.slice Ao13 t837.length co13 : Value).ownBlock) ∧ some k_ ≠ (.slice Ao16 t840.length co16 : Value).ownBlock)) (n := t832.length) (c := co10) ?_).2.2; exact (by (with_reducible repeat (first | apply Kd.R_alloc | apply Kd.R_drewN | apply Kd.R_drew)); exact (Kd.R_mono (Kd.R_far (p := ⟨gb844, 1, none⟩) (Kd.R_far (p := ⟨gb844, 0, none⟩) (Kd.R_types HO834.out BK844.out (by decide)) (fun _ hk => hk.2) (.slice Ao13 t837.length co13)) (fun _ hk => hk.2) (.slice Ao16 t840.length co16)) (fun _ h_ => h_.1)))); (case side8 => exact (Kd.R_reads' HO834.out).2.1); rintro e w22 ⟨rfl, hb⟩; refine ⟨_, rfl, ?_⟩; have n0_ := Aside0.mk (Kd.R_below (by (with_reducible repeat (first | apply Kd.R_alloc | apply Kd.R_drewN | apply Kd.R_drew)); exact (Kd.R_mono (Kd.R_far (p := ⟨gb844, 1, none⟩) (Kd.R_far (p := ⟨gb844, 0, none⟩) (Kd.R_types HO831.out BK844.out (by decide)) (fun _ hk => hk.2) (.slice Ao13 t837.length co13)) (fun _ hk => hk.2) (.slice Ao16 t840.length co16)) (fun _ h_ => h_.1))) hb); have n1_ := Aside0.mk (Kd.R_below (by (with_reducible repeat (first | apply Kd.R_alloc | apply Kd.R_drewN | apply Kd.R_drew)); exact (Kd.R_mono (Kd.R_far (p := ⟨gb844, 1, none⟩) (Kd.R_far (p := ⟨gb844, 0, none⟩) (Kd.R_types HO834.out BK844.out (by decide)) (fun _ hk => hk.2) (.slice Ao13 t837.length co13)) (fun _ hk => hk.2) (.slice Ao16 t840.length co16)) (fun _ h_ => h_.1))) hb); have n2_ := Aside0.mk (Kd.R_below (by (with_reducible repeat (first | apply Kd.R_alloc | apply Kd.R_drewN | apply Kd.R_drew)); exact (Kd.R_mono (Kd.R_far (p := ⟨gb844, 1, none⟩) (Kd.R_far (p := ⟨gb844, 0, none⟩) (Kd.R_types HO839.out BK844.out (by decide)) (fun _ hk => hk.2) (.slice Ao13 t837.length co13)) (fun _ hk => hk.2) (.slice Ao16 t840.length co16)) (fun _ h_ => h_.1))) hb); have n3_ := Aside0.mk (Kd.R_below (by (with_reducible repeat (first | apply Kd.R_alloc | apply Kd.R_drewN | apply Kd.R_drew)); exact (Kd.R_mono (Kd.R_far (p := ⟨gb844, 1, none⟩) (Kd.R_far (p := ⟨gb844, 0, none⟩) (Kd.R_types HO842.out BK844.out (by decide)) (fun _ hk => hk.2) (.slice Ao13 t837.length co13)) (fun _ hk => hk.2) (.slice Ao16 t840.length co16)) (fun _ h_ => h_.1))) hb); have n4_ := Aside0.mk (blk_below (g := gb836) (o := .cells #[.slice Ao8 t829.length co8, .slice Ao10 t832.length co10] 29 (0, 0)) (by (with_reducible repeat (first | refine blk_drewN ?_ _ | refine blk_drew ?_ | refine blk_alloc ?_ _)); refine blk_far ?_ NB836_844.out _; (with_reducible repeat (first | refine blk_drewN ?_ _ | refine blk_drew ?_ | refine blk_alloc ?_ _)); refine blk_far ?_ NB836_844.out _; (with_reducible repeat (first | refine blk_drewN ?_ _ | refine blk_drew ?_ | refine blk_alloc ?_ _)); exact BK836.out) hb); have n5_ := Aside0.mk (blk_below (g := gb844) (o := .cells #[.slice Ao13 t837.length co13, .slice Ao16 t840.length co16] 29 (0, 0)) (by (with_reducible repeat (first | refine blk_drewN ?_ _ | refine blk_drew ?_ | refine blk_alloc ?_ _)); refine blk_put (cs := #[.slice Ao13 t837.length co13, .slice none 0 0]) ?_ 1 _ rfl; (with_reducible repeat (first | refine blk_drewN ?_ _ | refine blk_drew ?_ | refine blk_alloc ?_ _)); refine blk_put (cs := #[.slice none 0 0, .slice none 0 0]) ?_ 0 _ rfl; (with_reducible repeat (first | refine blk_drewN ?_ _ | refine blk_drew ?_ | refine blk_alloc ?_ _)); exact BK844.out) hb); have n6_ := Aside0.mk (below_step (by repeat (first | (with_reducible first | exact HB.out | apply below_alloc | apply pw_below_drewN | apply below_drew1 | refine below_set ?_ GE836.out | refine below_set ?_ GE844.out) | exact HB.out)) hb); clear HO831; clear HO834; clear HO839; clear HO842; clear BK836; clear BK844; clear HB; have HO831 := n0_; have HO834 := n1_; have HO839 := n2_; have HO842 := n3_; have BK836 := n4_; have BK844 := n5_; have HB := n6_; clear n0_ n1_ n2_ n3_ n4_ n5_ n6_; (try clear hb); (try clear hb2); (try clear hk); (try clear hi)))
      go_meet
      case rel => exact ⟨_, ((t843 != t835)), (by first | rfl | (simp; done) | (simp [*]; done)), H', ⟨by first | omega | exact Nat.le_refl _⟩, ⟨by (with_reducible repeat (first | apply Kd.R_alloc | apply Kd.R_drewN | apply Kd.R_drew)); exact Kd.R_mono HO831.out (fun _ hk => ⟨hk.1.1, ⟨hk.1.2, hk.2⟩⟩)⟩, ⟨by (with_reducible repeat (first | apply Kd.R_alloc | apply Kd.R_drewN | apply Kd.R_drew)); exact Kd.R_mono HO834.out (fun _ hk => ⟨hk.1.1, ⟨hk.1.2, hk.2⟩⟩)⟩, ⟨by (with_reducible repeat (first | apply Kd.R_alloc | apply Kd.R_drewN | apply Kd.R_drew)); exact Kd.R_mono HO839.out (fun _ hk => ⟨hk.1.2, ⟨hk.2, hk.1.1⟩⟩)⟩, ⟨by (with_reducible repeat (first | apply Kd.R_alloc | apply Kd.R_drewN | apply Kd.R_drew)); exact Kd.R_mono HO842.out (fun _ hk => ⟨hk.1.2, ⟨hk.2, hk.1.1⟩⟩)⟩, ⟨by (with_reducible repeat (first | refine blk_drewN ?_ _ | refine blk_drew ?_ | refine blk_alloc ?_ _)); exact BK836.out⟩, ⟨by (with_reducible repeat (first | refine blk_drewN ?_ _ | refine blk_drew ?_ | refine blk_alloc ?_ _)); exact BK844.out⟩, ⟨by repeat (first | (with_reducible first | exact HB.out | apply below_alloc | apply pw_below_drewN | apply below_drew1 | refine below_set ?_ GE836.out | refine below_set ?_ GE844.out) | exact HB.out)⟩⟩
    · replace c18 := Bool.eq_false_iff.mpr c18
      subst c18
      have H1 : (laws_FnExactEllOf.j0 k a0 a1 t835 true t829 t832 t837 t840) = some true := by rw [if_neg (show ¬ (false = true) by decide)] at H; exact H
      clear H
      have H := H1
      clear H1
      cases k with
      | zero => rw [laws_FnExactEllOf.j0] at H; exact absurd H (by simp)
      | succ k_ => rw [laws_FnExactEllOf.j0, if_pos rfl] at H; exact absurd H (by simp)
  case rest =>
    clear HC5
    try clear c1
    try clear c2
    try clear p2
    try clear c5
    try clear c12
    try clear c14
    try clear c18
    try clear c19
    try clear c22
    try clear c23
    try clear hcz15_0
    try clear hcz15_1
    try clear hcz20_0
    try clear hcz20_1
    try clear hcz21_0
    try clear hcz21_1
    try clear hcz24_0
    try clear hcz24_1
    try clear hcz25_0
    try clear hcz25_1
    try clear hcz9_0
    try clear hcz9_1
    try clear hfz15_0
    try clear hfz15_1
    try clear hfz20_0
    try clear hfz20_1
    try clear hfz21_0
    try clear hfz21_1
    try clear hfz24_0
    try clear hfz24_1
    try clear hfz25_0
    try clear hfz25_1
    try clear hfz9_0
    try clear hfz9_1
    obtain ⟨kq, x33_4, rfl, HA, HJ4, HO_837000, HO_837001, HO_845000, HO_845001, BK836, BK844, HB⟩ := hcut
    cases kq with
    | zero => exact absurd HA.out (by simp [laws_FnExactEllOf.j0])
    | succ kj4 =>
      have H := HA.out
      clear HA
      simp only [laws_FnExactEllOf.j0] at H
      by_cases c27 : x33_4 = true
      · subst c27
        have H1 : (some false) = some true := by rw [if_pos rfl] at H; exact H
        clear H
        have H := H1
        clear H1
        exact absurd H (by simp)
      · replace c27 := Bool.eq_false_iff.mpr c27
        subst c27
        have H1 : ((laws_markSurface.f kj4 t837 t840 1).bind fun bt846 => ((laws_heldSurface.f kj4 bt846.2.1 bt846.2.2 1).bind fun t849 => (if t849 < 0 then (some false) else (if t849 = bt846.1 then ((impl_EllOf.f kj4 a0 a1).bind fun bt850 => ((laws_eqSurface.f kj4 bt850.1 bt850.2.1 t829 t832).bind fun t858 => (if t858 = true then (laws_FnExactEllOf.j1 kj4 bt846.1 (bt850.2.2 != t835) bt846.2.1 bt846.2.2) else (laws_FnExactEllOf.j1 kj4 bt846.1 true bt846.2.1 bt846.2.2)))) else (some false))))) = some true := by rw [if_neg (show ¬ (false = true) by decide)] at H; exact H
        clear H
        have H := H1
        clear H1
        replace H := Option.bind_eq_some_iff.mp H
        obtain ⟨⟨t846, t847, t848⟩, A280, H⟩ := H
        replace H : ((laws_heldSurface.f kj4 t847 t848 1).bind fun t849 => (if t849 < 0 then (some false) else (if t849 = t846 then ((impl_EllOf.f kj4 a0 a1).bind fun bt850 => ((laws_eqSurface.f kj4 bt850.1 bt850.2.1 t829 t832).bind fun t858 => (if t858 = true then (laws_FnExactEllOf.j1 kj4 t846 (bt850.2.2 != t835) t847 t848) else (laws_FnExactEllOf.j1 kj4 t846 true t847 t848)))) else (some false)))) = some true := H
        have A28 := Aside0.mk A280
        clear A280
        replace H := Option.bind_eq_some_iff.mp H
        obtain ⟨t849, A290, H⟩ := H
        replace H : (if t849 < 0 then (some false) else (if t849 = t846 then ((impl_EllOf.f kj4 a0 a1).bind fun bt850 => ((laws_eqSurface.f kj4 bt850.1 bt850.2.1 t829 t832).bind fun t858 => (if t858 = true then (laws_FnExactEllOf.j1 kj4 t846 (bt850.2.2 != t835) t847 t848) else (laws_FnExactEllOf.j1 kj4 t846 true t847 t848)))) else (some false))) = some true := H
        have A29 := Aside0.mk A290
        clear A290
        by_cases c30 : t849 < 0
        · rw [if_pos c30] at H
          have c30b0 : decide (t849 < 0) = true := decide_eq_true c30
          clear c30
          exact absurd H (by simp)
        · rw [if_neg c30] at H
          have c30b0 : decide (t849 < 0) = false := decide_eq_false c30
          clear c30
          by_cases c36 : t849 = t846
          · rw [if_pos c36] at H
            have c36b0 : (t849 == t846) = true := beq_iff_eq.mpr c36
            have c36b1 : (t849 != t846) = false := bne_eq_false_iff_eq.mpr c36
            clear c36
            replace H := Option.bind_eq_some_iff.mp H
            obtain ⟨⟨t850, t853, t856⟩, A370, H⟩ := H
            replace H : ((laws_eqSurface.f kj4 t850 t853 t829 t832).bind fun t858 => (if t858 = true then (laws_FnExactEllOf.j1 kj4 t846 (t856 != t835) t847 t848) else (laws_FnExactEllOf.j1 kj4 t846 true t847 t848))) = some true := H
            have A37 := Aside0.mk A370
            clear A370
            have HC38 := Aside0.mk H
            clear H
            have hnb39 := NB844_836.out
            have hnc39 := NB836_844.out
            have hcz40_0 : wc.cell? ⟨gb844, 0, none⟩ = some (.slice Ao13 t837.length co13) := (blk_cell BK844.out 0).trans rfl
            have hcz40_1 : wc.cell? ⟨gb844, 1, none⟩ = some (.slice Ao16 t840.length co16) := (blk_cell BK844.out 1).trans rfl
            have hfz40_0 := blk_frozen BK844.out 0
            have hfz40_1 := blk_frozen BK844.out 1
            go_upto_region 14 with (first | ((with_reducible refine gate_callee (f := 23) rfl ?_); refine goesL_ (some 36) rfl rfl Try.func23 (by kernel_rfl) rfl #[.agg #[.slice Ao13 t837.length co13, .slice Ao16 t840.length co16], .int .i64 1] rfl (by (try simp only [List.map_toArray, List.map_cons, List.map_nil]); first | done | rfl | (simp only [List.length_drop, List.length_take]; rfl)) ?_; (with_reducible refine (laws_markSurface.calls kj4 (fun k_ => some k_ = (.slice Ao13 t837.length co13 : Value).ownBlock) (.slice Ao13 t837.length co13) t837 (fun k_ => some k_ = (.slice Ao16 t840.length co16 : Value).ownBlock) (.slice Ao16 t840.length co16) t840 1 t846 t847 t848 w _ ?side1 ?side2 ?side3 ?side4 ?side5 A28.out).mono ?_); (case side1 => repeat (first | (with_reducible first | exact HB.out | apply below_alloc | apply pw_below_drewN | apply below_drew1 | refine below_set ?_ GE836.out | refine below_set ?_ GE844.out) | exact HB.out)); (case side2 => exact Kd.R_tight rfl HO_845000.out); (case side3 => exact fun k_ e_ => (HO_845000.out.1 k_ e_.symm).2.2); (case side4 => exact Kd.R_tight rfl HO_845001.out); (case side5 => exact fun k_ e_ => (HO_845001.out.1 k_ e_.symm).2.2); rintro e w41 ⟨rfl, hy0, hy1, hb, hkp⟩; refine ⟨_, rfl, ?_⟩; have n0_ := Aside0.mk (Kd.R_mono (ok' := fun k_ => some k_ ≠ (.slice Ao10 t832.length co10 : Value).ownBlock ∧ some k_ ≠ (.slice Ao13 t837.length co13 : Value).ownBlock ∧ some k_ ≠ (.slice Ao16 t840.length co16 : Value).ownBlock) (Kd.R_keptB (HO_837000.out) hkp (fun k_ hk_ hs_ => Or.elim hs_ (fun e_ => (hk_.2.1) e_) (fun e_ => (hk_.2.2) e_))) (fun k_ hk_ => ⟨hk_.1.1, hk_.1.2.1, hk_.1.2.2⟩)); have n1_ := Aside0.mk (Kd.R_mono (ok' := fun k_ => some k_ ≠ (.slice Ao8 t829.length co8 : Value).ownBlock ∧ some k_ ≠ (.slice Ao13 t837.length co13 : Value).ownBlock ∧ some k_ ≠ (.slice Ao16 t840.length co16 : Value).ownBlock) (Kd.R_keptB (HO_837001.out) hkp (fun k_ hk_ hs_ => Or.elim hs_ (fun e_ => (hk_.2.1) e_) (fun e_ => (hk_.2.2) e_))) (fun k_ hk_ => ⟨hk_.1.1, hk_.1.2.1, hk_.1.2.2⟩)); have n2_ := Aside0.mk (Kd.R_reok rfl hy0 (fun k_ e_ => HO_845000.out.1 k_ e_)); have n3_ := Aside0.mk (Kd.R_reok rfl hy1 (fun k_ e_ => HO_845001.out.1 k_ e_)); have n4_ := Aside0.mk (blk_kept (by (with_reducible repeat (first | refine blk_drewN ?_ _ | refine blk_drew ?_ | refine blk_alloc ?_ _)); exact BK836.out) hkp (fun hs_ => Or.elim hs_ (fun e_ => (fun e_ => (Kd.R_ne HO_845000.out BK836.out (by decide)) e_) e_) (fun e_ => (fun e_ => (Kd.R_ne HO_845001.out BK836.out (by decide)) e_) e_))); have n5_ := Aside0.mk (blk_kept (by (with_reducible repeat (first | refine blk_drewN ?_ _ | refine blk_drew ?_ | refine blk_alloc ?_ _)); exact BK844.out) hkp (fun hs_ => Or.elim hs_ (fun e_ => (fun e_ => (Kd.R_ne HO_845000.out BK844.out (by decide)) e_) e_) (fun e_ => (fun e_ => (Kd.R_ne HO_845001.out BK844.out (by decide)) e_) e_))); have n6_ := Aside0.mk (hb); clear HO_837000; clear HO_837001; clear HO_845000; clear HO_845001; clear BK836; clear BK844; clear HB; have HO_837000 := n0_; have HO_837001 := n1_; have HO_845000 := n2_; have HO_845001 := n3_; have BK836 := n4_; have BK844 := n5_; have HB := n6_; clear n0_ n1_ n2_ n3_ n4_ n5_ n6_; (try clear hb); (try clear hkp); (try clear hy0); (try clear hy1); have hcz42_0 : w41.cell? ⟨gb844, 0, none⟩ = some (.slice Ao13 t837.length co13) := (blk_cell BK844.out 0).trans rfl; have hcz42_1 : w41.cell? ⟨gb844, 1, none⟩ = some (.slice Ao16 t840.length co16) := (blk_cell BK844.out 1).trans rfl; have hfz42_0 := blk_frozen BK844.out 0; have hfz42_1 := blk_frozen BK844.out 1) | ((with_reducible refine gate_callee (f := 24) rfl ?_); refine goesL_ (some 39) rfl rfl Try.func24 (by kernel_rfl) rfl #[.agg #[.slice Ao13 t847.length co13, .slice Ao16 t848.length co16], .int .i64 1] rfl (by (try simp only [List.map_toArray, List.map_cons, List.map_nil]); first | done | (rw [show t847.length = t837.length from (Kd.R_reads' HO_845000.out).1.symm, show t848.length = t840.length from (Kd.R_reads' HO_845001.out).1.symm] <;> rfl) | rfl | (simp only [List.length_drop, List.length_take]; rfl)) ?_; (with_reducible refine (laws_heldSurface.calls kj4 _ _ t847 _ _ t848 1 t849 _ ?side1 ?side2 ?side3 ?side4 A29.out).mono ?_); (case side1 => repeat (first | exact (Kd.R_reads' HO_845000.out).2.2 | (with_reducible refine Kd.C_alloc ?_ _) | (with_reducible refine Kd.C_drewN ?_ _) | (with_reducible refine Kd.C_drew ?_))); (case side2 => rw [show t847.length = t837.length from (Kd.R_reads' HO_845000.out).1.symm]; exact (Kd.R_reads' HO_845000.out).2.1); (case side3 => repeat (first | exact (Kd.R_reads' HO_845001.out).2.2 | (with_reducible refine Kd.C_alloc ?_ _) | (with_reducible refine Kd.C_drewN ?_ _) | (with_reducible refine Kd.C_drew ?_))); (case side4 => rw [show t848.length = t840.length from (Kd.R_reads' HO_845001.out).1.symm]; exact (Kd.R_reads' HO_845001.out).2.1); rintro e w43 ⟨rfl, hb⟩; refine ⟨_, rfl, ?_⟩; have n0_ := Aside0.mk (Kd.R_below (by (with_reducible repeat (first | apply Kd.R_alloc | apply Kd.R_drewN | apply Kd.R_drew)); exact HO_837000.out) hb); have n1_ := Aside0.mk (Kd.R_below (by (with_reducible repeat (first | apply Kd.R_alloc | apply Kd.R_drewN | apply Kd.R_drew)); exact HO_837001.out) hb); have n2_ := Aside0.mk (Kd.R_below (by (with_reducible repeat (first | apply Kd.R_alloc | apply Kd.R_drewN | apply Kd.R_drew)); exact HO_845000.out) hb); have n3_ := Aside0.mk (Kd.R_below (by (with_reducible repeat (first | apply Kd.R_alloc | apply Kd.R_drewN | apply Kd.R_drew)); exact HO_845001.out) hb); have n4_ := Aside0.mk (blk_below (g := gb836) (o := .cells #[.slice Ao8 t829.length co8, .slice Ao10 t832.length co10] 29 (0, 0)) (by (with_reducible repeat (first | refine blk_drewN ?_ _ | refine blk_drew ?_ | refine blk_alloc ?_ _)); exact BK836.out) hb); have n5_ := Aside0.mk (blk_below (g := gb844) (o := .cells #[.slice Ao13 t837.length co13, .slice Ao16 t840.length co16] 29 (0, 0)) (by (with_reducible repeat (first | refine blk_drewN ?_ _ | refine blk_drew ?_ | refine blk_alloc ?_ _)); exact BK844.out) hb); have n6_ := Aside0.mk (below_step (by repeat (first | (with_reducible first | exact HB.out | apply below_alloc | apply pw_below_drewN | apply below_drew1 | refine below_set ?_ GE836.out | refine below_set ?_ GE844.out) | exact HB.out)) hb); clear HO_837000; clear HO_837001; clear HO_845000; clear HO_845001; clear BK836; clear BK844; clear HB; have HO_837000 := n0_; have HO_837001 := n1_; have HO_845000 := n2_; have HO_845001 := n3_; have BK836 := n4_; have BK844 := n5_; have HB := n6_; clear n0_ n1_ n2_ n3_ n4_ n5_ n6_; (try clear hb); (try clear hb2); (try clear hk); (try clear hi)) | ((with_reducible refine gate_callee (f := 54) rfl ?_); refine goesL_ (some 48) rfl rfl Try.func54 (by kernel_rfl) rfl #[.int .i64 a0, .int .i64 a1] rfl (by (try simp only [List.map_toArray, List.map_cons, List.map_nil]); first | done | rfl | (simp only [List.length_drop, List.length_take]; rfl)) ?_; (with_reducible refine (impl_EllOf.calls kj4 a0 a1 t850 t853 t856 _ A37.out).mono ?_); rintro e w44 ⟨v851, v854, rfl, ho0, ho1, hb⟩; refine ⟨_, rfl, ?_⟩; have n0_ := Aside0.mk (Kd.R_mono (Kd.R_told (Kd.R_told (Kd.R_old (by (with_reducible repeat (first | apply Kd.R_alloc | apply Kd.R_drewN | apply Kd.R_drew)); exact HO_837000.out) hb) (Kd.R_base ho0)) (Kd.R_base ho1)) (fun _ h_ => h_.1)); have n1_ := Aside0.mk (Kd.R_mono (Kd.R_told (Kd.R_told (Kd.R_old (by (with_reducible repeat (first | apply Kd.R_alloc | apply Kd.R_drewN | apply Kd.R_drew)); exact HO_837001.out) hb) (Kd.R_base ho0)) (Kd.R_base ho1)) (fun _ h_ => h_.1)); have n2_ := Aside0.mk (Kd.R_mono (Kd.R_told (Kd.R_told (Kd.R_old (by (with_reducible repeat (first | apply Kd.R_alloc | apply Kd.R_drewN | apply Kd.R_drew)); exact HO_845000.out) hb) (Kd.R_base ho0)) (Kd.R_base ho1)) (fun _ h_ => h_.1)); have n3_ := Aside0.mk (Kd.R_mono (Kd.R_told (Kd.R_told (Kd.R_old (by (with_reducible repeat (first | apply Kd.R_alloc | apply Kd.R_drewN | apply Kd.R_drew)); exact HO_845001.out) hb) (Kd.R_base ho0)) (Kd.R_base ho1)) (fun _ h_ => h_.1)); have n4_ := Aside0.mk (Kd.R_lower (Kd.R_new' (Kd.R_new' (Kd.R_new' (Kd.R_new' ho0 (Kd.R_lt (by (with_reducible repeat (first | apply Kd.R_alloc | apply Kd.R_drewN | apply Kd.R_drew)); exact HO_837000.out))) (Kd.R_lt (by (with_reducible repeat (first | apply Kd.R_alloc | apply Kd.R_drewN | apply Kd.R_drew)); exact HO_837001.out))) (Kd.R_lt (by (with_reducible repeat (first | apply Kd.R_alloc | apply Kd.R_drewN | apply Kd.R_drew)); exact HO_845000.out))) (Kd.R_lt (by (with_reducible repeat (first | apply Kd.R_alloc | apply Kd.R_drewN | apply Kd.R_drew)); exact HO_845001.out))) (below_size (by repeat (first | (with_reducible first | exact HB.out | apply below_alloc | apply pw_below_drewN | apply below_drew1 | refine below_set ?_ GE836.out | refine below_set ?_ GE844.out) | exact HB.out)))); have n5_ := Aside0.mk (Kd.R_lower (Kd.R_new' (Kd.R_new' (Kd.R_new' (Kd.R_new' ho1 (Kd.R_lt (by (with_reducible repeat (first | apply Kd.R_alloc | apply Kd.R_drewN | apply Kd.R_drew)); exact HO_837000.out))) (Kd.R_lt (by (with_reducible repeat (first | apply Kd.R_alloc | apply Kd.R_drewN | apply Kd.R_drew)); exact HO_837001.out))) (Kd.R_lt (by (with_reducible repeat (first | apply Kd.R_alloc | apply Kd.R_drewN | apply Kd.R_drew)); exact HO_845000.out))) (Kd.R_lt (by (with_reducible repeat (first | apply Kd.R_alloc | apply Kd.R_drewN | apply Kd.R_drew)); exact HO_845001.out))) (below_size (by repeat (first | (with_reducible first | exact HB.out | apply below_alloc | apply pw_below_drewN | apply below_drew1 | refine below_set ?_ GE836.out | refine below_set ?_ GE844.out) | exact HB.out)))); have n6_ := Aside0.mk (blk_below (g := gb836) (o := .cells #[.slice Ao8 t829.length co8, .slice Ao10 t832.length co10] 29 (0, 0)) (by (with_reducible repeat (first | refine blk_drewN ?_ _ | refine blk_drew ?_ | refine blk_alloc ?_ _)); exact BK836.out) hb); have n7_ := Aside0.mk (blk_below (g := gb844) (o := .cells #[.slice Ao13 t837.length co13, .slice Ao16 t840.length co16] 29 (0, 0)) (by (with_reducible repeat (first | refine blk_drewN ?_ _ | refine blk_drew ?_ | refine blk_alloc ?_ _)); exact BK844.out) hb); have n8_ := Aside0.mk (below_step (by repeat (first | (with_reducible first | exact HB.out | apply below_alloc | apply pw_below_drewN | apply below_drew1 | refine below_set ?_ GE836.out | refine below_set ?_ GE844.out) | exact HB.out)) hb); clear HO_837000; clear HO_837001; clear HO_845000; clear HO_845001; clear BK836; clear BK844; clear HB; have HO_837000 := n0_; have HO_837001 := n1_; have HO_845000 := n2_; have HO_845001 := n3_; have HO852 := n4_; have HO855 := n5_; have BK836 := n6_; have BK844 := n7_; have HB := n8_; clear n0_ n1_ n2_ n3_ n4_ n5_ n6_ n7_ n8_; (try clear hb); (try clear hb2); (try clear hk); (try clear hi); (try clear ho0); (try clear ho1)) | ((with_reducible refine gate_dst (N := 11) rfl ?_); refine box_event ?hg (N := 11) ?hd (cs := #[.slice none 0 0, .slice none 0 0]) (t := 29) ?hr ?_; (case hd => rfl); (case hg => rfl); (case hr => first | (go_simp; done) | (go_simp; rfl)); intro gb857 hg w45 hbox hb; have n0_ := Aside0.mk (Kd.R_below (by (with_reducible repeat (first | apply Kd.R_alloc | apply Kd.R_drewN | apply Kd.R_drew)); exact HO_837000.out) hb); have n1_ := Aside0.mk (Kd.R_below (by (with_reducible repeat (first | apply Kd.R_alloc | apply Kd.R_drewN | apply Kd.R_drew)); exact HO_837001.out) hb); have n2_ := Aside0.mk (Kd.R_below (by (with_reducible repeat (first | apply Kd.R_alloc | apply Kd.R_drewN | apply Kd.R_drew)); exact HO_845000.out) hb); have n3_ := Aside0.mk (Kd.R_below (by (with_reducible repeat (first | apply Kd.R_alloc | apply Kd.R_drewN | apply Kd.R_drew)); exact HO_845001.out) hb); have n4_ := Aside0.mk (Kd.R_below (by (with_reducible repeat (first | apply Kd.R_alloc | apply Kd.R_drewN | apply Kd.R_drew)); exact HO852.out) hb); have n5_ := Aside0.mk (Kd.R_below (by (with_reducible repeat (first | apply Kd.R_alloc | apply Kd.R_drewN | apply Kd.R_drew)); exact HO855.out) hb); have n6_ := Aside0.mk (blk_below (g := gb836) (o := .cells #[.slice Ao8 t829.length co8, .slice Ao10 t832.length co10] 29 (0, 0)) (by (with_reducible repeat (first | refine blk_drewN ?_ _ | refine blk_drew ?_ | refine blk_alloc ?_ _)); exact BK836.out) hb); have n7_ := Aside0.mk (blk_below (g := gb844) (o := .cells #[.slice Ao13 t837.length co13, .slice Ao16 t840.length co16] 29 (0, 0)) (by (with_reducible repeat (first | refine blk_drewN ?_ _ | refine blk_drew ?_ | refine blk_alloc ?_ _)); exact BK844.out) hb); have n8_ := Aside0.mk (below_step (by repeat (first | (with_reducible first | exact HB.out | apply below_alloc | apply pw_below_drewN | apply below_drew1 | refine below_set ?_ GE836.out | refine below_set ?_ GE844.out) | exact HB.out)) hb); have n9_ := Aside0.mk (hbox); have n10_ := Aside0.mk ((by rw [hg]; exact (below_size (by repeat (first | (with_reducible first | exact HB.out | apply below_alloc | apply pw_below_drewN | apply below_drew1 | refine below_set ?_ GE836.out | refine below_set ?_ GE844.out) | exact HB.out))) : w.heap.size ≤ gb857)); have n11_ := Aside0.mk ((by rw [hg]; exact (below_size (by repeat (first | (with_reducible first | exact HB.out | apply below_alloc | apply pw_below_drewN | apply below_drew1 | refine below_set ?_ GE836.out | refine below_set ?_ GE844.out) | exact HB.out))) : w.heap.size ≤ gb857)); have n12_ := Aside0.mk ((by rw [hg]; exact Nat.ne_of_lt (blk_lt (g := gb836) (o := .cells #[.slice Ao8 t829.length co8, .slice Ao10 t832.length co10] 29 (0, 0)) (by (with_reducible repeat (first | refine blk_drewN ?_ _ | refine blk_drew ?_ | refine blk_alloc ?_ _)); exact BK836.out)) : gb836 ≠ gb857)); have n13_ := Aside0.mk ((by rw [hg]; exact Nat.ne_of_gt (blk_lt (g := gb836) (o := .cells #[.slice Ao8 t829.length co8, .slice Ao10 t832.length co10] 29 (0, 0)) (by (with_reducible repeat (first | refine blk_drewN ?_ _ | refine blk_drew ?_ | refine blk_alloc ?_ _)); exact BK836.out)) : gb857 ≠ gb836)); have n14_ := Aside0.mk ((by rw [hg]; exact Nat.ne_of_lt (blk_lt (g := gb844) (o := .cells #[.slice Ao13 t837.length co13, .slice Ao16 t840.length co16] 29 (0, 0)) (by (with_reducible repeat (first | refine blk_drewN ?_ _ | refine blk_drew ?_ | refine blk_alloc ?_ _)); exact BK844.out)) : gb844 ≠ gb857)); have n15_ := Aside0.mk ((by rw [hg]; exact Nat.ne_of_gt (blk_lt (g := gb844) (o := .cells #[.slice Ao13 t837.length co13, .slice Ao16 t840.length co16] 29 (0, 0)) (by (with_reducible repeat (first | refine blk_drewN ?_ _ | refine blk_drew ?_ | refine blk_alloc ?_ _)); exact BK844.out)) : gb857 ≠ gb844)); clear HO_837000; clear HO_837001; clear HO_845000; clear HO_845001; clear HO852; clear HO855; clear BK836; clear BK844; clear HB; have HO_837000 := n0_; have HO_837001 := n1_; have HO_845000 := n2_; have HO_845001 := n3_; have HO852 := n4_; have HO855 := n5_; have BK836 := n6_; have BK844 := n7_; have HB := n8_; have BK857 := n9_; have GW857 := n10_; have GE857 := n11_; have NB836_857 := n12_; have NB857_836 := n13_; have NB844_857 := n14_; have NB857_844 := n15_; clear n0_ n1_ n2_ n3_ n4_ n5_ n6_ n7_ n8_ n9_ n10_ n11_ n12_ n13_ n14_ n15_; clear hb hbox hg; obtain ⟨Ao46, co46, eo46⟩ := Kd.R_slice HO852.out; subst eo46; have hnb47 := NB857_836.out; have hnc47 := NB836_857.out; have hnb48 := NB857_844.out; have hnc48 := NB844_857.out; have hcz49_0 : w45.cell? ⟨gb857, 0, none⟩ = some (.slice none 0 0) := (blk_cell BK857.out 0).trans rfl; have hcz49_1 : w45.cell? ⟨gb857, 1, none⟩ = some (.slice none 0 0) := (blk_cell BK857.out 1).trans rfl; have hfz49_0 := blk_frozen BK857.out 0; have hfz49_1 := blk_frozen BK857.out 1; obtain ⟨Ao50, co50, eo50⟩ := Kd.R_slice HO855.out; subst eo50))
            (try simp only [Act.put, List.setIfInBounds_toArray, List.set_cons_zero, List.set_cons_succ])
            go_cut [59] (fun v59 wc => ∃ (kq : Nat) (x59_37 : Bool), v59 = .bool x59_37 ∧ Aside0 (laws_FnExactEllOf.j1 kq t846 x59_37 t847 t848 = some true) ∧ Aside0 (kq ≤ kj4) ∧ Aside0 (Kd.R (Kd.int .i64) 3 wc w.heap.size (fun k_ => some k_ ≠ ((.slice Ao10 t832.length co10) : Value).ownBlock ∧ some k_ ≠ ((.slice Ao13 t837.length co13) : Value).ownBlock ∧ some k_ ≠ ((.slice Ao16 t840.length co16) : Value).ownBlock ∧ some k_ ≠ ((.slice Ao46 t850.length co46) : Value).ownBlock ∧ some k_ ≠ ((.slice Ao50 t853.length co50) : Value).ownBlock) (.slice Ao8 t829.length co8) t829) ∧ Aside0 (Kd.R (Kd.int .i64) 3 wc w.heap.size (fun k_ => some k_ ≠ ((.slice Ao8 t829.length co8) : Value).ownBlock ∧ some k_ ≠ ((.slice Ao13 t837.length co13) : Value).ownBlock ∧ some k_ ≠ ((.slice Ao16 t840.length co16) : Value).ownBlock ∧ some k_ ≠ ((.slice Ao46 t850.length co46) : Value).ownBlock ∧ some k_ ≠ ((.slice Ao50 t853.length co50) : Value).ownBlock) (.slice Ao10 t832.length co10) t832) ∧ Aside0 (Kd.R (Kd.int .i64) 3 wc w.heap.size (fun k_ => some k_ ≠ ((.slice Ao8 t829.length co8) : Value).ownBlock ∧ some k_ ≠ ((.slice Ao10 t832.length co10) : Value).ownBlock ∧ some k_ ≠ ((.slice Ao16 t840.length co16) : Value).ownBlock ∧ some k_ ≠ ((.slice Ao46 t850.length co46) : Value).ownBlock ∧ some k_ ≠ ((.slice Ao50 t853.length co50) : Value).ownBlock) (.slice Ao13 t837.length co13) t847) ∧ Aside0 (Kd.R (Kd.int .i64) 3 wc w.heap.size (fun k_ => some k_ ≠ ((.slice Ao8 t829.length co8) : Value).ownBlock ∧ some k_ ≠ ((.slice Ao10 t832.length co10) : Value).ownBlock ∧ some k_ ≠ ((.slice Ao13 t837.length co13) : Value).ownBlock ∧ some k_ ≠ ((.slice Ao46 t850.length co46) : Value).ownBlock ∧ some k_ ≠ ((.slice Ao50 t853.length co50) : Value).ownBlock) (.slice Ao16 t840.length co16) t848) ∧ Aside0 (Kd.R (Kd.int .i64) 3 wc w.heap.size (fun k_ => some k_ ≠ ((.slice Ao8 t829.length co8) : Value).ownBlock ∧ some k_ ≠ ((.slice Ao10 t832.length co10) : Value).ownBlock ∧ some k_ ≠ ((.slice Ao13 t837.length co13) : Value).ownBlock ∧ some k_ ≠ ((.slice Ao16 t840.length co16) : Value).ownBlock ∧ some k_ ≠ ((.slice Ao50 t853.length co50) : Value).ownBlock) (.slice Ao46 t850.length co46) t850) ∧ Aside0 (Kd.R (Kd.int .i64) 3 wc w.heap.size (fun k_ => some k_ ≠ ((.slice Ao8 t829.length co8) : Value).ownBlock ∧ some k_ ≠ ((.slice Ao10 t832.length co10) : Value).ownBlock ∧ some k_ ≠ ((.slice Ao13 t837.length co13) : Value).ownBlock ∧ some k_ ≠ ((.slice Ao16 t840.length co16) : Value).ownBlock ∧ some k_ ≠ ((.slice Ao46 t850.length co46) : Value).ownBlock) (.slice Ao50 t853.length co50) t853) ∧ Aside0 (wc.heap[gb836]? = some (.cells #[(.slice Ao8 t829.length co8), (.slice Ao10 t832.length co10)] 29 (0, 0))) ∧ Aside0 (wc.heap[gb844]? = some (.cells #[(.slice Ao13 t837.length co13), (.slice Ao16 t840.length co16)] 29 (0, 0))) ∧ Aside0 (wc.heap[gb857]? = some (.cells #[(.slice Ao46 t850.length co46), (.slice Ao50 t853.length co50)] 29 (0, 0))) ∧ Aside0 (Below w.heap.size w wc))
            case first =>
              have H := HC38.out
              clear HC38
              replace H := Option.bind_eq_some_iff.mp H
              obtain ⟨t858, A510, H⟩ := H
              replace H : (if t858 = true then (laws_FnExactEllOf.j1 kj4 t846 (t856 != t835) t847 t848) else (laws_FnExactEllOf.j1 kj4 t846 true t847 t848)) = some true := H
              have A51 := Aside0.mk A510
              clear A510
              by_cases c52 : t858 = true
              · subst c52
                have H1 : (laws_FnExactEllOf.j1 kj4 t846 (t856 != t835) t847 t848) = some true := by rw [if_pos rfl] at H; exact H
                clear H
                have H := H1
                clear H1
                have H' := Aside0.mk H
                clear H
                have hnb53 := NB857_836.out
                have hnc53 := NB836_857.out
                have hnb54 := NB857_844.out
                have hnc54 := NB844_857.out
                have hcz55_0 : w45.cell? ⟨gb857, 0, none⟩ = some (.slice none 0 0) := (blk_cell BK857.out 0).trans rfl
                have hcz55_1 : w45.cell? ⟨gb857, 1, none⟩ = some (.slice none 0 0) := (blk_cell BK857.out 1).trans rfl
                have hfz55_0 := blk_frozen BK857.out 0
                have hfz55_1 := blk_frozen BK857.out 1
                have hnb56 := NB836_844.out
                have hnc56 := NB844_836.out
                have hcz57_0 : w45.cell? ⟨gb836, 0, none⟩ = some (.slice Ao8 t829.length co8) := (blk_cell BK836.out 0).trans rfl
                have hcz57_1 : w45.cell? ⟨gb836, 1, none⟩ = some (.slice Ao10 t832.length co10) := (blk_cell BK836.out 1).trans rfl
                have hfz57_0 := blk_frozen BK836.out 0
                have hfz57_1 := blk_frozen BK836.out 1
                go_wp2_with (first | ((with_reducible refine gate_callee (f := 22) rfl ?_); refine goesL_ (some 53) rfl rfl Try.func22 (by kernel_rfl) rfl #[.agg #[.slice Ao46 t850.length co46, .slice Ao50 t853.length co50], .agg #[.slice Ao8 t829.length co8, .slice Ao10 t832.length co10]] rfl (by (try simp only [List.map_toArray, List.map_cons, List.map_nil]); first | done | rfl | (simp only [List.length_drop, List.length_take]; rfl)) ?_; (with_reducible refine (laws_eqSurface.calls kj4 _ _ t850 _ _ t853 _ _ t829 _ _ t832 true _ ?side1 ?side2 ?side3 ?side4 ?side5 ?side6 ?side7 ?side8 A51.out).mono ?_); (case side1 => refine (Kd.R_reads' (e := 3) (base := w.heap.size) (ok := fun k_ => ((((some k_ ≠ (.slice Ao50 t853.length co50 : Value).ownBlock ∧ some k_ ≠ (.slice Ao8 t829.length co8 : Value).ownBlock) ∧ some k_ ≠ (.slice Ao10 t832.length co10 : Value).ownBlock) ∧ some k_ ≠ (.slice Ao13 t837.length co13 : Value).ownBlock) ∧ some k_ ≠ (.slice Ao16 t840.length co16 : Value).ownBlock)) (n := t850.length) (c := co46) ?_).2.2; exact (by (with_reducible repeat (first | apply Kd.R_alloc | apply Kd.R_drewN | apply Kd.R_drew)); exact (Kd.R_mono (Kd.R_far (p := ⟨gb857, 1, none⟩) (Kd.R_far (p := ⟨gb857, 0, none⟩) (Kd.R_types HO852.out BK857.out (by decide)) (fun _ hk => hk.2) (.slice Ao46 t850.length co46)) (fun _ hk => hk.2) (.slice Ao50 t853.length co50)) (fun _ h_ => h_.1)))); (case side2 => exact (Kd.R_reads' HO852.out).2.1); (case side3 => refine (Kd.R_reads' (e := 3) (base := w.heap.size) (ok := fun k_ => ((((some k_ ≠ (.slice Ao46 t850.length co46 : Value).ownBlock ∧ some k_ ≠ (.slice Ao8 t829.length co8 : Value).ownBlock) ∧ some k_ ≠ (.slice Ao10 t832.length co10 : Value).ownBlock) ∧ some k_ ≠ (.slice Ao13 t837.length co13 : Value).ownBlock) ∧ some k_ ≠ (.slice Ao16 t840.length co16 : Value).ownBlock)) (n := t853.length) (c := co50) ?_).2.2; exact (by (with_reducible repeat (first | apply Kd.R_alloc | apply Kd.R_drewN | apply Kd.R_drew)); exact (Kd.R_mono (Kd.R_far (p := ⟨gb857, 1, none⟩) (Kd.R_far (p := ⟨gb857, 0, none⟩) (Kd.R_types HO855.out BK857.out (by decide)) (fun _ hk => hk.2) (.slice Ao46 t850.length co46)) (fun _ hk => hk.2) (.slice Ao50 t853.length co50)) (fun _ h_ => h_.1)))); (case side4 => exact (Kd.R_reads' HO855.out).2.1); (case side5 => refine (Kd.R_reads' (e := 3) (base := w.heap.size) (ok := fun k_ => (((some k_ ≠ (.slice Ao10 t832.length co10 : Value).ownBlock ∧ (some k_ ≠ (.slice Ao13 t837.length co13 : Value).ownBlock ∧ some k_ ≠ (.slice Ao16 t840.length co16 : Value).ownBlock)) ∧ some k_ ≠ (.slice Ao46 t850.length co46 : Value).ownBlock) ∧ some k_ ≠ (.slice Ao50 t853.length co50 : Value).ownBlock)) (n := t829.length) (c := co8) ?_).2.2; exact (by (with_reducible repeat (first | apply Kd.R_alloc | apply Kd.R_drewN | apply Kd.R_drew)); exact (Kd.R_mono (Kd.R_far (p := ⟨gb857, 1, none⟩) (Kd.R_far (p := ⟨gb857, 0, none⟩) (Kd.R_types HO_837000.out BK857.out (by decide)) (fun _ hk => hk.2) (.slice Ao46 t850.length co46)) (fun _ hk => hk.2) (.slice Ao50 t853.length co50)) (fun _ h_ => h_.1)))); (case side6 => exact (Kd.R_reads' HO_837000.out).2.1); (case side7 => refine (Kd.R_reads' (e := 3) (base := w.heap.size) (ok := fun k_ => (((some k_ ≠ (.slice Ao8 t829.length co8 : Value).ownBlock ∧ (some k_ ≠ (.slice Ao13 t837.length co13 : Value).ownBlock ∧ some k_ ≠ (.slice Ao16 t840.length co16 : Value).ownBlock)) ∧ some k_ ≠ (.slice Ao46 t850.length co46 : Value).ownBlock) ∧ some k_ ≠ (.slice Ao50 t853.length co50 : Value).ownBlock)) (n := t832.length) (c := co10) ?_).2.2; exact (by (with_reducible repeat (first | apply Kd.R_alloc | apply Kd.R_drewN | apply Kd.R_drew)); exact (Kd.R_mono (Kd.R_far (p := ⟨gb857, 1, none⟩) (Kd.R_far (p := ⟨gb857, 0, none⟩) (Kd.R_types HO_837001.out BK857.out (by decide)) (fun _ hk => hk.2) (.slice Ao46 t850.length co46)) (fun _ hk => hk.2) (.slice Ao50 t853.length co50)) (fun _ h_ => h_.1)))); (case side8 => exact (Kd.R_reads' HO_837001.out).2.1); rintro e w58 ⟨rfl, hb⟩; refine ⟨_, rfl, ?_⟩; have n0_ := Aside0.mk (Kd.R_below (by (with_reducible repeat (first | apply Kd.R_alloc | apply Kd.R_drewN | apply Kd.R_drew)); exact (Kd.R_mono (Kd.R_far (p := ⟨gb857, 1, none⟩) (Kd.R_far (p := ⟨gb857, 0, none⟩) (Kd.R_types HO_837000.out BK857.out (by decide)) (fun _ hk => hk.2) (.slice Ao46 t850.length co46)) (fun _ hk => hk.2) (.slice Ao50 t853.length co50)) (fun _ h_ => h_.1))) hb); have n1_ := Aside0.mk (Kd.R_below (by (with_reducible repeat (first | apply Kd.R_alloc | apply Kd.R_drewN | apply Kd.R_drew)); exact (Kd.R_mono (Kd.R_far (p := ⟨gb857, 1, none⟩) (Kd.R_far (p := ⟨gb857, 0, none⟩) (Kd.R_types HO_837001.out BK857.out (by decide)) (fun _ hk => hk.2) (.slice Ao46 t850.length co46)) (fun _ hk => hk.2) (.slice Ao50 t853.length co50)) (fun _ h_ => h_.1))) hb); have n2_ := Aside0.mk (Kd.R_below (by (with_reducible repeat (first | apply Kd.R_alloc | apply Kd.R_drewN | apply Kd.R_drew)); exact (Kd.R_mono (Kd.R_far (p := ⟨gb857, 1, none⟩) (Kd.R_far (p := ⟨gb857, 0, none⟩) (Kd.R_types HO_845000.out BK857.out (by decide)) (fun _ hk => hk.2) (.slice Ao46 t850.length co46)) (fun _ hk => hk.2) (.slice Ao50 t853.length co50)) (fun _ h_ => h_.1))) hb); have n3_ := Aside0.mk (Kd.R_below (by (with_reducible repeat (first | apply Kd.R_alloc | apply Kd.R_drewN | apply Kd.R_drew)); exact (Kd.R_mono (Kd.R_far (p := ⟨gb857, 1, none⟩) (Kd.R_far (p := ⟨gb857, 0, none⟩) (Kd.R_types HO_845001.out BK857.out (by decide)) (fun _ hk => hk.2) (.slice Ao46 t850.length co46)) (fun _ hk => hk.2) (.slice Ao50 t853.length co50)) (fun _ h_ => h_.1))) hb); have n4_ := Aside0.mk (Kd.R_below (by (with_reducible repeat (first | apply Kd.R_alloc | apply Kd.R_drewN | apply Kd.R_drew)); exact (Kd.R_mono (Kd.R_far (p := ⟨gb857, 1, none⟩) (Kd.R_far (p := ⟨gb857, 0, none⟩) (Kd.R_types HO852.out BK857.out (by decide)) (fun _ hk => hk.2) (.slice Ao46 t850.length co46)) (fun _ hk => hk.2) (.slice Ao50 t853.length co50)) (fun _ h_ => h_.1))) hb); have n5_ := Aside0.mk (Kd.R_below (by (with_reducible repeat (first | apply Kd.R_alloc | apply Kd.R_drewN | apply Kd.R_drew)); exact (Kd.R_mono (Kd.R_far (p := ⟨gb857, 1, none⟩) (Kd.R_far (p := ⟨gb857, 0, none⟩) (Kd.R_types HO855.out BK857.out (by decide)) (fun _ hk => hk.2) (.slice Ao46 t850.length co46)) (fun _ hk => hk.2) (.slice Ao50 t853.length co50)) (fun _ h_ => h_.1))) hb); have n6_ := Aside0.mk (blk_below (g := gb836) (o := .cells #[.slice Ao8 t829.length co8, .slice Ao10 t832.length co10] 29 (0, 0)) (by (with_reducible repeat (first | refine blk_drewN ?_ _ | refine blk_drew ?_ | refine blk_alloc ?_ _)); refine blk_far ?_ NB836_857.out _; (with_reducible repeat (first | refine blk_drewN ?_ _ | refine blk_drew ?_ | refine blk_alloc ?_ _)); refine blk_far ?_ NB836_857.out _; (with_reducible repeat (first | refine blk_drewN ?_ _ | refine blk_drew ?_ | refine blk_alloc ?_ _)); exact BK836.out) hb); have n7_ := Aside0.mk (blk_below (g := gb844) (o := .cells #[.slice Ao13 t837.length co13, .slice Ao16 t840.length co16] 29 (0, 0)) (by (with_reducible repeat (first | refine blk_drewN ?_ _ | refine blk_drew ?_ | refine blk_alloc ?_ _)); refine blk_far ?_ NB844_857.out _; (with_reducible repeat (first | refine blk_drewN ?_ _ | refine blk_drew ?_ | refine blk_alloc ?_ _)); refine blk_far ?_ NB844_857.out _; (with_reducible repeat (first | refine blk_drewN ?_ _ | refine blk_drew ?_ | refine blk_alloc ?_ _)); exact BK844.out) hb); have n8_ := Aside0.mk (blk_below (g := gb857) (o := .cells #[.slice Ao46 t850.length co46, .slice Ao50 t853.length co50] 29 (0, 0)) (by (with_reducible repeat (first | refine blk_drewN ?_ _ | refine blk_drew ?_ | refine blk_alloc ?_ _)); refine blk_put (cs := #[.slice Ao46 t850.length co46, .slice none 0 0]) ?_ 1 _ rfl; (with_reducible repeat (first | refine blk_drewN ?_ _ | refine blk_drew ?_ | refine blk_alloc ?_ _)); refine blk_put (cs := #[.slice none 0 0, .slice none 0 0]) ?_ 0 _ rfl; (with_reducible repeat (first | refine blk_drewN ?_ _ | refine blk_drew ?_ | refine blk_alloc ?_ _)); exact BK857.out) hb); have n9_ := Aside0.mk (below_step (by repeat (first | (with_reducible first | exact HB.out | apply below_alloc | apply pw_below_drewN | apply below_drew1 | refine below_set ?_ GE836.out | refine below_set ?_ GE844.out | refine below_set ?_ GE857.out) | exact HB.out)) hb); clear HO_837000; clear HO_837001; clear HO_845000; clear HO_845001; clear HO852; clear HO855; clear BK836; clear BK844; clear BK857; clear HB; have HO_837000 := n0_; have HO_837001 := n1_; have HO_845000 := n2_; have HO_845001 := n3_; have HO852 := n4_; have HO855 := n5_; have BK836 := n6_; have BK844 := n7_; have BK857 := n8_; have HB := n9_; clear n0_ n1_ n2_ n3_ n4_ n5_ n6_ n7_ n8_ n9_; (try clear hb); (try clear hb2); (try clear hk); (try clear hi)))
                go_meet
                case rel => exact ⟨_, ((t856 != t835)), (by first | rfl | (simp; done) | (simp [*]; done)), H', ⟨by have := HJ4.out; first | omega | exact Nat.le_refl _⟩, ⟨by (with_reducible repeat (first | apply Kd.R_alloc | apply Kd.R_drewN | apply Kd.R_drew)); exact Kd.R_mono HO_837000.out (fun _ hk => ⟨hk.1.1.1, ⟨hk.1.1.2.1, ⟨hk.1.1.2.2, ⟨hk.1.2, hk.2⟩⟩⟩⟩)⟩, ⟨by (with_reducible repeat (first | apply Kd.R_alloc | apply Kd.R_drewN | apply Kd.R_drew)); exact Kd.R_mono HO_837001.out (fun _ hk => ⟨hk.1.1.1, ⟨hk.1.1.2.1, ⟨hk.1.1.2.2, ⟨hk.1.2, hk.2⟩⟩⟩⟩)⟩, ⟨by (with_reducible repeat (first | apply Kd.R_alloc | apply Kd.R_drewN | apply Kd.R_drew)); exact Kd.R_mono HO_845000.out (fun _ hk => ⟨hk.1.1.1, ⟨hk.1.1.2.1, ⟨hk.1.1.2.2, ⟨hk.1.2, hk.2⟩⟩⟩⟩)⟩, ⟨by (with_reducible repeat (first | apply Kd.R_alloc | apply Kd.R_drewN | apply Kd.R_drew)); exact Kd.R_mono HO_845001.out (fun _ hk => ⟨hk.1.1.1, ⟨hk.1.1.2.1, ⟨hk.1.1.2.2, ⟨hk.1.2, hk.2⟩⟩⟩⟩)⟩, ⟨by (with_reducible repeat (first | apply Kd.R_alloc | apply Kd.R_drewN | apply Kd.R_drew)); exact Kd.R_mono HO852.out (fun _ hk => ⟨hk.1.1.1.2, ⟨hk.1.1.2, ⟨hk.1.2, ⟨hk.2, hk.1.1.1.1⟩⟩⟩⟩)⟩, ⟨by (with_reducible repeat (first | apply Kd.R_alloc | apply Kd.R_drewN | apply Kd.R_drew)); exact Kd.R_mono HO855.out (fun _ hk => ⟨hk.1.1.1.2, ⟨hk.1.1.2, ⟨hk.1.2, ⟨hk.2, hk.1.1.1.1⟩⟩⟩⟩)⟩, ⟨by (with_reducible repeat (first | refine blk_drewN ?_ _ | refine blk_drew ?_ | refine blk_alloc ?_ _)); exact BK836.out⟩, ⟨by (with_reducible repeat (first | refine blk_drewN ?_ _ | refine blk_drew ?_ | refine blk_alloc ?_ _)); exact BK844.out⟩, ⟨by (with_reducible repeat (first | refine blk_drewN ?_ _ | refine blk_drew ?_ | refine blk_alloc ?_ _)); exact BK857.out⟩, ⟨by repeat (first | (with_reducible first | exact HB.out | apply below_alloc | apply pw_below_drewN | apply below_drew1 | refine below_set ?_ GE836.out | refine below_set ?_ GE844.out | refine below_set ?_ GE857.out) | exact HB.out)⟩⟩
              · replace c52 := Bool.eq_false_iff.mpr c52
                subst c52
                have H1 : (laws_FnExactEllOf.j1 kj4 t846 true t847 t848) = some true := by rw [if_neg (show ¬ (false = true) by decide)] at H; exact H
                clear H
                have H := H1
                clear H1
                cases kj4 with
                | zero => rw [laws_FnExactEllOf.j1] at H; exact absurd H (by simp)
                | succ k_ => rw [laws_FnExactEllOf.j1, if_pos rfl] at H; exact absurd H (by simp)
            case rest =>
              clear HC38
              try clear c1
              try clear c2
              try clear p2
              try clear c3
              try clear c4
              try clear c5
              try clear c6
              try clear c12
              try clear c14
              try clear c18
              try clear c19
              try clear c22
              try clear c23
              try clear c24
              try clear c27
              try clear c30
              try clear c30b0
              try clear c31
              try clear c36
              try clear c36b0
              try clear c36b1
              try clear c39
              try clear c47
              try clear c48
              try clear c52
              try clear c53
              try clear c54
              try clear c56
              try clear c59
              try clear c60
              try clear c62
              try clear hcz15_0
              try clear hcz15_1
              try clear hcz20_0
              try clear hcz20_1
              try clear hcz21_0
              try clear hcz21_1
              try clear hcz24_0
              try clear hcz24_1
              try clear hcz25_0
              try clear hcz25_1
              try clear hcz32_0
              try clear hcz32_1
              try clear hcz34_0
              try clear hcz34_1
              try clear hcz40_0
              try clear hcz40_1
              try clear hcz42_0
              try clear hcz42_1
              try clear hcz49_0
              try clear hcz49_1
              try clear hcz55_0
              try clear hcz55_1
              try clear hcz57_0
              try clear hcz57_1
              try clear hcz61_0
              try clear hcz61_1
              try clear hcz63_0
              try clear hcz63_1
              try clear hcz9_0
              try clear hcz9_1
              try clear hfz15_0
              try clear hfz15_1
              try clear hfz20_0
              try clear hfz20_1
              try clear hfz21_0
              try clear hfz21_1
              try clear hfz24_0
              try clear hfz24_1
              try clear hfz25_0
              try clear hfz25_1
              try clear hfz32_0
              try clear hfz32_1
              try clear hfz34_0
              try clear hfz34_1
              try clear hfz40_0
              try clear hfz40_1
              try clear hfz42_0
              try clear hfz42_1
              try clear hfz49_0
              try clear hfz49_1
              try clear hfz55_0
              try clear hfz55_1
              try clear hfz57_0
              try clear hfz57_1
              try clear hfz61_0
              try clear hfz61_1
              try clear hfz63_0
              try clear hfz63_1
              try clear hfz9_0
              try clear hfz9_1
              try clear p2
              obtain ⟨kq, x59_37, rfl, HA, HJ37, HO_837000, HO_837001, HO_845000, HO_845001, HO_858000, HO_858001, BK836, BK844, BK857, HB⟩ := hcut
              have hl845000_37 := (Kd.R_reads' HO_845000.out).1
              rw [hl845000_37] at HO_845000
              (try simp only [hl845000_37])
              (try simp only [hl845000_37] at BK836)
              (try simp only [hl845000_37] at BK844)
              (try simp only [hl845000_37] at BK857)
              (try simp only [hl845000_37] at HO_837000)
              (try simp only [hl845000_37] at HO_837001)
              (try simp only [hl845000_37] at HO_845001)
              (try simp only [hl845000_37] at HO_858000)
              (try simp only [hl845000_37] at HO_858001)
              have hl845001_37 := (Kd.R_reads' HO_845001.out).1
              rw [hl845001_37] at HO_845001
              (try simp only [hl845001_37])
              (try simp only [hl845001_37] at BK836)
              (try simp only [hl845001_37] at BK844)
              (try simp only [hl845001_37] at BK857)
              (try simp only [hl845001_37] at HO_837000)
              (try simp only [hl845001_37] at HO_837001)
              (try simp only [hl845001_37] at HO_845000)
              (try simp only [hl845001_37] at HO_858000)
              (try simp only [hl845001_37] at HO_858001)
              cases kq with
              | zero => exact absurd HA.out (by simp [laws_FnExactEllOf.j1])
              | succ kj37 =>
                have H := HA.out
                clear HA
                simp only [laws_FnExactEllOf.j1] at H
                by_cases c65 : x59_37 = true
                · subst c65
                  have H1 : (some false) = some true := by rw [if_pos rfl] at H; exact H
                  clear H
                  have H := H1
                  clear H1
                  exact absurd H (by simp)
                · replace c65 := Bool.eq_false_iff.mpr c65
                  subst c65
                  have H1 : ((laws_heldSurface.f kj37 t847 t848 1).bind fun t859 => (if t859 < 0 then (some false) else (if t859 = t846 then (some true) else (some false)))) = some true := by rw [if_neg (show ¬ (false = true) by decide)] at H; exact H
                  clear H
                  have H := H1
                  clear H1
                  replace H := Option.bind_eq_some_iff.mp H
                  obtain ⟨t859, A660, H⟩ := H
                  replace H : (if t859 < 0 then (some false) else (if t859 = t846 then (some true) else (some false))) = some true := H
                  have A66 := Aside0.mk A660
                  clear A660
                  by_cases c67 : t859 < 0
                  · rw [if_pos c67] at H
                    have c67b0 : decide (t859 < 0) = true := decide_eq_true c67
                    clear c67
                    exact absurd H (by simp)
                  · rw [if_neg c67] at H
                    have c67b0 : decide (t859 < 0) = false := decide_eq_false c67
                    clear c67
                    by_cases c72 : t859 = t846
                    · rw [if_pos c72] at H
                      have c72b0 : (t859 == t846) = true := beq_iff_eq.mpr c72
                      have c72b1 : (t859 != t846) = false := bne_eq_false_iff_eq.mpr c72
                      clear c72
                      have hnb73 := NB844_836.out
                      have hnc73 := NB836_844.out
                      have hnb74 := NB844_857.out
                      have hnc74 := NB857_844.out
                      have hcz75_0 : wc.cell? ⟨gb844, 0, none⟩ = some (.slice Ao13 t847.length co13) := (blk_cell BK844.out 0).trans rfl
                      have hcz75_1 : wc.cell? ⟨gb844, 1, none⟩ = some (.slice Ao16 t848.length co16) := (blk_cell BK844.out 1).trans rfl
                      have hfz75_0 := blk_frozen BK844.out 0
                      have hfz75_1 := blk_frozen BK844.out 1
                      go_wp2_with (first | ((with_reducible refine gate_callee (f := 24) rfl ?_); refine goesL_ (some 62) rfl rfl Try.func24 (by kernel_rfl) rfl #[.agg #[.slice Ao13 t847.length co13, .slice Ao16 t848.length co16], .int .i64 1] rfl (by (try simp only [List.map_toArray, List.map_cons, List.map_nil]); first | done | rfl | (simp only [List.length_drop, List.length_take]; rfl)) ?_; (with_reducible refine (laws_heldSurface.calls kj37 _ _ t847 _ _ t848 1 t859 _ ?side1 ?side2 ?side3 ?side4 A66.out).mono ?_); (case side1 => repeat (first | exact (Kd.R_reads' HO_845000.out).2.2 | (with_reducible refine Kd.C_alloc ?_ _) | (with_reducible refine Kd.C_drewN ?_ _) | (with_reducible refine Kd.C_drew ?_))); (case side2 => exact (Kd.R_reads' HO_845000.out).2.1); (case side3 => repeat (first | exact (Kd.R_reads' HO_845001.out).2.2 | (with_reducible refine Kd.C_alloc ?_ _) | (with_reducible refine Kd.C_drewN ?_ _) | (with_reducible refine Kd.C_drew ?_))); (case side4 => exact (Kd.R_reads' HO_845001.out).2.1); rintro e w76 ⟨rfl, hb⟩; refine ⟨_, rfl, ?_⟩; have n0_ := Aside0.mk (Kd.R_below (by (with_reducible repeat (first | apply Kd.R_alloc | apply Kd.R_drewN | apply Kd.R_drew)); exact HO_837000.out) hb); have n1_ := Aside0.mk (Kd.R_below (by (with_reducible repeat (first | apply Kd.R_alloc | apply Kd.R_drewN | apply Kd.R_drew)); exact HO_837001.out) hb); have n2_ := Aside0.mk (Kd.R_below (by (with_reducible repeat (first | apply Kd.R_alloc | apply Kd.R_drewN | apply Kd.R_drew)); exact HO_845000.out) hb); have n3_ := Aside0.mk (Kd.R_below (by (with_reducible repeat (first | apply Kd.R_alloc | apply Kd.R_drewN | apply Kd.R_drew)); exact HO_845001.out) hb); have n4_ := Aside0.mk (Kd.R_below (by (with_reducible repeat (first | apply Kd.R_alloc | apply Kd.R_drewN | apply Kd.R_drew)); exact HO_858000.out) hb); have n5_ := Aside0.mk (Kd.R_below (by (with_reducible repeat (first | apply Kd.R_alloc | apply Kd.R_drewN | apply Kd.R_drew)); exact HO_858001.out) hb); have n6_ := Aside0.mk (blk_below (g := gb836) (o := .cells #[.slice Ao8 t829.length co8, .slice Ao10 t832.length co10] 29 (0, 0)) (by (with_reducible repeat (first | refine blk_drewN ?_ _ | refine blk_drew ?_ | refine blk_alloc ?_ _)); exact BK836.out) hb); have n7_ := Aside0.mk (blk_below (g := gb844) (o := .cells #[.slice Ao13 t847.length co13, .slice Ao16 t848.length co16] 29 (0, 0)) (by (with_reducible repeat (first | refine blk_drewN ?_ _ | refine blk_drew ?_ | refine blk_alloc ?_ _)); exact BK844.out) hb); have n8_ := Aside0.mk (blk_below (g := gb857) (o := .cells #[.slice Ao46 t850.length co46, .slice Ao50 t853.length co50] 29 (0, 0)) (by (with_reducible repeat (first | refine blk_drewN ?_ _ | refine blk_drew ?_ | refine blk_alloc ?_ _)); exact BK857.out) hb); have n9_ := Aside0.mk (below_step (by repeat (first | (with_reducible first | exact HB.out | apply below_alloc | apply pw_below_drewN | apply below_drew1 | refine below_set ?_ GE836.out | refine below_set ?_ GE844.out | refine below_set ?_ GE857.out) | exact HB.out)) hb); clear HO_837000; clear HO_837001; clear HO_845000; clear HO_845001; clear HO_858000; clear HO_858001; clear BK836; clear BK844; clear BK857; clear HB; have HO_837000 := n0_; have HO_837001 := n1_; have HO_845000 := n2_; have HO_845001 := n3_; have HO_858000 := n4_; have HO_858001 := n5_; have BK836 := n6_; have BK844 := n7_; have BK857 := n8_; have HB := n9_; clear n0_ n1_ n2_ n3_ n4_ n5_ n6_ n7_ n8_ n9_; (try clear hb); (try clear hb2); (try clear hk); (try clear hi)))
                      go_ret
                      exact ⟨by first | rfl | (simp [errW_none, errW_some] <;> rfl) | (simp [*, errW_none, errW_some] <;> rfl), by repeat (first | (with_reducible first | exact HB.out | apply below_alloc | apply pw_below_drewN | apply below_drew1 | refine below_set ?_ GE836.out | refine below_set ?_ GE844.out | refine below_set ?_ GE857.out) | exact HB.out)⟩
                    · rw [if_neg c72] at H
                      have c72b0 : (t859 == t846) = false := beq_eq_false_iff_ne.mpr c72
                      have c72b1 : (t859 != t846) = true := bne_iff_ne.mpr c72
                      exact absurd H (by simp)
          · rw [if_neg c36] at H
            have c36b0 : (t849 == t846) = false := beq_eq_false_iff_ne.mpr c36
            have c36b1 : (t849 != t846) = true := bne_iff_ne.mpr c36
            exact absurd H (by simp)

/-- The pure statement of laws_FnExactEllOf. -/
def laws_FnExactEllOf.Pure : Prop := ∀ (a0 : Int) (a1 : Int), (Lit.int .i64 a0).wf = true → (Lit.int .i64 a1).wf = true → ∃ k, laws_FnExactEllOf.f k a0 a1 = some true
theorem laws_FnExactEllOf.walk (P : laws_FnExactEllOf.Pure) (a0 : Int) (a1 : Int) (w : World) (w0 : (Lit.int .i64 a0).wf = true) (w1 : (Lit.int .i64 a1).wf = true) :
    Calls Try.prog 12 #[.int .i64 a0, .int .i64 a1] w fun e w' => e = .returned (.bool true) ∧ Below w.heap.size w w' := by
  obtain ⟨k, h⟩ := P a0 a1 w0 w1
  refine (laws_FnExactEllOf.calls_true k a0 a1 w h).mono ?_
  rintro e w' ⟨rfl, hd⟩
  exact ⟨rfl, hd⟩

end Go.Proofs.Ytlohmpgbjgidpab.P
