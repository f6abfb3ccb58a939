-- MADE by this project's printer (wip/mk) out of the translation; Lean checks it.
import Derived.Test.YtlohmpgbjgidpadPx0
import Derived.Test.YtlohmpgbjgidpadPx2
import Derived.Test.YtlohmpgbjgidpadPx16
import Derived.Test.YtlohmpgbjgidpadPx28
import Derived.Test.YtlohmpgbjgidpadPx32
import Derived.Test.YtlohmpgbjgidpadPx44
import Derived.Test.YtlohmpgbjgidpadPx56
import Derived.Test.YtlohmpgbjgidpadPx57
namespace Go.Proofs.Ytlohmpgbjgidpad.P
open Go.RowKit Go.Proofs.YtlohmpgbjgidpadW.PrintWords Go.Proofs.YtlohmpgbjgidpadW.PrintLast Go.Proofs.YtlohmpgbjgidpadW.PrintMore
attribute [local go_sem] max2_int min2_int max_two min_two max_three min_three max_four min_four   -- for this text's walks alone
set_option linter.unusedVariables false
set_option linter.unusedSimpArgs false

/-! ### laws_FnExactRunWord: function 5 -/
mutual
def laws_FnExactRunWord.j0 : Nat → ByteArray → Bool → Bool → Bool → List Int → List Int → List Int → List Int → List Int → List Int → List Int → List Int → Option (Bool)
 | 0, _, _, _, _, _, _, _, _, _, _, _, _ => none
 | k + 1, x1, x7, x10, x47, x583000, x583001, x598000, x598001, x605000, x605001, x613000, x613001 => if x47 = true then (some false) else ((laws_toSurface.f k x583000 x583001).bind fun bt614 => ((laws_eqSurface.f k x605000 x605001 bt614.1 bt614.2).bind fun t620 => (if t620 = true then ((laws_markSurface.f k x605000 x605001 1).bind fun bt621 => (if bt621.1 < 0 then (laws_FnExactRunWord.j1 k x1 x7 true x583000 x583001 x598000 x598001 x613000 x613001) else ((laws_eqSurface.f k x613000 x613001 x598000 x598001).bind fun t624 => (if t624 = true then (laws_FnExactRunWord.j1 k x1 x7 (x10 != x7) x583000 x583001 x598000 x598001 x613000 x613001) else (laws_FnExactRunWord.j1 k x1 x7 true x583000 x583001 x598000 x598001 x613000 x613001))))) else (some false))))
def laws_FnExactRunWord.j1 : Nat → ByteArray → Bool → Bool → List Int → List Int → List Int → List Int → List Int → List Int → Option (Bool)
 | 0, _, _, _, _, _, _, _, _, _ => none
 | k + 1, x1, x7, x68, x583000, x583001, x598000, x598001, x613000, x613001 => if x68 = true then (some false) else ((laws_markSurface.f k x613000 x613001 1).bind fun bt625 => ((laws_heldSurface.f k bt625.2.1 bt625.2.2 1).bind fun t628 => (if t628 < 0 then (some false) else (if t628 = bt625.1 then ((laws_toSurface.f k x583000 x583001).bind fun bt629 => ((impl_RunWord.f k bt629.1 bt629.2 x1).bind fun bt635 => ((laws_eqSurface.f k bt635.1 bt635.2.1 x598000 x598001).bind fun t643 => (if t643 = true then (laws_FnExactRunWord.j2 k bt625.1 (bt635.2.2 != x7) bt625.2.1 bt625.2.2) else (laws_FnExactRunWord.j2 k bt625.1 true bt625.2.1 bt625.2.2))))) else (some false)))))
def laws_FnExactRunWord.j2 : Nat → Int → Bool → List Int → List Int → Option (Bool)
 | 0, _, _, _, _ => none
 | k + 1, x12, x95, x613000, x613001 => if x95 = true then (some false) else ((laws_heldSurface.f k x613000 x613001 1).bind fun t644 => (if t644 < 0 then (some false) else (if t644 = x12 then (some true) else (some false))))
end
def laws_FnExactRunWord.f (k : Nat) (l0_0 : List Int) (l0_1 : List Int) (a1 : ByteArray) : Option (Bool) := if (a1.size : Int) > 1048576 then (some true) else ((laws_szSurface.f l0_0 l0_1 1048576).bind fun t583 => (if t583 < 0 then (some true) else ((laws_toSurface.f k l0_0 l0_1).bind fun bt584 => ((spec_RunWord.f k bt584.1 bt584.2 a1).bind fun bt590 => ((laws_toSurface.f k l0_0 l0_1).bind fun bt598 => ((impl_RunWord.f k bt598.1 bt598.2 a1).bind fun bt605 => ((laws_eqSurface.f k bt605.1 bt605.2.1 bt590.1 bt590.2.1).bind fun t613 => (if t613 = true then (laws_FnExactRunWord.j0 k a1 bt590.2.2 bt605.2.2 (bt605.2.2 != bt590.2.2) l0_0 l0_1 bt590.1 bt590.2.1 bt598.1 bt598.2 bt605.1 bt605.2.1) else (laws_FnExactRunWord.j0 k a1 bt590.2.2 bt605.2.2 true l0_0 l0_1 bt590.1 bt590.2.1 bt598.1 bt598.2 bt605.1 bt605.2.1)))))))))
theorem laws_FnExactRunWord.mono_l : ∀ k, (∀ y0 y1 y2 y3 y4 y5 y6 y7 y8 y9 y10 y11, LeO (laws_FnExactRunWord.j0 k y0 y1 y2 y3 y4 y5 y6 y7 y8 y9 y10 y11) (laws_FnExactRunWord.j0 (k + 1) y0 y1 y2 y3 y4 y5 y6 y7 y8 y9 y10 y11)) ∧ (∀ y0 y1 y2 y3 y4 y5 y6 y7 y8, LeO (laws_FnExactRunWord.j1 k y0 y1 y2 y3 y4 y5 y6 y7 y8) (laws_FnExactRunWord.j1 (k + 1) y0 y1 y2 y3 y4 y5 y6 y7 y8)) ∧ (∀ y0 y1 y2 y3, LeO (laws_FnExactRunWord.j2 k y0 y1 y2 y3) (laws_FnExactRunWord.j2 (k + 1) y0 y1 y2 y3))
 | 0 => ⟨fun _ _ _ _ _ _ _ _ _ _ _ _ r h => by simp [laws_FnExactRunWord.j0] at h, fun _ _ _ _ _ _ _ _ _ r h => by simp [laws_FnExactRunWord.j1] at h, fun _ _ _ _ r h => by simp [laws_FnExactRunWord.j2] at h⟩
 | k + 1 => by
  obtain ⟨ih0, ih1, ih2⟩ := laws_FnExactRunWord.mono_l k
  refine ⟨?_, ?_, ?_⟩
  ·intro y0 y1 y2 y3 y4 y5 y6 y7 y8 y9 y10 y11
   unfold laws_FnExactRunWord.j0
   repeat' first
   | (with_reducible exact ih0 _ _ _ _ _ _ _ _ _ _ _ _)
   | (with_reducible exact ih1 _ _ _ _ _ _ _ _ _)
   | (with_reducible exact ih2 _ _ _ _)
   | (with_reducible exact impl_RunWord.mono _ _ _ _)
   | (with_reducible exact laws_eqSurface.mono _ _ _ _ _)
   | (with_reducible exact laws_heldSurface.mono _ _ _ _)
   | (with_reducible exact laws_markSurface.mono _ _ _ _)
   | (with_reducible exact laws_toSurface.mono _ _ _)
   | (with_reducible exact spec_RunWord.mono _ _ _ _)
   | (with_reducible exact LeO.refl _)
   | (with_reducible exact LeO.none _)
   | (with_reducible refine LeO.ite ?_ ?_)
   | (with_reducible refine LeO.bind ?_ (fun _ => ?_))
   | exact ih0 _ _ _ _ _ _ _ _ _ _ _ _
   | exact ih1 _ _ _ _ _ _ _ _ _
   | exact ih2 _ _ _ _
   | exact impl_RunWord.mono _ _ _ _
   | exact laws_eqSurface.mono _ _ _ _ _
   | exact laws_heldSurface.mono _ _ _ _
   | exact laws_markSurface.mono _ _ _ _
   | exact laws_toSurface.mono _ _ _
   | exact spec_RunWord.mono _ _ _ _
   | exact LeO.none _
   | refine LeO.ite ?_ ?_
   | refine LeO.bind ?_ (fun _ => ?_)
  ·intro y0 y1 y2 y3 y4 y5 y6 y7 y8
   unfold laws_FnExactRunWord.j1
   repeat' first
   | (with_reducible exact ih0 _ _ _ _ _ _ _ _ _ _ _ _)
   | (with_reducible exact ih1 _ _ _ _ _ _ _ _ _)
   | (with_reducible exact ih2 _ _ _ _)
   | (with_reducible exact impl_RunWord.mono _ _ _ _)
   | (with_reducible exact laws_eqSurface.mono _ _ _ _ _)
   | (with_reducible exact laws_heldSurface.mono _ _ _ _)
   | (with_reducible exact laws_markSurface.mono _ _ _ _)
   | (with_reducible exact laws_toSurface.mono _ _ _)
   | (with_reducible exact spec_RunWord.mono _ _ _ _)
   | (with_reducible exact LeO.refl _)
   | (with_reducible exact LeO.none _)
   | (with_reducible refine LeO.ite ?_ ?_)
   | (with_reducible refine LeO.bind ?_ (fun _ => ?_))
   | exact ih0 _ _ _ _ _ _ _ _ _ _ _ _
   | exact ih1 _ _ _ _ _ _ _ _ _
   | exact ih2 _ _ _ _
   | exact impl_RunWord.mono _ _ _ _
   | exact laws_eqSurface.mono _ _ _ _ _
   | exact laws_heldSurface.mono _ _ _ _
   | exact laws_markSurface.mono _ _ _ _
   | exact laws_toSurface.mono _ _ _
   | exact spec_RunWord.mono _ _ _ _
   | exact LeO.none _
   | refine LeO.ite ?_ ?_
   | refine LeO.bind ?_ (fun _ => ?_)
  ·intro y0 y1 y2 y3
   unfold laws_FnExactRunWord.j2
   repeat' first
   | (with_reducible exact ih0 _ _ _ _ _ _ _ _ _ _ _ _)
   | (with_reducible exact ih1 _ _ _ _ _ _ _ _ _)
   | (with_reducible exact ih2 _ _ _ _)
   | (with_reducible exact impl_RunWord.mono _ _ _ _)
   | (with_reducible exact laws_eqSurface.mono _ _ _ _ _)
   | (with_reducible exact laws_heldSurface.mono _ _ _ _)
   | (with_reducible exact laws_markSurface.mono _ _ _ _)
   | (with_reducible exact laws_toSurface.mono _ _ _)
   | (with_reducible exact spec_RunWord.mono _ _ _ _)
   | (with_reducible exact LeO.refl _)
   | (with_reducible exact LeO.none _)
   | (with_reducible refine LeO.ite ?_ ?_)
   | (with_reducible refine LeO.bind ?_ (fun _ => ?_))
   | exact ih0 _ _ _ _ _ _ _ _ _ _ _ _
   | exact ih1 _ _ _ _ _ _ _ _ _
   | exact ih2 _ _ _ _
   | exact impl_RunWord.mono _ _ _ _
   | exact laws_eqSurface.mono _ _ _ _ _
   | exact laws_heldSurface.mono _ _ _ _
   | exact laws_markSurface.mono _ _ _ _
   | exact laws_toSurface.mono _ _ _
   | exact spec_RunWord.mono _ _ _ _
   | exact LeO.none _
   | refine LeO.ite ?_ ?_
   | refine LeO.bind ?_ (fun _ => ?_)
theorem laws_FnExactRunWord.mono : ∀ a0 a1 a2 k, LeO (laws_FnExactRunWord.f k a0 a1 a2) (laws_FnExactRunWord.f (k + 1) a0 a1 a2) := by
 intro a0 a1 a2 k
 obtain ⟨ih0, ih1, ih2⟩ := laws_FnExactRunWord.mono_l k
 unfold laws_FnExactRunWord.f
 repeat' first
   | (with_reducible exact ih0 _ _ _ _ _ _ _ _ _ _ _ _)
   | (with_reducible exact ih1 _ _ _ _ _ _ _ _ _)
   | (with_reducible exact ih2 _ _ _ _)
   | (with_reducible exact impl_RunWord.mono _ _ _ _)
   | (with_reducible exact laws_eqSurface.mono _ _ _ _ _)
   | (with_reducible exact laws_heldSurface.mono _ _ _ _)
   | (with_reducible exact laws_markSurface.mono _ _ _ _)
   | (with_reducible exact laws_toSurface.mono _ _ _)
   | (with_reducible exact spec_RunWord.mono _ _ _ _)
   | (with_reducible exact LeO.refl _)
   | (with_reducible exact LeO.none _)
   | (with_reducible refine LeO.ite ?_ ?_)
   | (with_reducible refine LeO.bind ?_ (fun _ => ?_))
   | exact ih0 _ _ _ _ _ _ _ _ _ _ _ _
   | exact ih1 _ _ _ _ _ _ _ _ _
   | exact ih2 _ _ _ _
   | exact impl_RunWord.mono _ _ _ _
   | exact laws_eqSurface.mono _ _ _ _ _
   | exact laws_heldSurface.mono _ _ _ _
   | exact laws_markSurface.mono _ _ _ _
   | exact laws_toSurface.mono _ _ _
   | exact spec_RunWord.mono _ _ _ _
   | exact LeO.none _
   | refine LeO.ite ?_ ?_
   | refine LeO.bind ?_ (fun _ => ?_)
set_option maxHeartbeats 8000000 in
set_option maxRecDepth 100000 in
theorem laws_FnExactRunWord.calls_true (k : Nat) (A0_0 : Option Addr) (c0_0 : Nat) (l0_0 : List Int) (A0_1 : Option Addr) (c0_1 : Nat) (l0_1 : List Int) (a1 : ByteArray) (w : World) (hr0_0 : Kd.C (Kd.int .i64) w A0_0 l0_0.length l0_0) (hc0_0 : l0_0.length ≤ c0_0) (hr0_1 : Kd.C (Kd.int .i64) w A0_1 l0_1.length l0_1) (hc0_1 : l0_1.length ≤ c0_1) (h : laws_FnExactRunWord.f k l0_0 l0_1 a1 = some true) :
  Calls Try.prog 5 #[.agg #[.slice A0_0 l0_0.length c0_0, .slice A0_1 l0_1.length c0_1], .string a1] w fun e w' => e = .returned (.bool true) ∧ Below w.heap.size w w' := by
 have hu24 := Try.underlying24
 have hu27 := Try.underlying27
 have HR0_0 := Aside0.mk hr0_0
 have HC0_0 := Aside0.mk hc0_0
 clear hr0_0 hc0_0
 have HR0_1 := Aside0.mk hr0_1
 have HC0_1 := Aside0.mk hc0_1
 clear hr0_1 hc0_1
 have HB := Aside0.mk (Below.refl w.heap.size w)
 have H : (if (a1.size : Int) > 1048576 then (some true) else ((laws_szSurface.f l0_0 l0_1 1048576).bind fun t583 => (if t583 < 0 then (some true) else ((laws_toSurface.f k l0_0 l0_1).bind fun bt584 => ((spec_RunWord.f k bt584.1 bt584.2 a1).bind fun bt590 => ((laws_toSurface.f k l0_0 l0_1).bind fun bt598 => ((impl_RunWord.f k bt598.1 bt598.2 a1).bind fun bt605 => ((laws_eqSurface.f k bt605.1 bt605.2.1 bt590.1 bt590.2.1).bind fun t613 => (if t613 = true then (laws_FnExactRunWord.j0 k a1 bt590.2.2 bt605.2.2 (bt605.2.2 != bt590.2.2) l0_0 l0_1 bt590.1 bt590.2.1 bt598.1 bt598.2 bt605.1 bt605.2.1) else (laws_FnExactRunWord.j0 k a1 bt590.2.2 bt605.2.2 true l0_0 l0_1 bt590.1 bt590.2.1 bt598.1 bt598.2 bt605.1 bt605.2.1)))))))))) = some true := h
 clear h
 by_cases c3 : (a1.size : Int) > 1048576
 ·rw [if_pos c3] at H
  have c3b0 : decide (1048576 < (a1.size : Int)) = true := decide_eq_true c3
  have c3b1 : decide (1048576 < a1.size) = true := decide_eq_true (by omega)
  clear c3
  go_enter Try.func5, Try.ntmps5
  go_wp2_with (first | ((with_reducible refine gate_dst (N := 2) rfl ?_); refine box_event ?hg (N := 2) ?hd (cs := #[.slice A0_0 l0_0.length c0_0, .slice A0_1 l0_1.length c0_1]) (t := 24) ?hr ?_; (case hd => rfl); (case hg => rfl); (case hr => first | (go_simp; done) | (go_simp; rfl)); intro gb582 hg w4 hbox hb; have n0_ := Aside0.mk (below_step (by repeat (first | (with_reducible first | exact HB.out | apply below_alloc | apply pw_below_drewN | apply below_drew1) | exact HB.out)) hb); have n1_ := Aside0.mk (hbox); have n2_ := Aside0.mk ((by rw [hg]; exact (below_size (by repeat (first | (with_reducible first | exact HB.out | apply below_alloc | apply pw_below_drewN | apply below_drew1) | exact HB.out))) : w.heap.size ≤ gb582)); have n3_ := Aside0.mk ((by rw [hg]; exact (below_size (by repeat (first | (with_reducible first | exact HB.out | apply below_alloc | apply pw_below_drewN | apply below_drew1) | exact HB.out))) : w.heap.size ≤ gb582)); clear HB; have HB := n0_; have BK582 := n1_; have GW582 := n2_; have GE582 := n3_; clear n0_ n1_ n2_ n3_; clear hb hbox hg))
  go_ret
  exact ⟨by first | rfl | (simp [errW_none, errW_some] <;> rfl) | (simp [*, errW_none, errW_some] <;> rfl), by repeat (first | (with_reducible first | exact HB.out | apply below_alloc | apply pw_below_drewN | apply below_drew1 | refine below_set ?_ GE582.out) | exact HB.out)⟩
 ·rw [if_neg c3] at H
  have c3b0 : decide (1048576 < (a1.size : Int)) = false := decide_eq_false c3
  have c3b1 : decide (1048576 < a1.size) = false := decide_eq_false (by omega)
  clear c3
  replace H := Option.bind_eq_some_iff.mp H
  obtain ⟨t583, A50, H⟩ := H
  replace H : (if t583 < 0 then (some true) else ((laws_toSurface.f k l0_0 l0_1).bind fun bt584 => ((spec_RunWord.f k bt584.1 bt584.2 a1).bind fun bt590 => ((laws_toSurface.f k l0_0 l0_1).bind fun bt598 => ((impl_RunWord.f k bt598.1 bt598.2 a1).bind fun bt605 => ((laws_eqSurface.f k bt605.1 bt605.2.1 bt590.1 bt590.2.1).bind fun t613 => (if t613 = true then (laws_FnExactRunWord.j0 k a1 bt590.2.2 bt605.2.2 (bt605.2.2 != bt590.2.2) l0_0 l0_1 bt590.1 bt590.2.1 bt598.1 bt598.2 bt605.1 bt605.2.1) else (laws_FnExactRunWord.j0 k a1 bt590.2.2 bt605.2.2 true l0_0 l0_1 bt590.1 bt590.2.1 bt598.1 bt598.2 bt605.1 bt605.2.1)))))))) = some true := H
  have A5 := Aside0.mk A50
  clear A50
  by_cases c6 : t583 < 0
  ·rw [if_pos c6] at H
   have c6b0 : decide (t583 < 0) = true := decide_eq_true c6
   clear c6
   go_enter Try.func5, Try.ntmps5
   go_wp2_with (first | ((with_reducible refine gate_dst (N := 2) rfl ?_); refine box_event ?hg (N := 2) ?hd (cs := #[.slice A0_0 l0_0.length c0_0, .slice A0_1 l0_1.length c0_1]) (t := 24) ?hr ?_; (case hd => rfl); (case hg => rfl); (case hr => first | (go_simp; done) | (go_simp; rfl)); intro gb582 hg w7 hbox hb; have n0_ := Aside0.mk (below_step (by repeat (first | (with_reducible first | exact HB.out | apply below_alloc | apply pw_below_drewN | apply below_drew1) | exact HB.out)) hb); have n1_ := Aside0.mk (hbox); have n2_ := Aside0.mk ((by rw [hg]; exact (below_size (by repeat (first | (with_reducible first | exact HB.out | apply below_alloc | apply pw_below_drewN | apply below_drew1) | exact HB.out))) : w.heap.size ≤ gb582)); have n3_ := Aside0.mk ((by rw [hg]; exact (below_size (by repeat (first | (with_reducible first | exact HB.out | apply below_alloc | apply pw_below_drewN | apply below_drew1) | exact HB.out))) : w.heap.size ≤ gb582)); clear HB; have HB := n0_; have BK582 := n1_; have GW582 := n2_; have GE582 := n3_; clear n0_ n1_ n2_ n3_; clear hb hbox hg; have hcz8_0 : w7.cell? ⟨gb582, 0, none⟩ = some (.slice A0_0 l0_0.length c0_0) := (blk_cell BK582.out 0).trans rfl; have hcz8_1 : w7.cell? ⟨gb582, 1, none⟩ = some (.slice A0_1 l0_1.length c0_1) := (blk_cell BK582.out 1).trans rfl; have hfz8_0 := blk_frozen BK582.out 0; have hfz8_1 := blk_frozen BK582.out 1) | ((with_reducible refine gate_callee (f := 12) rfl ?_); refine goesL_ (some 21) rfl rfl Try.func12 (by kernel_rfl) rfl #[.agg #[.slice A0_0 l0_0.length c0_0, .slice A0_1 l0_1.length c0_1], .int .i64 1048576] rfl (by (try simp only [List.map_toArray, List.map_cons, List.map_nil]); first | done | rfl | (simp only [List.length_drop, List.length_take]; rfl)) ?_; (with_reducible refine (laws_szSurface.calls _ _ l0_0 _ _ l0_1 1048576 t583 _ ?side1 ?side2 ?side3 ?side4 A5.out).mono ?_); (case side1 => repeat (first | exact (Kd.C_below HR0_0.out HB.out) | (with_reducible refine Kd.C_alloc ?_ _) | (with_reducible refine Kd.C_drewN ?_ _) | (with_reducible refine Kd.C_drew ?_))); (case side2 => exact HC0_0.out); (case side3 => repeat (first | exact (Kd.C_below HR0_1.out HB.out) | (with_reducible refine Kd.C_alloc ?_ _) | (with_reducible refine Kd.C_drewN ?_ _) | (with_reducible refine Kd.C_drew ?_))); (case side4 => exact HC0_1.out); rintro e w9 ⟨rfl, hb⟩; refine ⟨_, rfl, ?_⟩; have n0_ := Aside0.mk (blk_below (g := gb582) (o := .cells #[.slice A0_0 l0_0.length c0_0, .slice A0_1 l0_1.length c0_1] 24 (0, 0)) (by (with_reducible repeat (first | refine blk_drewN ?_ _ | refine blk_drew ?_ | refine blk_alloc ?_ _)); exact BK582.out) hb); have n1_ := Aside0.mk (below_step (by repeat (first | (with_reducible first | exact HB.out | apply below_alloc | apply pw_below_drewN | apply below_drew1 | refine below_set ?_ GE582.out) | exact HB.out)) hb); clear BK582; clear HB; have BK582 := n0_; have HB := n1_; clear n0_ n1_; (try clear hb); (try clear hb2); (try clear hk); (try clear hi)))
   go_ret
   exact ⟨by first | rfl | (simp [errW_none, errW_some] <;> rfl) | (simp [*, errW_none, errW_some] <;> rfl), by repeat (first | (with_reducible first | exact HB.out | apply below_alloc | apply pw_below_drewN | apply below_drew1 | refine below_set ?_ GE582.out) | exact HB.out)⟩
  ·rw [if_neg c6] at H
   have c6b0 : decide (t583 < 0) = false := decide_eq_false c6
   clear c6
   replace H := Option.bind_eq_some_iff.mp H
   obtain ⟨⟨t584, t587⟩, A100, H⟩ := H
   replace H : ((spec_RunWord.f k t584 t587 a1).bind fun bt590 => ((laws_toSurface.f k l0_0 l0_1).bind fun bt598 => ((impl_RunWord.f k bt598.1 bt598.2 a1).bind fun bt605 => ((laws_eqSurface.f k bt605.1 bt605.2.1 bt590.1 bt590.2.1).bind fun t613 => (if t613 = true then (laws_FnExactRunWord.j0 k a1 bt590.2.2 bt605.2.2 (bt605.2.2 != bt590.2.2) l0_0 l0_1 bt590.1 bt590.2.1 bt598.1 bt598.2 bt605.1 bt605.2.1) else (laws_FnExactRunWord.j0 k a1 bt590.2.2 bt605.2.2 true l0_0 l0_1 bt590.1 bt590.2.1 bt598.1 bt598.2 bt605.1 bt605.2.1)))))) = some true := H
   have A10 := Aside0.mk A100
   clear A100
   replace H := Option.bind_eq_some_iff.mp H
   obtain ⟨⟨t590, t593, t596⟩, A110, H⟩ := H
   replace H : ((laws_toSurface.f k l0_0 l0_1).bind fun bt598 => ((impl_RunWord.f k bt598.1 bt598.2 a1).bind fun bt605 => ((laws_eqSurface.f k bt605.1 bt605.2.1 t590 t593).bind fun t613 => (if t613 = true then (laws_FnExactRunWord.j0 k a1 t596 bt605.2.2 (bt605.2.2 != t596) l0_0 l0_1 t590 t593 bt598.1 bt598.2 bt605.1 bt605.2.1) else (laws_FnExactRunWord.j0 k a1 t596 bt605.2.2 true l0_0 l0_1 t590 t593 bt598.1 bt598.2 bt605.1 bt605.2.1))))) = some true := H
   have A11 := Aside0.mk A110
   clear A110
   replace H := Option.bind_eq_some_iff.mp H
   obtain ⟨⟨t598, t601⟩, A120, H⟩ := H
   replace H : ((impl_RunWord.f k t598 t601 a1).bind fun bt605 => ((laws_eqSurface.f k bt605.1 bt605.2.1 t590 t593).bind fun t613 => (if t613 = true then (laws_FnExactRunWord.j0 k a1 t596 bt605.2.2 (bt605.2.2 != t596) l0_0 l0_1 t590 t593 t598 t601 bt605.1 bt605.2.1) else (laws_FnExactRunWord.j0 k a1 t596 bt605.2.2 true l0_0 l0_1 t590 t593 t598 t601 bt605.1 bt605.2.1)))) = some true := H
   have A12 := Aside0.mk A120
   clear A120
   replace H := Option.bind_eq_some_iff.mp H
   obtain ⟨⟨t605, t608, t611⟩, A130, H⟩ := H
   replace H : ((laws_eqSurface.f k t605 t608 t590 t593).bind fun t613 => (if t613 = true then (laws_FnExactRunWord.j0 k a1 t596 t611 (t611 != t596) l0_0 l0_1 t590 t593 t598 t601 t605 t608) else (laws_FnExactRunWord.j0 k a1 t596 t611 true l0_0 l0_1 t590 t593 t598 t601 t605 t608))) = some true := H
   have A13 := Aside0.mk A130
   clear A130
   have HC14 := Aside0.mk H
   clear H
   go_enter Try.func5, Try.ntmps5
   go_upto_region 10 with (first | ((with_reducible refine gate_dst (N := 2) rfl ?_); refine box_event ?hg (N := 2) ?hd (cs := #[.slice A0_0 l0_0.length c0_0, .slice A0_1 l0_1.length c0_1]) (t := 24) ?hr ?_; (case hd => rfl); (case hg => rfl); (case hr => first | (go_simp; done) | (go_simp; rfl)); intro gb582 hg w15 hbox hb; have n0_ := Aside0.mk (below_step (by repeat (first | (with_reducible first | exact HB.out | apply below_alloc | apply pw_below_drewN | apply below_drew1) | exact HB.out)) hb); have n1_ := Aside0.mk (hbox); have n2_ := Aside0.mk ((by rw [hg]; exact (below_size (by repeat (first | (with_reducible first | exact HB.out | apply below_alloc | apply pw_below_drewN | apply below_drew1) | exact HB.out))) : w.heap.size ≤ gb582)); have n3_ := Aside0.mk ((by rw [hg]; exact (below_size (by repeat (first | (with_reducible first | exact HB.out | apply below_alloc | apply pw_below_drewN | apply below_drew1) | exact HB.out))) : w.heap.size ≤ gb582)); clear HB; have HB := n0_; have BK582 := n1_; have GW582 := n2_; have GE582 := n3_; clear n0_ n1_ n2_ n3_; clear hb hbox hg; have hcz16_0 : w15.cell? ⟨gb582, 0, none⟩ = some (.slice A0_0 l0_0.length c0_0) := (blk_cell BK582.out 0).trans rfl; have hcz16_1 : w15.cell? ⟨gb582, 1, none⟩ = some (.slice A0_1 l0_1.length c0_1) := (blk_cell BK582.out 1).trans rfl; have hfz16_0 := blk_frozen BK582.out 0; have hfz16_1 := blk_frozen BK582.out 1) | ((with_reducible refine gate_callee (f := 12) rfl ?_); refine goesL_ (some 21) rfl rfl Try.func12 (by kernel_rfl) rfl #[.agg #[.slice A0_0 l0_0.length c0_0, .slice A0_1 l0_1.length c0_1], .int .i64 1048576] rfl (by (try simp only [List.map_toArray, List.map_cons, List.map_nil]); first | done | rfl | (simp only [List.length_drop, List.length_take]; rfl)) ?_; (with_reducible refine (laws_szSurface.calls _ _ l0_0 _ _ l0_1 1048576 t583 _ ?side1 ?side2 ?side3 ?side4 A5.out).mono ?_); (case side1 => repeat (first | exact (Kd.C_below HR0_0.out HB.out) | (with_reducible refine Kd.C_alloc ?_ _) | (with_reducible refine Kd.C_drewN ?_ _) | (with_reducible refine Kd.C_drew ?_))); (case side2 => exact HC0_0.out); (case side3 => repeat (first | exact (Kd.C_below HR0_1.out HB.out) | (with_reducible refine Kd.C_alloc ?_ _) | (with_reducible refine Kd.C_drewN ?_ _) | (with_reducible refine Kd.C_drew ?_))); (case side4 => exact HC0_1.out); rintro e w17 ⟨rfl, hb⟩; refine ⟨_, rfl, ?_⟩; have n0_ := Aside0.mk (blk_below (g := gb582) (o := .cells #[.slice A0_0 l0_0.length c0_0, .slice A0_1 l0_1.length c0_1] 24 (0, 0)) (by (with_reducible repeat (first | refine blk_drewN ?_ _ | refine blk_drew ?_ | refine blk_alloc ?_ _)); exact BK582.out) hb); have n1_ := Aside0.mk (below_step (by repeat (first | (with_reducible first | exact HB.out | apply below_alloc | apply pw_below_drewN | apply below_drew1 | refine below_set ?_ GE582.out) | exact HB.out)) hb); clear BK582; clear HB; have BK582 := n0_; have HB := n1_; clear n0_ n1_; (try clear hb); (try clear hb2); (try clear hk); (try clear hi); have hcz18_0 : w17.cell? ⟨gb582, 0, none⟩ = some (.slice A0_0 l0_0.length c0_0) := (blk_cell BK582.out 0).trans rfl; have hcz18_1 : w17.cell? ⟨gb582, 1, none⟩ = some (.slice A0_1 l0_1.length c0_1) := (blk_cell BK582.out 1).trans rfl; have hfz18_0 := blk_frozen BK582.out 0; have hfz18_1 := blk_frozen BK582.out 1) | ((with_reducible refine gate_callee (f := 14) rfl ?_); refine goesL_ (some 26) rfl rfl Try.func14 (by kernel_rfl) rfl #[.agg #[.slice A0_0 l0_0.length c0_0, .slice A0_1 l0_1.length c0_1]] rfl (by (try simp only [List.map_toArray, List.map_cons, List.map_nil]); first | done | rfl | (simp only [List.length_drop, List.length_take]; rfl)) ?_; (with_reducible refine (laws_toSurface.calls k _ _ l0_0 _ _ l0_1 t584 t587 _ ?side1 ?side2 ?side3 ?side4 A10.out).mono ?_); (case side1 => repeat (first | exact (Kd.C_below HR0_0.out HB.out) | (with_reducible refine Kd.C_alloc ?_ _) | (with_reducible refine Kd.C_drewN ?_ _) | (with_reducible refine Kd.C_drew ?_))); (case side2 => exact HC0_0.out); (case side3 => repeat (first | exact (Kd.C_below HR0_1.out HB.out) | (with_reducible refine Kd.C_alloc ?_ _) | (with_reducible refine Kd.C_drewN ?_ _) | (with_reducible refine Kd.C_drew ?_))); (case side4 => exact HC0_1.out); rintro e w19 ⟨v585, v588, rfl, ho0, ho1, hb⟩; refine ⟨_, rfl, ?_⟩; have n0_ := Aside0.mk (Kd.R_lower ho0 (below_size (by repeat (first | (with_reducible first | exact HB.out | apply below_alloc | apply pw_below_drewN | apply below_drew1 | refine below_set ?_ GE582.out) | exact HB.out)))); have n1_ := Aside0.mk (Kd.R_lower ho1 (below_size (by repeat (first | (with_reducible first | exact HB.out | apply below_alloc | apply pw_below_drewN | apply below_drew1 | refine below_set ?_ GE582.out) | exact HB.out)))); have n2_ := Aside0.mk (blk_below (g := gb582) (o := .cells #[.slice A0_0 l0_0.length c0_0, .slice A0_1 l0_1.length c0_1] 24 (0, 0)) (by (with_reducible repeat (first | refine blk_drewN ?_ _ | refine blk_drew ?_ | refine blk_alloc ?_ _)); exact BK582.out) hb); have n3_ := Aside0.mk (below_step (by repeat (first | (with_reducible first | exact HB.out | apply below_alloc | apply pw_below_drewN | apply below_drew1 | refine below_set ?_ GE582.out) | exact HB.out)) hb); clear BK582; clear HB; have HO586 := n0_; have HO589 := n1_; have BK582 := n2_; have HB := n3_; clear n0_ n1_ n2_ n3_; (try clear hb); (try clear hb2); (try clear hk); (try clear hi); (try clear ho0); (try clear ho1); obtain ⟨Ao20, co20, eo20⟩ := Kd.R_slice HO586.out; subst eo20; obtain ⟨Ao21, co21, eo21⟩ := Kd.R_slice HO589.out; subst eo21) | ((with_reducible refine gate_callee (f := 23) rfl ?_); refine goesL_ (some 28) rfl rfl Try.func23 (by kernel_rfl) rfl #[.agg #[.slice Ao20 t584.length co20, .slice Ao21 t587.length co21], .string a1] rfl (by (try simp only [List.map_toArray, List.map_cons, List.map_nil]); first | done | rfl | (simp only [List.length_drop, List.length_take]; rfl)) ?_; (with_reducible refine (spec_RunWord.calls k _ _ t584 _ _ t587 a1 t590 t593 t596 _ ?side1 ?side2 ?side3 ?side4 A11.out).mono ?_); (case side1 => repeat (first | exact (Kd.R_reads' HO586.out).2.2 | (with_reducible refine Kd.C_alloc ?_ _) | (with_reducible refine Kd.C_drewN ?_ _) | (with_reducible refine Kd.C_drew ?_))); (case side2 => exact (Kd.R_reads' HO586.out).2.1); (case side3 => repeat (first | exact (Kd.R_reads' HO589.out).2.2 | (with_reducible refine Kd.C_alloc ?_ _) | (with_reducible refine Kd.C_drewN ?_ _) | (with_reducible refine Kd.C_drew ?_))); (case side4 => exact (Kd.R_reads' HO589.out).2.1); rintro e w22 ⟨v591, v594, rfl, ho0, ho1, hb⟩; refine ⟨_, rfl, ?_⟩; have n0_ := Aside0.mk (Kd.R_mono (Kd.R_told (Kd.R_told (Kd.R_old (by (with_reducible repeat (first | apply Kd.R_alloc | apply Kd.R_drewN | apply Kd.R_drew)); exact HO586.out) hb) (Kd.R_base ho0)) (Kd.R_base ho1)) (fun _ h_ => h_.1)); have n1_ := Aside0.mk (Kd.R_mono (Kd.R_told (Kd.R_told (Kd.R_old (by (with_reducible repeat (first | apply Kd.R_alloc | apply Kd.R_drewN | apply Kd.R_drew)); exact HO589.out) hb) (Kd.R_base ho0)) (Kd.R_base ho1)) (fun _ h_ => h_.1)); have n2_ := Aside0.mk (Kd.R_lower (Kd.R_new' (Kd.R_new' ho0 (Kd.R_lt (by (with_reducible repeat (first | apply Kd.R_alloc | apply Kd.R_drewN | apply Kd.R_drew)); exact HO586.out))) (Kd.R_lt (by (with_reducible repeat (first | apply Kd.R_alloc | apply Kd.R_drewN | apply Kd.R_drew)); exact HO589.out))) (below_size (by repeat (first | (with_reducible first | exact HB.out | apply below_alloc | apply pw_below_drewN | apply below_drew1 | refine below_set ?_ GE582.out) | exact HB.out)))); have n3_ := Aside0.mk (Kd.R_lower (Kd.R_new' (Kd.R_new' ho1 (Kd.R_lt (by (with_reducible repeat (first | apply Kd.R_alloc | apply Kd.R_drewN | apply Kd.R_drew)); exact HO586.out))) (Kd.R_lt (by (with_reducible repeat (first | apply Kd.R_alloc | apply Kd.R_drewN | apply Kd.R_drew)); exact HO589.out))) (below_size (by repeat (first | (with_reducible first | exact HB.out | apply below_alloc | apply pw_below_drewN | apply below_drew1 | refine below_set ?_ GE582.out) | exact HB.out)))); have n4_ := Aside0.mk (blk_below (g := gb582) (o := .cells #[.slice A0_0 l0_0.length c0_0, .slice A0_1 l0_1.length c0_1] 24 (0, 0)) (by (with_reducible repeat (first | refine blk_drewN ?_ _ | refine blk_drew ?_ | refine blk_alloc ?_ _)); exact BK582.out) hb); have n5_ := Aside0.mk (below_step (by repeat (first | (with_reducible first | exact HB.out | apply below_alloc | apply pw_below_drewN | apply below_drew1 | refine below_set ?_ GE582.out) | exact HB.out)) hb); clear HO586; clear HO589; clear BK582; clear HB; have HO586 := n0_; have HO589 := n1_; have HO592 := n2_; have HO595 := n3_; have BK582 := n4_; have HB := n5_; clear n0_ n1_ n2_ n3_ n4_ n5_; (try clear hb); (try clear hb2); (try clear hk); (try clear hi); (try clear ho0); (try clear ho1)) | ((with_reducible refine gate_dst (N := 6) rfl ?_); refine box_event ?hg (N := 6) ?hd (cs := #[.slice none 0 0, .slice none 0 0]) (t := 27) ?hr ?_; (case hd => rfl); (case hg => rfl); (case hr => first | (go_simp; done) | (go_simp; rfl)); intro gb597 hg w23 hbox hb; have n0_ := Aside0.mk (Kd.R_below (by (with_reducible repeat (first | apply Kd.R_alloc | apply Kd.R_drewN | apply Kd.R_drew)); exact HO586.out) hb); have n1_ := Aside0.mk (Kd.R_below (by (with_reducible repeat (first | apply Kd.R_alloc | apply Kd.R_drewN | apply Kd.R_drew)); exact HO589.out) hb); have n2_ := Aside0.mk (Kd.R_below (by (with_reducible repeat (first | apply Kd.R_alloc | apply Kd.R_drewN | apply Kd.R_drew)); exact HO592.out) hb); have n3_ := Aside0.mk (Kd.R_below (by (with_reducible repeat (first | apply Kd.R_alloc | apply Kd.R_drewN | apply Kd.R_drew)); exact HO595.out) hb); have n4_ := Aside0.mk (blk_below (g := gb582) (o := .cells #[.slice A0_0 l0_0.length c0_0, .slice A0_1 l0_1.length c0_1] 24 (0, 0)) (by (with_reducible repeat (first | refine blk_drewN ?_ _ | refine blk_drew ?_ | refine blk_alloc ?_ _)); exact BK582.out) hb); have n5_ := Aside0.mk (below_step (by repeat (first | (with_reducible first | exact HB.out | apply below_alloc | apply pw_below_drewN | apply below_drew1 | refine below_set ?_ GE582.out) | exact HB.out)) hb); have n6_ := Aside0.mk (hbox); have n7_ := Aside0.mk ((by rw [hg]; exact (below_size (by repeat (first | (with_reducible first | exact HB.out | apply below_alloc | apply pw_below_drewN | apply below_drew1 | refine below_set ?_ GE582.out) | exact HB.out))) : w.heap.size ≤ gb597)); have n8_ := Aside0.mk ((by rw [hg]; exact (below_size (by repeat (first | (with_reducible first | exact HB.out | apply below_alloc | apply pw_below_drewN | apply below_drew1 | refine below_set ?_ GE582.out) | exact HB.out))) : w.heap.size ≤ gb597)); have n9_ := Aside0.mk ((by rw [hg]; exact Nat.ne_of_lt (blk_lt (g := gb582) (o := .cells #[.slice A0_0 l0_0.length c0_0, .slice A0_1 l0_1.length c0_1] 24 (0, 0)) (by (with_reducible repeat (first | refine blk_drewN ?_ _ | refine blk_drew ?_ | refine blk_alloc ?_ _)); exact BK582.out)) : gb582 ≠ gb597)); have n10_ := Aside0.mk ((by rw [hg]; exact Nat.ne_of_gt (blk_lt (g := gb582) (o := .cells #[.slice A0_0 l0_0.length c0_0, .slice A0_1 l0_1.length c0_1] 24 (0, 0)) (by (with_reducible repeat (first | refine blk_drewN ?_ _ | refine blk_drew ?_ | refine blk_alloc ?_ _)); exact BK582.out)) : gb597 ≠ gb582)); clear HO586; clear HO589; clear HO592; clear HO595; clear BK582; clear HB; have HO586 := n0_; have HO589 := n1_; have HO592 := n2_; have HO595 := n3_; have BK582 := n4_; have HB := n5_; have BK597 := n6_; have GW597 := n7_; have GE597 := n8_; have NB582_597 := n9_; have NB597_582 := n10_; clear n0_ n1_ n2_ n3_ n4_ n5_ n6_ n7_ n8_ n9_ n10_; clear hb hbox hg; obtain ⟨Ao24, co24, eo24⟩ := Kd.R_slice HO592.out; subst eo24; have hnb25 := NB597_582.out; have hnc25 := NB582_597.out; have hcz26_0 : w23.cell? ⟨gb597, 0, none⟩ = some (.slice none 0 0) := (blk_cell BK597.out 0).trans rfl; have hcz26_1 : w23.cell? ⟨gb597, 1, none⟩ = some (.slice none 0 0) := (blk_cell BK597.out 1).trans rfl; have hfz26_0 := blk_frozen BK597.out 0; have hfz26_1 := blk_frozen BK597.out 1; obtain ⟨Ao27, co27, eo27⟩ := Kd.R_slice HO595.out; subst eo27; have hcz28_0 : w23.cell? ⟨gb582, 0, none⟩ = some (.slice A0_0 l0_0.length c0_0) := (blk_cell BK582.out 0).trans rfl; have hcz28_1 : w23.cell? ⟨gb582, 1, none⟩ = some (.slice A0_1 l0_1.length c0_1) := (blk_cell BK582.out 1).trans rfl; have hfz28_0 := blk_frozen BK582.out 0; have hfz28_1 := blk_frozen BK582.out 1) | ((with_reducible refine gate_callee (f := 14) rfl ?_); refine goesL_ (some 32) rfl rfl Try.func14 (by kernel_rfl) rfl #[.agg #[.slice A0_0 l0_0.length c0_0, .slice A0_1 l0_1.length c0_1]] rfl (by (try simp only [List.map_toArray, List.map_cons, List.map_nil]); first | done | rfl | (simp only [List.length_drop, List.length_take]; rfl)) ?_; (with_reducible refine (laws_toSurface.calls k _ _ l0_0 _ _ l0_1 t598 t601 _ ?side1 ?side2 ?side3 ?side4 A12.out).mono ?_); (case side1 => exact Kd.C_below HR0_0.out (by repeat (first | (with_reducible first | exact HB.out | apply below_alloc | apply pw_below_drewN | apply below_drew1 | refine below_set ?_ GE582.out | refine below_set ?_ GE597.out) | exact HB.out))); (case side2 => exact HC0_0.out); (case side3 => exact Kd.C_below HR0_1.out (by repeat (first | (with_reducible first | exact HB.out | apply below_alloc | apply pw_below_drewN | apply below_drew1 | refine below_set ?_ GE582.out | refine below_set ?_ GE597.out) | exact HB.out))); (case side4 => exact HC0_1.out); rintro e w29 ⟨v599, v602, rfl, ho0, ho1, hb⟩; refine ⟨_, rfl, ?_⟩; have n0_ := Aside0.mk (Kd.R_mono (Kd.R_told (Kd.R_told (Kd.R_old (by (with_reducible repeat (first | apply Kd.R_alloc | apply Kd.R_drewN | apply Kd.R_drew)); exact (Kd.R_mono (Kd.R_far (p := ⟨gb597, 1, none⟩) (Kd.R_far (p := ⟨gb597, 0, none⟩) (Kd.R_types HO586.out BK597.out (by decide)) (fun _ hk => hk.2) (.slice Ao24 t590.length co24)) (fun _ hk => hk.2) (.slice Ao27 t593.length co27)) (fun _ h_ => h_.1))) hb) (Kd.R_base ho0)) (Kd.R_base ho1)) (fun _ h_ => h_.1)); have n1_ := Aside0.mk (Kd.R_mono (Kd.R_told (Kd.R_told (Kd.R_old (by (with_reducible repeat (first | apply Kd.R_alloc | apply Kd.R_drewN | apply Kd.R_drew)); exact (Kd.R_mono (Kd.R_far (p := ⟨gb597, 1, none⟩) (Kd.R_far (p := ⟨gb597, 0, none⟩) (Kd.R_types HO589.out BK597.out (by decide)) (fun _ hk => hk.2) (.slice Ao24 t590.length co24)) (fun _ hk => hk.2) (.slice Ao27 t593.length co27)) (fun _ h_ => h_.1))) hb) (Kd.R_base ho0)) (Kd.R_base ho1)) (fun _ h_ => h_.1)); have n2_ := Aside0.mk (Kd.R_mono (Kd.R_told (Kd.R_told (Kd.R_old (by (with_reducible repeat (first | apply Kd.R_alloc | apply Kd.R_drewN | apply Kd.R_drew)); exact (Kd.R_mono (Kd.R_far (p := ⟨gb597, 1, none⟩) (Kd.R_far (p := ⟨gb597, 0, none⟩) (Kd.R_types HO592.out BK597.out (by decide)) (fun _ hk => hk.2) (.slice Ao24 t590.length co24)) (fun _ hk => hk.2) (.slice Ao27 t593.length co27)) (fun _ h_ => h_.1))) hb) (Kd.R_base ho0)) (Kd.R_base ho1)) (fun _ h_ => h_.1)); have n3_ := Aside0.mk (Kd.R_mono (Kd.R_told (Kd.R_told (Kd.R_old (by (with_reducible repeat (first | apply Kd.R_alloc | apply Kd.R_drewN | apply Kd.R_drew)); exact (Kd.R_mono (Kd.R_far (p := ⟨gb597, 1, none⟩) (Kd.R_far (p := ⟨gb597, 0, none⟩) (Kd.R_types HO595.out BK597.out (by decide)) (fun _ hk => hk.2) (.slice Ao24 t590.length co24)) (fun _ hk => hk.2) (.slice Ao27 t593.length co27)) (fun _ h_ => h_.1))) hb) (Kd.R_base ho0)) (Kd.R_base ho1)) (fun _ h_ => h_.1)); have n4_ := Aside0.mk (Kd.R_lower (Kd.R_new' (Kd.R_new' (Kd.R_new' (Kd.R_new' ho0 (Kd.R_lt (by (with_reducible repeat (first | apply Kd.R_alloc | apply Kd.R_drewN | apply Kd.R_drew)); exact (Kd.R_mono (Kd.R_far (p := ⟨gb597, 1, none⟩) (Kd.R_far (p := ⟨gb597, 0, none⟩) (Kd.R_types HO586.out BK597.out (by decide)) (fun _ hk => hk.2) (.slice Ao24 t590.length co24)) (fun _ hk => hk.2) (.slice Ao27 t593.length co27)) (fun _ h_ => h_.1))))) (Kd.R_lt (by (with_reducible repeat (first | apply Kd.R_alloc | apply Kd.R_drewN | apply Kd.R_drew)); exact (Kd.R_mono (Kd.R_far (p := ⟨gb597, 1, none⟩) (Kd.R_far (p := ⟨gb597, 0, none⟩) (Kd.R_types HO589.out BK597.out (by decide)) (fun _ hk => hk.2) (.slice Ao24 t590.length co24)) (fun _ hk => hk.2) (.slice Ao27 t593.length co27)) (fun _ h_ => h_.1))))) (Kd.R_lt (by (with_reducible repeat (first | apply Kd.R_alloc | apply Kd.R_drewN | apply Kd.R_drew)); exact (Kd.R_mono (Kd.R_far (p := ⟨gb597, 1, none⟩) (Kd.R_far (p := ⟨gb597, 0, none⟩) (Kd.R_types HO592.out BK597.out (by decide)) (fun _ hk => hk.2) (.slice Ao24 t590.length co24)) (fun _ hk => hk.2) (.slice Ao27 t593.length co27)) (fun _ h_ => h_.1))))) (Kd.R_lt (by (with_reducible repeat (first | apply Kd.R_alloc | apply Kd.R_drewN | apply Kd.R_drew)); exact (Kd.R_mono (Kd.R_far (p := ⟨gb597, 1, none⟩) (Kd.R_far (p := ⟨gb597, 0, none⟩) (Kd.R_types HO595.out BK597.out (by decide)) (fun _ hk => hk.2) (.slice Ao24 t590.length co24)) (fun _ hk => hk.2) (.slice Ao27 t593.length co27)) (fun _ h_ => h_.1))))) (below_size (by repeat (first | (with_reducible first | exact HB.out | apply below_alloc | apply pw_below_drewN | apply below_drew1 | refine below_set ?_ GE582.out | refine below_set ?_ GE597.out) | exact HB.out)))); have n5_ := Aside0.mk (Kd.R_lower (Kd.R_new' (Kd.R_new' (Kd.R_new' (Kd.R_new' ho1 (Kd.R_lt (by (with_reducible repeat (first | apply Kd.R_alloc | apply Kd.R_drewN | apply Kd.R_drew)); exact (Kd.R_mono (Kd.R_far (p := ⟨gb597, 1, none⟩) (Kd.R_far (p := ⟨gb597, 0, none⟩) (Kd.R_types HO586.out BK597.out (by decide)) (fun _ hk => hk.2) (.slice Ao24 t590.length co24)) (fun _ hk => hk.2) (.slice Ao27 t593.length co27)) (fun _ h_ => h_.1))))) (Kd.R_lt (by (with_reducible repeat (first | apply Kd.R_alloc | apply Kd.R_drewN | apply Kd.R_drew)); exact (Kd.R_mono (Kd.R_far (p := ⟨gb597, 1, none⟩) (Kd.R_far (p := ⟨gb597, 0, none⟩) (Kd.R_types HO589.out BK597.out (by decide)) (fun _ hk => hk.2) (.slice Ao24 t590.length co24)) (fun _ hk => hk.2) (.slice Ao27 t593.length co27)) (fun _ h_ => h_.1))))) (Kd.R_lt (by (with_reducible repeat (first | apply Kd.R_alloc | apply Kd.R_drewN | apply Kd.R_drew)); exact (Kd.R_mono (Kd.R_far (p := ⟨gb597, 1, none⟩) (Kd.R_far (p := ⟨gb597, 0, none⟩) (Kd.R_types HO592.out BK597.out (by decide)) (fun _ hk => hk.2) (.slice Ao24 t590.length co24)) (fun _ hk => hk.2) (.slice Ao27 t593.length co27)) (fun _ h_ => h_.1))))) (Kd.R_lt (by (with_reducible repeat (first | apply Kd.R_alloc | apply Kd.R_drewN | apply Kd.R_drew)); exact (Kd.R_mono (Kd.R_far (p := ⟨gb597, 1, none⟩) (Kd.R_far (p := ⟨gb597, 0, none⟩) (Kd.R_types HO595.out BK597.out (by decide)) (fun _ hk => hk.2) (.slice Ao24 t590.length co24)) (fun _ hk => hk.2) (.slice Ao27 t593.length co27)) (fun _ h_ => h_.1))))) (below_size (by repeat (first | (with_reducible first | exact HB.out | apply below_alloc | apply pw_below_drewN | apply below_drew1 | refine below_set ?_ GE582.out | refine below_set ?_ GE597.out) | exact HB.out)))); have n6_ := Aside0.mk (blk_below (g := gb582) (o := .cells #[.slice A0_0 l0_0.length c0_0, .slice A0_1 l0_1.length c0_1] 24 (0, 0)) (by (with_reducible repeat (first | refine blk_drewN ?_ _ | refine blk_drew ?_ | refine blk_alloc ?_ _)); refine blk_far ?_ NB582_597.out _; (with_reducible repeat (first | refine blk_drewN ?_ _ | refine blk_drew ?_ | refine blk_alloc ?_ _)); refine blk_far ?_ NB582_597.out _; (with_reducible repeat (first | refine blk_drewN ?_ _ | refine blk_drew ?_ | refine blk_alloc ?_ _)); exact BK582.out) hb); have n7_ := Aside0.mk (blk_below (g := gb597) (o := .cells #[.slice Ao24 t590.length co24, .slice Ao27 t593.length co27] 27 (0, 0)) (by (with_reducible repeat (first | refine blk_drewN ?_ _ | refine blk_drew ?_ | refine blk_alloc ?_ _)); refine blk_put (cs := #[.slice Ao24 t590.length co24, .slice none 0 0]) ?_ 1 _ rfl; (with_reducible repeat (first | refine blk_drewN ?_ _ | refine blk_drew ?_ | refine blk_alloc ?_ _)); refine blk_put (cs := #[.slice none 0 0, .slice none 0 0]) ?_ 0 _ rfl; (with_reducible repeat (first | refine blk_drewN ?_ _ | refine blk_drew ?_ | refine blk_alloc ?_ _)); exact BK597.out) hb); have n8_ := Aside0.mk (below_step (by repeat (first | (with_reducible first | exact HB.out | apply below_alloc | apply pw_below_drewN | apply below_drew1 | refine below_set ?_ GE582.out | refine below_set ?_ GE597.out) | exact HB.out)) hb); clear HO586; clear HO589; clear HO592; clear HO595; clear BK582; clear BK597; clear HB; have HO586 := n0_; have HO589 := n1_; have HO592 := n2_; have HO595 := n3_; have HO600 := n4_; have HO603 := n5_; have BK582 := n6_; have BK597 := n7_; have HB := n8_; clear n0_ n1_ n2_ n3_ n4_ n5_ n6_ n7_ n8_; (try clear hb); (try clear hb2); (try clear hk); (try clear hi); (try clear ho0); (try clear ho1)) | ((with_reducible refine gate_dst (N := 8) rfl ?_); refine box_event ?hg (N := 8) ?hd (cs := #[.slice none 0 0, .slice none 0 0]) (t := 27) ?hr ?_; (case hd => rfl); (case hg => rfl); (case hr => first | (go_simp; done) | (go_simp; rfl)); intro gb604 hg w30 hbox hb; have n0_ := Aside0.mk (Kd.R_below (by (with_reducible repeat (first | apply Kd.R_alloc | apply Kd.R_drewN | apply Kd.R_drew)); exact HO586.out) hb); have n1_ := Aside0.mk (Kd.R_below (by (with_reducible repeat (first | apply Kd.R_alloc | apply Kd.R_drewN | apply Kd.R_drew)); exact HO589.out) hb); have n2_ := Aside0.mk (Kd.R_below (by (with_reducible repeat (first | apply Kd.R_alloc | apply Kd.R_drewN | apply Kd.R_drew)); exact HO592.out) hb); have n3_ := Aside0.mk (Kd.R_below (by (with_reducible repeat (first | apply Kd.R_alloc | apply Kd.R_drewN | apply Kd.R_drew)); exact HO595.out) hb); have n4_ := Aside0.mk (Kd.R_below (by (with_reducible repeat (first | apply Kd.R_alloc | apply Kd.R_drewN | apply Kd.R_drew)); exact HO600.out) hb); have n5_ := Aside0.mk (Kd.R_below (by (with_reducible repeat (first | apply Kd.R_alloc | apply Kd.R_drewN | apply Kd.R_drew)); exact HO603.out) hb); have n6_ := Aside0.mk (blk_below (g := gb582) (o := .cells #[.slice A0_0 l0_0.length c0_0, .slice A0_1 l0_1.length c0_1] 24 (0, 0)) (by (with_reducible repeat (first | refine blk_drewN ?_ _ | refine blk_drew ?_ | refine blk_alloc ?_ _)); exact BK582.out) hb); have n7_ := Aside0.mk (blk_below (g := gb597) (o := .cells #[.slice Ao24 t590.length co24, .slice Ao27 t593.length co27] 27 (0, 0)) (by (with_reducible repeat (first | refine blk_drewN ?_ _ | refine blk_drew ?_ | refine blk_alloc ?_ _)); exact BK597.out) hb); have n8_ := Aside0.mk (below_step (by repeat (first | (with_reducible first | exact HB.out | apply below_alloc | apply pw_below_drewN | apply below_drew1 | refine below_set ?_ GE582.out | refine below_set ?_ GE597.out) | exact HB.out)) hb); have n9_ := Aside0.mk (hbox); have n10_ := Aside0.mk ((by rw [hg]; exact (below_size (by repeat (first | (with_reducible first | exact HB.out | apply below_alloc | apply pw_below_drewN | apply below_drew1 | refine below_set ?_ GE582.out | refine below_set ?_ GE597.out) | exact HB.out))) : w.heap.size ≤ gb604)); have n11_ := Aside0.mk ((by rw [hg]; exact (below_size (by repeat (first | (with_reducible first | exact HB.out | apply below_alloc | apply pw_below_drewN | apply below_drew1 | refine below_set ?_ GE582.out | refine below_set ?_ GE597.out) | exact HB.out))) : w.heap.size ≤ gb604)); have n12_ := Aside0.mk ((by rw [hg]; exact Nat.ne_of_lt (blk_lt (g := gb582) (o := .cells #[.slice A0_0 l0_0.length c0_0, .slice A0_1 l0_1.length c0_1] 24 (0, 0)) (by (with_reducible repeat (first | refine blk_drewN ?_ _ | refine blk_drew ?_ | refine blk_alloc ?_ _)); exact BK582.out)) : gb582 ≠ gb604)); have n13_ := Aside0.mk ((by rw [hg]; exact Nat.ne_of_gt (blk_lt (g := gb582) (o := .cells #[.slice A0_0 l0_0.length c0_0, .slice A0_1 l0_1.length c0_1] 24 (0, 0)) (by (with_reducible repeat (first | refine blk_drewN ?_ _ | refine blk_drew ?_ | refine blk_alloc ?_ _)); exact BK582.out)) : gb604 ≠ gb582)); have n14_ := Aside0.mk ((by rw [hg]; exact Nat.ne_of_lt (blk_lt (g := gb597) (o := .cells #[.slice Ao24 t590.length co24, .slice Ao27 t593.length co27] 27 (0, 0)) (by (with_reducible repeat (first | refine blk_drewN ?_ _ | refine blk_drew ?_ | refine blk_alloc ?_ _)); exact BK597.out)) : gb597 ≠ gb604)); have n15_ := Aside0.mk ((by rw [hg]; exact Nat.ne_of_gt (blk_lt (g := gb597) (o := .cells #[.slice Ao24 t590.length co24, .slice Ao27 t593.length co27] 27 (0, 0)) (by (with_reducible repeat (first | refine blk_drewN ?_ _ | refine blk_drew ?_ | refine blk_alloc ?_ _)); exact BK597.out)) : gb604 ≠ gb597)); clear HO586; clear HO589; clear HO592; clear HO595; clear HO600; clear HO603; clear BK582; clear BK597; clear HB; have HO586 := n0_; have HO589 := n1_; have HO592 := n2_; have HO595 := n3_; have HO600 := n4_; have HO603 := n5_; have BK582 := n6_; have BK597 := n7_; have HB := n8_; have BK604 := n9_; have GW604 := n10_; have GE604 := n11_; have NB582_604 := n12_; have NB604_582 := n13_; have NB597_604 := n14_; have NB604_597 := n15_; clear n0_ n1_ n2_ n3_ n4_ n5_ n6_ n7_ n8_ n9_ n10_ n11_ n12_ n13_ n14_ n15_; clear hb hbox hg; obtain ⟨Ao31, co31, eo31⟩ := Kd.R_slice HO600.out; subst eo31; have hnb32 := NB604_582.out; have hnc32 := NB582_604.out; have hnb33 := NB604_597.out; have hnc33 := NB597_604.out; have hcz34_0 : w30.cell? ⟨gb604, 0, none⟩ = some (.slice none 0 0) := (blk_cell BK604.out 0).trans rfl; have hcz34_1 : w30.cell? ⟨gb604, 1, none⟩ = some (.slice none 0 0) := (blk_cell BK604.out 1).trans rfl; have hfz34_0 := blk_frozen BK604.out 0; have hfz34_1 := blk_frozen BK604.out 1; obtain ⟨Ao35, co35, eo35⟩ := Kd.R_slice HO603.out; subst eo35) | ((with_reducible refine gate_callee (f := 24) rfl ?_); refine goesL_ (some 36) rfl rfl Try.func24 (by kernel_rfl) rfl #[.agg #[.slice Ao31 t598.length co31, .slice Ao35 t601.length co35], .string a1] rfl (by (try simp only [List.map_toArray, List.map_cons, List.map_nil]); first | done | rfl | (simp only [List.length_drop, List.length_take]; rfl)) ?_; (with_reducible refine (impl_RunWord.calls k _ _ t598 _ _ t601 a1 t605 t608 t611 _ ?side1 ?side2 ?side3 ?side4 A13.out).mono ?_); (case side1 => refine (Kd.R_reads' (e := 3) (base := w.heap.size) (ok := fun k_ => ((((some k_ ≠ (.slice Ao35 t601.length co35 : Value).ownBlock ∧ some k_ ≠ (.slice Ao20 t584.length co20 : Value).ownBlock) ∧ some k_ ≠ (.slice Ao21 t587.length co21 : Value).ownBlock) ∧ some k_ ≠ (.slice Ao24 t590.length co24 : Value).ownBlock) ∧ some k_ ≠ (.slice Ao27 t593.length co27 : Value).ownBlock)) (n := t598.length) (c := co31) ?_).2.2; exact (by (with_reducible repeat (first | apply Kd.R_alloc | apply Kd.R_drewN | apply Kd.R_drew)); exact (Kd.R_mono (Kd.R_far (p := ⟨gb604, 1, none⟩) (Kd.R_far (p := ⟨gb604, 0, none⟩) (Kd.R_types HO600.out BK604.out (by decide)) (fun _ hk => hk.2) (.slice Ao31 t598.length co31)) (fun _ hk => hk.2) (.slice Ao35 t601.length co35)) (fun _ h_ => h_.1)))); (case side2 => exact (Kd.R_reads' HO600.out).2.1); (case side3 => refine (Kd.R_reads' (e := 3) (base := w.heap.size) (ok := fun k_ => ((((some k_ ≠ (.slice Ao31 t598.length co31 : Value).ownBlock ∧ some k_ ≠ (.slice Ao20 t584.length co20 : Value).ownBlock) ∧ some k_ ≠ (.slice Ao21 t587.length co21 : Value).ownBlock) ∧ some k_ ≠ (.slice Ao24 t590.length co24 : Value).ownBlock) ∧ some k_ ≠ (.slice Ao27 t593.length co27 : Value).ownBlock)) (n := t601.length) (c := co35) ?_).2.2; exact (by (with_reducible repeat (first | apply Kd.R_alloc | apply Kd.R_drewN | apply Kd.R_drew)); exact (Kd.R_mono (Kd.R_far (p := ⟨gb604, 1, none⟩) (Kd.R_far (p := ⟨gb604, 0, none⟩) (Kd.R_types HO603.out BK604.out (by decide)) (fun _ hk => hk.2) (.slice Ao31 t598.length co31)) (fun _ hk => hk.2) (.slice Ao35 t601.length co35)) (fun _ h_ => h_.1)))); (case side4 => exact (Kd.R_reads' HO603.out).2.1); rintro e w36 ⟨v606, v609, rfl, ho0, ho1, hb⟩; refine ⟨_, rfl, ?_⟩; have n0_ := Aside0.mk (Kd.R_mono (Kd.R_told (Kd.R_told (Kd.R_old (by (with_reducible repeat (first | apply Kd.R_alloc | apply Kd.R_drewN | apply Kd.R_drew)); exact (Kd.R_mono (Kd.R_far (p := ⟨gb604, 1, none⟩) (Kd.R_far (p := ⟨gb604, 0, none⟩) (Kd.R_types HO586.out BK604.out (by decide)) (fun _ hk => hk.2) (.slice Ao31 t598.length co31)) (fun _ hk => hk.2) (.slice Ao35 t601.length co35)) (fun _ h_ => h_.1))) hb) (Kd.R_base ho0)) (Kd.R_base ho1)) (fun _ h_ => h_.1)); have n1_ := Aside0.mk (Kd.R_mono (Kd.R_told (Kd.R_told (Kd.R_old (by (with_reducible repeat (first | apply Kd.R_alloc | apply Kd.R_drewN | apply Kd.R_drew)); exact (Kd.R_mono (Kd.R_far (p := ⟨gb604, 1, none⟩) (Kd.R_far (p := ⟨gb604, 0, none⟩) (Kd.R_types HO589.out BK604.out (by decide)) (fun _ hk => hk.2) (.slice Ao31 t598.length co31)) (fun _ hk => hk.2) (.slice Ao35 t601.length co35)) (fun _ h_ => h_.1))) hb) (Kd.R_base ho0)) (Kd.R_base ho1)) (fun _ h_ => h_.1)); have n2_ := Aside0.mk (Kd.R_mono (Kd.R_told (Kd.R_told (Kd.R_old (by (with_reducible repeat (first | apply Kd.R_alloc | apply Kd.R_drewN | apply Kd.R_drew)); exact (Kd.R_mono (Kd.R_far (p := ⟨gb604, 1, none⟩) (Kd.R_far (p := ⟨gb604, 0, none⟩) (Kd.R_types HO592.out BK604.out (by decide)) (fun _ hk => hk.2) (.slice Ao31 t598.length co31)) (fun _ hk => hk.2) (.slice Ao35 t601.length co35)) (fun _ h_ => h_.1))) hb) (Kd.R_base ho0)) (Kd.R_base ho1)) (fun _ h_ => h_.1)); have n3_ := Aside0.mk (Kd.R_mono (Kd.R_told (Kd.R_told (Kd.R_old (by (with_reducible repeat (first | apply Kd.R_alloc | apply Kd.R_drewN | apply Kd.R_drew)); exact (Kd.R_mono (Kd.R_far (p := ⟨gb604, 1, none⟩) (Kd.R_far (p := ⟨gb604, 0, none⟩) (Kd.R_types HO595.out BK604.out (by decide)) (fun _ hk => hk.2) (.slice Ao31 t598.length co31)) (fun _ hk => hk.2) (.slice Ao35 t601.length co35)) (fun _ h_ => h_.1))) hb) (Kd.R_base ho0)) (Kd.R_base ho1)) (fun _ h_ => h_.1)); have n4_ := Aside0.mk (Kd.R_mono (Kd.R_told (Kd.R_told (Kd.R_old (by (with_reducible repeat (first | apply Kd.R_alloc | apply Kd.R_drewN | apply Kd.R_drew)); exact (Kd.R_mono (Kd.R_far (p := ⟨gb604, 1, none⟩) (Kd.R_far (p := ⟨gb604, 0, none⟩) (Kd.R_types HO600.out BK604.out (by decide)) (fun _ hk => hk.2) (.slice Ao31 t598.length co31)) (fun _ hk => hk.2) (.slice Ao35 t601.length co35)) (fun _ h_ => h_.1))) hb) (Kd.R_base ho0)) (Kd.R_base ho1)) (fun _ h_ => h_.1)); have n5_ := Aside0.mk (Kd.R_mono (Kd.R_told (Kd.R_told (Kd.R_old (by (with_reducible repeat (first | apply Kd.R_alloc | apply Kd.R_drewN | apply Kd.R_drew)); exact (Kd.R_mono (Kd.R_far (p := ⟨gb604, 1, none⟩) (Kd.R_far (p := ⟨gb604, 0, none⟩) (Kd.R_types HO603.out BK604.out (by decide)) (fun _ hk => hk.2) (.slice Ao31 t598.length co31)) (fun _ hk => hk.2) (.slice Ao35 t601.length co35)) (fun _ h_ => h_.1))) hb) (Kd.R_base ho0)) (Kd.R_base ho1)) (fun _ h_ => h_.1)); have n6_ := Aside0.mk (Kd.R_lower (Kd.R_new' (Kd.R_new' (Kd.R_new' (Kd.R_new' (Kd.R_new' (Kd.R_new' ho0 (Kd.R_lt (by (with_reducible repeat (first | apply Kd.R_alloc | apply Kd.R_drewN | apply Kd.R_drew)); exact (Kd.R_mono (Kd.R_far (p := ⟨gb604, 1, none⟩) (Kd.R_far (p := ⟨gb604, 0, none⟩) (Kd.R_types HO586.out BK604.out (by decide)) (fun _ hk => hk.2) (.slice Ao31 t598.length co31)) (fun _ hk => hk.2) (.slice Ao35 t601.length co35)) (fun _ h_ => h_.1))))) (Kd.R_lt (by (with_reducible repeat (first | apply Kd.R_alloc | apply Kd.R_drewN | apply Kd.R_drew)); exact (Kd.R_mono (Kd.R_far (p := ⟨gb604, 1, none⟩) (Kd.R_far (p := ⟨gb604, 0, none⟩) (Kd.R_types HO589.out BK604.out (by decide)) (fun _ hk => hk.2) (.slice Ao31 t598.length co31)) (fun _ hk => hk.2) (.slice Ao35 t601.length co35)) (fun _ h_ => h_.1))))) (Kd.R_lt (by (with_reducible repeat (first | apply Kd.R_alloc | apply Kd.R_drewN | apply Kd.R_drew)); exact (Kd.R_mono (Kd.R_far (p := ⟨gb604, 1, none⟩) (Kd.R_far (p := ⟨gb604, 0, none⟩) (Kd.R_types HO592.out BK604.out (by decide)) (fun _ hk => hk.2) (.slice Ao31 t598.length co31)) (fun _ hk => hk.2) (.slice Ao35 t601.length co35)) (fun _ h_ => h_.1))))) (Kd.R_lt (by (with_reducible repeat (first | apply Kd.R_alloc | apply Kd.R_drewN | apply Kd.R_drew)); exact (Kd.R_mono (Kd.R_far (p := ⟨gb604, 1, none⟩) (Kd.R_far (p := ⟨gb604, 0, none⟩) (Kd.R_types HO595.out BK604.out (by decide)) (fun _ hk => hk.2) (.slice Ao31 t598.length co31)) (fun _ hk => hk.2) (.slice Ao35 t601.length co35)) (fun _ h_ => h_.1))))) (Kd.R_lt (by (with_reducible repeat (first | apply Kd.R_alloc | apply Kd.R_drewN | apply Kd.R_drew)); exact (Kd.R_mono (Kd.R_far (p := ⟨gb604, 1, none⟩) (Kd.R_far (p := ⟨gb604, 0, none⟩) (Kd.R_types HO600.out BK604.out (by decide)) (fun _ hk => hk.2) (.slice Ao31 t598.length co31)) (fun _ hk => hk.2) (.slice Ao35 t601.length co35)) (fun _ h_ => h_.1))))) (Kd.R_lt (by (with_reducible repeat (first | apply Kd.R_alloc | apply Kd.R_drewN | apply Kd.R_drew)); exact (Kd.R_mono (Kd.R_far (p := ⟨gb604, 1, none⟩) (Kd.R_far (p := ⟨gb604, 0, none⟩) (Kd.R_types HO603.out BK604.out (by decide)) (fun _ hk => hk.2) (.slice Ao31 t598.length co31)) (fun _ hk => hk.2) (.slice Ao35 t601.length co35)) (fun _ h_ => h_.1))))) (below_size (by repeat (first | (with_reducible first | exact HB.out | apply below_alloc | apply pw_below_drewN | apply below_drew1 | refine below_set ?_ GE582.out | refine below_set ?_ GE597.out | refine below_set ?_ GE604.out) | exact HB.out)))); have n7_ := Aside0.mk (Kd.R_lower (Kd.R_new' (Kd.R_new' (Kd.R_new' (Kd.R_new' (Kd.R_new' (Kd.R_new' ho1 (Kd.R_lt (by (with_reducible repeat (first | apply Kd.R_alloc | apply Kd.R_drewN | apply Kd.R_drew)); exact (Kd.R_mono (Kd.R_far (p := ⟨gb604, 1, none⟩) (Kd.R_far (p := ⟨gb604, 0, none⟩) (Kd.R_types HO586.out BK604.out (by decide)) (fun _ hk => hk.2) (.slice Ao31 t598.length co31)) (fun _ hk => hk.2) (.slice Ao35 t601.length co35)) (fun _ h_ => h_.1))))) (Kd.R_lt (by (with_reducible repeat (first | apply Kd.R_alloc | apply Kd.R_drewN | apply Kd.R_drew)); exact (Kd.R_mono (Kd.R_far (p := ⟨gb604, 1, none⟩) (Kd.R_far (p := ⟨gb604, 0, none⟩) (Kd.R_types HO589.out BK604.out (by decide)) (fun _ hk => hk.2) (.slice Ao31 t598.length co31)) (fun _ hk => hk.2) (.slice Ao35 t601.length co35)) (fun _ h_ => h_.1))))) (Kd.R_lt (by (with_reducible repeat (first | apply Kd.R_alloc | apply Kd.R_drewN | apply Kd.R_drew)); exact (Kd.R_mono (Kd.R_far (p := ⟨gb604, 1, none⟩) (Kd.R_far (p := ⟨gb604, 0, none⟩) (Kd.R_types HO592.out BK604.out (by decide)) (fun _ hk => hk.2) (.slice Ao31 t598.length co31)) (fun _ hk => hk.2) (.slice Ao35 t601.length co35)) (fun _ h_ => h_.1))))) (Kd.R_lt (by (with_reducible repeat (first | apply Kd.R_alloc | apply Kd.R_drewN | apply Kd.R_drew)); exact (Kd.R_mono (Kd.R_far (p := ⟨gb604, 1, none⟩) (Kd.R_far (p := ⟨gb604, 0, none⟩) (Kd.R_types HO595.out BK604.out (by decide)) (fun _ hk => hk.2) (.slice Ao31 t598.length co31)) (fun _ hk => hk.2) (.slice Ao35 t601.length co35)) (fun _ h_ => h_.1))))) (Kd.R_lt (by (with_reducible repeat (first | apply Kd.R_alloc | apply Kd.R_drewN | apply Kd.R_drew)); exact (Kd.R_mono (Kd.R_far (p := ⟨gb604, 1, none⟩) (Kd.R_far (p := ⟨gb604, 0, none⟩) (Kd.R_types HO600.out BK604.out (by decide)) (fun _ hk => hk.2) (.slice Ao31 t598.length co31)) (fun _ hk => hk.2) (.slice Ao35 t601.length co35)) (fun _ h_ => h_.1))))) (Kd.R_lt (by (with_reducible repeat (first | apply Kd.R_alloc | apply Kd.R_drewN | apply Kd.R_drew)); exact (Kd.R_mono (Kd.R_far (p := ⟨gb604, 1, none⟩) (Kd.R_far (p := ⟨gb604, 0, none⟩) (Kd.R_types HO603.out BK604.out (by decide)) (fun _ hk => hk.2) (.slice Ao31 t598.length co31)) (fun _ hk => hk.2) (.slice Ao35 t601.length co35)) (fun _ h_ => h_.1))))) (below_size (by repeat (first | (with_reducible first | exact HB.out | apply below_alloc | apply pw_below_drewN | apply below_drew1 | refine below_set ?_ GE582.out | refine below_set ?_ GE597.out | refine below_set ?_ GE604.out) | exact HB.out)))); have n8_ := Aside0.mk (blk_below (g := gb582) (o := .cells #[.slice A0_0 l0_0.length c0_0, .slice A0_1 l0_1.length c0_1] 24 (0, 0)) (by (with_reducible repeat (first | refine blk_drewN ?_ _ | refine blk_drew ?_ | refine blk_alloc ?_ _)); refine blk_far ?_ NB582_604.out _; (with_reducible repeat (first | refine blk_drewN ?_ _ | refine blk_drew ?_ | refine blk_alloc ?_ _)); refine blk_far ?_ NB582_604.out _; (with_reducible repeat (first | refine blk_drewN ?_ _ | refine blk_drew ?_ | refine blk_alloc ?_ _)); exact BK582.out) hb); have n9_ := Aside0.mk (blk_below (g := gb597) (o := .cells #[.slice Ao24 t590.length co24, .slice Ao27 t593.length co27] 27 (0, 0)) (by (with_reducible repeat (first | refine blk_drewN ?_ _ | refine blk_drew ?_ | refine blk_alloc ?_ _)); refine blk_far ?_ NB597_604.out _; (with_reducible repeat (first | refine blk_drewN ?_ _ | refine blk_drew ?_ | refine blk_alloc ?_ _)); refine blk_far ?_ NB597_604.out _; (with_reducible repeat (first | refine blk_drewN ?_ _ | refine blk_drew ?_ | refine blk_alloc ?_ _)); exact BK597.out) hb); have n10_ := Aside0.mk (blk_below (g := gb604) (o := .cells #[.slice Ao31 t598.length co31, .slice Ao35 t601.length co35] 27 (0, 0)) (by (with_reducible repeat (first | refine blk_drewN ?_ _ | refine blk_drew ?_ | refine blk_alloc ?_ _)); refine blk_put (cs := #[.slice Ao31 t598.length co31, .slice none 0 0]) ?_ 1 _ rfl; (with_reducible repeat (first | refine blk_drewN ?_ _ | refine blk_drew ?_ | refine blk_alloc ?_ _)); refine blk_put (cs := #[.slice none 0 0, .slice none 0 0]) ?_ 0 _ rfl; (with_reducible repeat (first | refine blk_drewN ?_ _ | refine blk_drew ?_ | refine blk_alloc ?_ _)); exact BK604.out) hb); have n11_ := Aside0.mk (below_step (by repeat (first | (with_reducible first | exact HB.out | apply below_alloc | apply pw_below_drewN | apply below_drew1 | refine below_set ?_ GE582.out | refine below_set ?_ GE597.out | refine below_set ?_ GE604.out) | exact HB.out)) hb); clear HO586; clear HO589; clear HO592; clear HO595; clear HO600; clear HO603; clear BK582; clear BK597; clear BK604; clear HB; have HO586 := n0_; have HO589 := n1_; have HO592 := n2_; have HO595 := n3_; have HO600 := n4_; have HO603 := n5_; have HO607 := n6_; have HO610 := n7_; have BK582 := n8_; have BK597 := n9_; have BK604 := n10_; have HB := n11_; clear n0_ n1_ n2_ n3_ n4_ n5_ n6_ n7_ n8_ n9_ n10_ n11_; (try clear hb); (try clear hb2); (try clear hk); (try clear hi); (try clear ho0); (try clear ho1)) | ((with_reducible refine gate_dst (N := 9) rfl ?_); refine box_event ?hg (N := 9) ?hd (cs := #[.slice none 0 0, .slice none 0 0]) (t := 27) ?hr ?_; (case hd => rfl); (case hg => rfl); (case hr => first | (go_simp; done) | (go_simp; rfl)); intro gb612 hg w37 hbox hb; have n0_ := Aside0.mk (Kd.R_below (by (with_reducible repeat (first | apply Kd.R_alloc | apply Kd.R_drewN | apply Kd.R_drew)); exact HO586.out) hb); have n1_ := Aside0.mk (Kd.R_below (by (with_reducible repeat (first | apply Kd.R_alloc | apply Kd.R_drewN | apply Kd.R_drew)); exact HO589.out) hb); have n2_ := Aside0.mk (Kd.R_below (by (with_reducible repeat (first | apply Kd.R_alloc | apply Kd.R_drewN | apply Kd.R_drew)); exact HO592.out) hb); have n3_ := Aside0.mk (Kd.R_below (by (with_reducible repeat (first | apply Kd.R_alloc | apply Kd.R_drewN | apply Kd.R_drew)); exact HO595.out) hb); have n4_ := Aside0.mk (Kd.R_below (by (with_reducible repeat (first | apply Kd.R_alloc | apply Kd.R_drewN | apply Kd.R_drew)); exact HO600.out) hb); have n5_ := Aside0.mk (Kd.R_below (by (with_reducible repeat (first | apply Kd.R_alloc | apply Kd.R_drewN | apply Kd.R_drew)); exact HO603.out) hb); have n6_ := Aside0.mk (Kd.R_below (by (with_reducible repeat (first | apply Kd.R_alloc | apply Kd.R_drewN | apply Kd.R_drew)); exact HO607.out) hb); have n7_ := Aside0.mk (Kd.R_below (by (with_reducible repeat (first | apply Kd.R_alloc | apply Kd.R_drewN | apply Kd.R_drew)); exact HO610.out) hb); have n8_ := Aside0.mk (blk_below (g := gb582) (o := .cells #[.slice A0_0 l0_0.length c0_0, .slice A0_1 l0_1.length c0_1] 24 (0, 0)) (by (with_reducible repeat (first | refine blk_drewN ?_ _ | refine blk_drew ?_ | refine blk_alloc ?_ _)); exact BK582.out) hb); have n9_ := Aside0.mk (blk_below (g := gb597) (o := .cells #[.slice Ao24 t590.length co24, .slice Ao27 t593.length co27] 27 (0, 0)) (by (with_reducible repeat (first | refine blk_drewN ?_ _ | refine blk_drew ?_ | refine blk_alloc ?_ _)); exact BK597.out) hb); have n10_ := Aside0.mk (blk_below (g := gb604) (o := .cells #[.slice Ao31 t598.length co31, .slice Ao35 t601.length co35] 27 (0, 0)) (by (with_reducible repeat (first | refine blk_drewN ?_ _ | refine blk_drew ?_ | refine blk_alloc ?_ _)); exact BK604.out) hb); have n11_ := Aside0.mk (below_step (by repeat (first | (with_reducible first | exact HB.out | apply below_alloc | apply pw_below_drewN | apply below_drew1 | refine below_set ?_ GE582.out | refine below_set ?_ GE597.out | refine below_set ?_ GE604.out) | exact HB.out)) hb); have n12_ := Aside0.mk (hbox); have n13_ := Aside0.mk ((by rw [hg]; exact (below_size (by repeat (first | (with_reducible first | exact HB.out | apply below_alloc | apply pw_below_drewN | apply below_drew1 | refine below_set ?_ GE582.out | refine below_set ?_ GE597.out | refine below_set ?_ GE604.out) | exact HB.out))) : w.heap.size ≤ gb612)); have n14_ := Aside0.mk ((by rw [hg]; exact (below_size (by repeat (first | (with_reducible first | exact HB.out | apply below_alloc | apply pw_below_drewN | apply below_drew1 | refine below_set ?_ GE582.out | refine below_set ?_ GE597.out | refine below_set ?_ GE604.out) | exact HB.out))) : w.heap.size ≤ gb612)); have n15_ := Aside0.mk ((by rw [hg]; exact Nat.ne_of_lt (blk_lt (g := gb582) (o := .cells #[.slice A0_0 l0_0.length c0_0, .slice A0_1 l0_1.length c0_1] 24 (0, 0)) (by (with_reducible repeat (first | refine blk_drewN ?_ _ | refine blk_drew ?_ | refine blk_alloc ?_ _)); exact BK582.out)) : gb582 ≠ gb612)); have n16_ := Aside0.mk ((by rw [hg]; exact Nat.ne_of_gt (blk_lt (g := gb582) (o := .cells #[.slice A0_0 l0_0.length c0_0, .slice A0_1 l0_1.length c0_1] 24 (0, 0)) (by (with_reducible repeat (first | refine blk_drewN ?_ _ | refine blk_drew ?_ | refine blk_alloc ?_ _)); exact BK582.out)) : gb612 ≠ gb582)); have n17_ := Aside0.mk ((by rw [hg]; exact Nat.ne_of_lt (blk_lt (g := gb597) (o := .cells #[.slice Ao24 t590.length co24, .slice Ao27 t593.length co27] 27 (0, 0)) (by (with_reducible repeat (first | refine blk_drewN ?_ _ | refine blk_drew ?_ | refine blk_alloc ?_ _)); exact BK597.out)) : gb597 ≠ gb612)); have n18_ := Aside0.mk ((by rw [hg]; exact Nat.ne_of_gt (blk_lt (g := gb597) (o := .cells #[.slice Ao24 t590.length co24, .slice Ao27 t593.length co27] 27 (0, 0)) (by (with_reducible repeat (first | refine blk_drewN ?_ _ | refine blk_drew ?_ | refine blk_alloc ?_ _)); exact BK597.out)) : gb612 ≠ gb597)); have n19_ := Aside0.mk ((by rw [hg]; exact Nat.ne_of_lt (blk_lt (g := gb604) (o := .cells #[.slice Ao31 t598.length co31, .slice Ao35 t601.length co35] 27 (0, 0)) (by (with_reducible repeat (first | refine blk_drewN ?_ _ | refine blk_drew ?_ | refine blk_alloc ?_ _)); exact BK604.out)) : gb604 ≠ gb612)); have n20_ := Aside0.mk ((by rw [hg]; exact Nat.ne_of_gt (blk_lt (g := gb604) (o := .cells #[.slice Ao31 t598.length co31, .slice Ao35 t601.length co35] 27 (0, 0)) (by (with_reducible repeat (first | refine blk_drewN ?_ _ | refine blk_drew ?_ | refine blk_alloc ?_ _)); exact BK604.out)) : gb612 ≠ gb604)); clear HO586; clear HO589; clear HO592; clear HO595; clear HO600; clear HO603; clear HO607; clear HO610; clear BK582; clear BK597; clear BK604; clear HB; have HO586 := n0_; have HO589 := n1_; have HO592 := n2_; have HO595 := n3_; have HO600 := n4_; have HO603 := n5_; have HO607 := n6_; have HO610 := n7_; have BK582 := n8_; have BK597 := n9_; have BK604 := n10_; have HB := n11_; have BK612 := n12_; have GW612 := n13_; have GE612 := n14_; have NB582_612 := n15_; have NB612_582 := n16_; have NB597_612 := n17_; have NB612_597 := n18_; have NB604_612 := n19_; have NB612_604 := n20_; clear n0_ n1_ n2_ n3_ n4_ n5_ n6_ n7_ n8_ n9_ n10_ n11_ n12_ n13_ n14_ n15_ n16_ n17_ n18_ n19_ n20_; clear hb hbox hg; obtain ⟨Ao38, co38, eo38⟩ := Kd.R_slice HO607.out; subst eo38; have hnb39 := NB612_582.out; have hnc39 := NB582_612.out; have hnb40 := NB612_597.out; have hnc40 := NB597_612.out; have hnb41 := NB612_604.out; have hnc41 := NB604_612.out; have hcz42_0 : w37.cell? ⟨gb612, 0, none⟩ = some (.slice none 0 0) := (blk_cell BK612.out 0).trans rfl; have hcz42_1 : w37.cell? ⟨gb612, 1, none⟩ = some (.slice none 0 0) := (blk_cell BK612.out 1).trans rfl; have hfz42_0 := blk_frozen BK612.out 0; have hfz42_1 := blk_frozen BK612.out 1; obtain ⟨Ao43, co43, eo43⟩ := Kd.R_slice HO610.out; subst eo43))
   (try simp only [Act.put, List.setIfInBounds_toArray, List.set_cons_zero, List.set_cons_succ])
   go_cut [47] (fun v47 wc => ∃ (kq : Nat) (x47_13 : Bool), v47 = .bool x47_13 ∧ Aside0 (laws_FnExactRunWord.j0 kq a1 t596 t611 x47_13 l0_0 l0_1 t590 t593 t598 t601 t605 t608 = some true) ∧ Aside0 (kq ≤ k) ∧ Aside0 (Kd.R (Kd.int .i64) 3 wc w.heap.size (fun k_ => some k_ ≠ ((.slice Ao27 t593.length co27) : Value).ownBlock ∧ some k_ ≠ ((.slice Ao31 t598.length co31) : Value).ownBlock ∧ some k_ ≠ ((.slice Ao35 t601.length co35) : Value).ownBlock ∧ some k_ ≠ ((.slice Ao38 t605.length co38) : Value).ownBlock ∧ some k_ ≠ ((.slice Ao43 t608.length co43) : Value).ownBlock) (.slice Ao24 t590.length co24) t590) ∧ Aside0 (Kd.R (Kd.int .i64) 3 wc w.heap.size (fun k_ => some k_ ≠ ((.slice Ao24 t590.length co24) : Value).ownBlock ∧ some k_ ≠ ((.slice Ao31 t598.length co31) : Value).ownBlock ∧ some k_ ≠ ((.slice Ao35 t601.length co35) : Value).ownBlock ∧ some k_ ≠ ((.slice Ao38 t605.length co38) : Value).ownBlock ∧ some k_ ≠ ((.slice Ao43 t608.length co43) : Value).ownBlock) (.slice Ao27 t593.length co27) t593) ∧ Aside0 (Kd.R (Kd.int .i64) 3 wc w.heap.size (fun k_ => some k_ ≠ ((.slice Ao24 t590.length co24) : Value).ownBlock ∧ some k_ ≠ ((.slice Ao27 t593.length co27) : Value).ownBlock ∧ some k_ ≠ ((.slice Ao35 t601.length co35) : Value).ownBlock ∧ some k_ ≠ ((.slice Ao38 t605.length co38) : Value).ownBlock ∧ some k_ ≠ ((.slice Ao43 t608.length co43) : Value).ownBlock) (.slice Ao31 t598.length co31) t598) ∧ Aside0 (Kd.R (Kd.int .i64) 3 wc w.heap.size (fun k_ => some k_ ≠ ((.slice Ao24 t590.length co24) : Value).ownBlock ∧ some k_ ≠ ((.slice Ao27 t593.length co27) : Value).ownBlock ∧ some k_ ≠ ((.slice Ao31 t598.length co31) : Value).ownBlock ∧ some k_ ≠ ((.slice Ao38 t605.length co38) : Value).ownBlock ∧ some k_ ≠ ((.slice Ao43 t608.length co43) : Value).ownBlock) (.slice Ao35 t601.length co35) t601) ∧ Aside0 (Kd.R (Kd.int .i64) 3 wc w.heap.size (fun k_ => some k_ ≠ ((.slice Ao24 t590.length co24) : Value).ownBlock ∧ some k_ ≠ ((.slice Ao27 t593.length co27) : Value).ownBlock ∧ some k_ ≠ ((.slice Ao31 t598.length co31) : Value).ownBlock ∧ some k_ ≠ ((.slice Ao35 t601.length co35) : Value).ownBlock ∧ some k_ ≠ ((.slice Ao43 t608.length co43) : Value).ownBlock) (.slice Ao38 t605.length co38) t605) ∧ Aside0 (Kd.R (Kd.int .i64) 3 wc w.heap.size (fun k_ => some k_ ≠ ((.slice Ao24 t590.length co24) : Value).ownBlock ∧ some k_ ≠ ((.slice Ao27 t593.length co27) : Value).ownBlock ∧ some k_ ≠ ((.slice Ao31 t598.length co31) : Value).ownBlock ∧ some k_ ≠ ((.slice Ao35 t601.length co35) : Value).ownBlock ∧ some k_ ≠ ((.slice Ao38 t605.length co38) : Value).ownBlock) (.slice Ao43 t608.length co43) t608) ∧ Aside0 (wc.heap[gb582]? = some (.cells #[(.slice A0_0 l0_0.length c0_0), (.slice A0_1 l0_1.length c0_1)] 24 (0, 0))) ∧ Aside0 (wc.heap[gb597]? = some (.cells #[(.slice Ao24 t590.length co24), (.slice Ao27 t593.length co27)] 27 (0, 0))) ∧ Aside0 (wc.heap[gb604]? = some (.cells #[(.slice Ao31 t598.length co31), (.slice Ao35 t601.length co35)] 27 (0, 0))) ∧ Aside0 (wc.heap[gb612]? = some (.cells #[(.slice Ao38 t605.length co38), (.slice Ao43 t608.length co43)] 27 (0, 0))) ∧ Aside0 (Below w.heap.size w wc))
   case first =>
    have H := HC14.out
    clear HC14
    replace H := Option.bind_eq_some_iff.mp H
    obtain ⟨t613, A440, H⟩ := H
    replace H : (if t613 = true then (laws_FnExactRunWord.j0 k a1 t596 t611 (t611 != t596) l0_0 l0_1 t590 t593 t598 t601 t605 t608) else (laws_FnExactRunWord.j0 k a1 t596 t611 true l0_0 l0_1 t590 t593 t598 t601 t605 t608)) = some true := H
    have A44 := Aside0.mk A440
    clear A440
    by_cases c45 : t613 = true
    ·subst c45
     have H1 : (laws_FnExactRunWord.j0 k a1 t596 t611 (t611 != t596) l0_0 l0_1 t590 t593 t598 t601 t605 t608) = some true := by rw [if_pos rfl] at H; exact H
     clear H
     have H := H1
     clear H1
     have H' := Aside0.mk H
     clear H
     have hnb46 := NB612_582.out
     have hnc46 := NB582_612.out
     have hnb47 := NB612_597.out
     have hnc47 := NB597_612.out
     have hnb48 := NB612_604.out
     have hnc48 := NB604_612.out
     have hcz49_0 : w37.cell? ⟨gb612, 0, none⟩ = some (.slice none 0 0) := (blk_cell BK612.out 0).trans rfl
     have hcz49_1 : w37.cell? ⟨gb612, 1, none⟩ = some (.slice none 0 0) := (blk_cell BK612.out 1).trans rfl
     have hfz49_0 := blk_frozen BK612.out 0
     have hfz49_1 := blk_frozen BK612.out 1
     have hnb50 := NB597_582.out
     have hnc50 := NB582_597.out
     have hnb51 := NB597_604.out
     have hnc51 := NB604_597.out
     have hcz52_0 : w37.cell? ⟨gb597, 0, none⟩ = some (.slice Ao24 t590.length co24) := (blk_cell BK597.out 0).trans rfl
     have hcz52_1 : w37.cell? ⟨gb597, 1, none⟩ = some (.slice Ao27 t593.length co27) := (blk_cell BK597.out 1).trans rfl
     have hfz52_0 := blk_frozen BK597.out 0
     have hfz52_1 := blk_frozen BK597.out 1
     go_wp2_with (first | ((with_reducible refine gate_callee (f := 16) rfl ?_); refine goesL_ (some 41) rfl rfl Try.func16 (by kernel_rfl) rfl #[.agg #[.slice Ao38 t605.length co38, .slice Ao43 t608.length co43], .agg #[.slice Ao24 t590.length co24, .slice Ao27 t593.length co27]] rfl (by (try simp only [List.map_toArray, List.map_cons, List.map_nil]); first | done | rfl | (simp only [List.length_drop, List.length_take]; rfl)) ?_; (with_reducible refine (laws_eqSurface.calls k _ _ t605 _ _ t608 _ _ t590 _ _ t593 true _ ?side1 ?side2 ?side3 ?side4 ?side5 ?side6 ?side7 ?side8 A44.out).mono ?_); (case side1 => refine (Kd.R_reads' (e := 3) (base := w.heap.size) (ok := fun k_ => ((((((some k_ ≠ (.slice Ao43 t608.length co43 : Value).ownBlock ∧ some k_ ≠ (.slice Ao20 t584.length co20 : Value).ownBlock) ∧ some k_ ≠ (.slice Ao21 t587.length co21 : Value).ownBlock) ∧ some k_ ≠ (.slice Ao24 t590.length co24 : Value).ownBlock) ∧ some k_ ≠ (.slice Ao27 t593.length co27 : Value).ownBlock) ∧ some k_ ≠ (.slice Ao31 t598.length co31 : Value).ownBlock) ∧ some k_ ≠ (.slice Ao35 t601.length co35 : Value).ownBlock)) (n := t605.length) (c := co38) ?_).2.2; exact (by (with_reducible repeat (first | apply Kd.R_alloc | apply Kd.R_drewN | apply Kd.R_drew)); exact (Kd.R_mono (Kd.R_far (p := ⟨gb612, 1, none⟩) (Kd.R_far (p := ⟨gb612, 0, none⟩) (Kd.R_types HO607.out BK612.out (by decide)) (fun _ hk => hk.2) (.slice Ao38 t605.length co38)) (fun _ hk => hk.2) (.slice Ao43 t608.length co43)) (fun _ h_ => h_.1)))); (case side2 => exact (Kd.R_reads' HO607.out).2.1); (case side3 => refine (Kd.R_reads' (e := 3) (base := w.heap.size) (ok := fun k_ => ((((((some k_ ≠ (.slice Ao38 t605.length co38 : Value).ownBlock ∧ some k_ ≠ (.slice Ao20 t584.length co20 : Value).ownBlock) ∧ some k_ ≠ (.slice Ao21 t587.length co21 : Value).ownBlock) ∧ some k_ ≠ (.slice Ao24 t590.length co24 : Value).ownBlock) ∧ some k_ ≠ (.slice Ao27 t593.length co27 : Value).ownBlock) ∧ some k_ ≠ (.slice Ao31 t598.length co31 : Value).ownBlock) ∧ some k_ ≠ (.slice Ao35 t601.length co35 : Value).ownBlock)) (n := t608.length) (c := co43) ?_).2.2; exact (by (with_reducible repeat (first | apply Kd.R_alloc | apply Kd.R_drewN | apply Kd.R_drew)); exact (Kd.R_mono (Kd.R_far (p := ⟨gb612, 1, none⟩) (Kd.R_far (p := ⟨gb612, 0, none⟩) (Kd.R_types HO610.out BK612.out (by decide)) (fun _ hk => hk.2) (.slice Ao38 t605.length co38)) (fun _ hk => hk.2) (.slice Ao43 t608.length co43)) (fun _ h_ => h_.1)))); (case side4 => exact (Kd.R_reads' HO610.out).2.1); (case side5 => refine (Kd.R_reads' (e := 3) (base := w.heap.size) (ok := fun k_ => ((((((some k_ ≠ (.slice Ao27 t593.length co27 : Value).ownBlock ∧ some k_ ≠ (.slice Ao20 t584.length co20 : Value).ownBlock) ∧ some k_ ≠ (.slice Ao21 t587.length co21 : Value).ownBlock) ∧ some k_ ≠ (.slice Ao31 t598.length co31 : Value).ownBlock) ∧ some k_ ≠ (.slice Ao35 t601.length co35 : Value).ownBlock) ∧ some k_ ≠ (.slice Ao38 t605.length co38 : Value).ownBlock) ∧ some k_ ≠ (.slice Ao43 t608.length co43 : Value).ownBlock)) (n := t590.length) (c := co24) ?_).2.2; exact (by (with_reducible repeat (first | apply Kd.R_alloc | apply Kd.R_drewN | apply Kd.R_drew)); exact (Kd.R_mono (Kd.R_far (p := ⟨gb612, 1, none⟩) (Kd.R_far (p := ⟨gb612, 0, none⟩) (Kd.R_types HO592.out BK612.out (by decide)) (fun _ hk => hk.2) (.slice Ao38 t605.length co38)) (fun _ hk => hk.2) (.slice Ao43 t608.length co43)) (fun _ h_ => h_.1)))); (case side6 => exact (Kd.R_reads' HO592.out).2.1); (case side7 => refine (Kd.R_reads' (e := 3) (base := w.heap.size) (ok := fun k_ => ((((((some k_ ≠ (.slice Ao24 t590.length co24 : Value).ownBlock ∧ some k_ ≠ (.slice Ao20 t584.length co20 : Value).ownBlock) ∧ some k_ ≠ (.slice Ao21 t587.length co21 : Value).ownBlock) ∧ some k_ ≠ (.slice Ao31 t598.length co31 : Value).ownBlock) ∧ some k_ ≠ (.slice Ao35 t601.length co35 : Value).ownBlock) ∧ some k_ ≠ (.slice Ao38 t605.length co38 : Value).ownBlock) ∧ some k_ ≠ (.slice Ao43 t608.length co43 : Value).ownBlock)) (n := t593.length) (c := co27) ?_).2.2; exact (by (with_reducible repeat (first | apply Kd.R_alloc | apply Kd.R_drewN | apply Kd.R_drew)); exact (Kd.R_mono (Kd.R_far (p := ⟨gb612, 1, none⟩) (Kd.R_far (p := ⟨gb612, 0, none⟩) (Kd.R_types HO595.out BK612.out (by decide)) (fun _ hk => hk.2) (.slice Ao38 t605.length co38)) (fun _ hk => hk.2) (.slice Ao43 t608.length co43)) (fun _ h_ => h_.1)))); (case side8 => exact (Kd.R_reads' HO595.out).2.1); rintro e w53 ⟨rfl, hb⟩; refine ⟨_, rfl, ?_⟩; have n0_ := Aside0.mk (Kd.R_below (by (with_reducible repeat (first | apply Kd.R_alloc | apply Kd.R_drewN | apply Kd.R_drew)); exact (Kd.R_mono (Kd.R_far (p := ⟨gb612, 1, none⟩) (Kd.R_far (p := ⟨gb612, 0, none⟩) (Kd.R_types HO586.out BK612.out (by decide)) (fun _ hk => hk.2) (.slice Ao38 t605.length co38)) (fun _ hk => hk.2) (.slice Ao43 t608.length co43)) (fun _ h_ => h_.1))) hb); have n1_ := Aside0.mk (Kd.R_below (by (with_reducible repeat (first | apply Kd.R_alloc | apply Kd.R_drewN | apply Kd.R_drew)); exact (Kd.R_mono (Kd.R_far (p := ⟨gb612, 1, none⟩) (Kd.R_far (p := ⟨gb612, 0, none⟩) (Kd.R_types HO589.out BK612.out (by decide)) (fun _ hk => hk.2) (.slice Ao38 t605.length co38)) (fun _ hk => hk.2) (.slice Ao43 t608.length co43)) (fun _ h_ => h_.1))) hb); have n2_ := Aside0.mk (Kd.R_below (by (with_reducible repeat (first | apply Kd.R_alloc | apply Kd.R_drewN | apply Kd.R_drew)); exact (Kd.R_mono (Kd.R_far (p := ⟨gb612, 1, none⟩) (Kd.R_far (p := ⟨gb612, 0, none⟩) (Kd.R_types HO592.out BK612.out (by decide)) (fun _ hk => hk.2) (.slice Ao38 t605.length co38)) (fun _ hk => hk.2) (.slice Ao43 t608.length co43)) (fun _ h_ => h_.1))) hb); have n3_ := Aside0.mk (Kd.R_below (by (with_reducible repeat (first | apply Kd.R_alloc | apply Kd.R_drewN | apply Kd.R_drew)); exact (Kd.R_mono (Kd.R_far (p := ⟨gb612, 1, none⟩) (Kd.R_far (p := ⟨gb612, 0, none⟩) (Kd.R_types HO595.out BK612.out (by decide)) (fun _ hk => hk.2) (.slice Ao38 t605.length co38)) (fun _ hk => hk.2) (.slice Ao43 t608.length co43)) (fun _ h_ => h_.1))) hb); have n4_ := Aside0.mk (Kd.R_below (by (with_reducible repeat (first | apply Kd.R_alloc | apply Kd.R_drewN | apply Kd.R_drew)); exact (Kd.R_mono (Kd.R_far (p := ⟨gb612, 1, none⟩) (Kd.R_far (p := ⟨gb612, 0, none⟩) (Kd.R_types HO600.out BK612.out (by decide)) (fun _ hk => hk.2) (.slice Ao38 t605.length co38)) (fun _ hk => hk.2) (.slice Ao43 t608.length co43)) (fun _ h_ => h_.1))) hb); have n5_ := Aside0.mk (Kd.R_below (by (with_reducible repeat (first | apply Kd.R_alloc | apply Kd.R_drewN | apply Kd.R_drew)); exact (Kd.R_mono (Kd.R_far (p := ⟨gb612, 1, none⟩) (Kd.R_far (p := ⟨gb612, 0, none⟩) (Kd.R_types HO603.out BK612.out (by decide)) (fun _ hk => hk.2) (.slice Ao38 t605.length co38)) (fun _ hk => hk.2) (.slice Ao43 t608.length co43)) (fun _ h_ => h_.1))) hb); have n6_ := Aside0.mk (Kd.R_below (by (with_reducible repeat (first | apply Kd.R_alloc | apply Kd.R_drewN | apply Kd.R_drew)); exact (Kd.R_mono (Kd.R_far (p := ⟨gb612, 1, none⟩) (Kd.R_far (p := ⟨gb612, 0, none⟩) (Kd.R_types HO607.out BK612.out (by decide)) (fun _ hk => hk.2) (.slice Ao38 t605.length co38)) (fun _ hk => hk.2) (.slice Ao43 t608.length co43)) (fun _ h_ => h_.1))) hb); have n7_ := Aside0.mk (Kd.R_below (by (with_reducible repeat (first | apply Kd.R_alloc | apply Kd.R_drewN | apply Kd.R_drew)); exact (Kd.R_mono (Kd.R_far (p := ⟨gb612, 1, none⟩) (Kd.R_far (p := ⟨gb612, 0, none⟩) (Kd.R_types HO610.out BK612.out (by decide)) (fun _ hk => hk.2) (.slice Ao38 t605.length co38)) (fun _ hk => hk.2) (.slice Ao43 t608.length co43)) (fun _ h_ => h_.1))) hb); have n8_ := Aside0.mk (blk_below (g := gb582) (o := .cells #[.slice A0_0 l0_0.length c0_0, .slice A0_1 l0_1.length c0_1] 24 (0, 0)) (by (with_reducible repeat (first | refine blk_drewN ?_ _ | refine blk_drew ?_ | refine blk_alloc ?_ _)); refine blk_far ?_ NB582_612.out _; (with_reducible repeat (first | refine blk_drewN ?_ _ | refine blk_drew ?_ | refine blk_alloc ?_ _)); refine blk_far ?_ NB582_612.out _; (with_reducible repeat (first | refine blk_drewN ?_ _ | refine blk_drew ?_ | refine blk_alloc ?_ _)); exact BK582.out) hb); have n9_ := Aside0.mk (blk_below (g := gb597) (o := .cells #[.slice Ao24 t590.length co24, .slice Ao27 t593.length co27] 27 (0, 0)) (by (with_reducible repeat (first | refine blk_drewN ?_ _ | refine blk_drew ?_ | refine blk_alloc ?_ _)); refine blk_far ?_ NB597_612.out _; (with_reducible repeat (first | refine blk_drewN ?_ _ | refine blk_drew ?_ | refine blk_alloc ?_ _)); refine blk_far ?_ NB597_612.out _; (with_reducible repeat (first | refine blk_drewN ?_ _ | refine blk_drew ?_ | refine blk_alloc ?_ _)); exact BK597.out) hb); have n10_ := Aside0.mk (blk_below (g := gb604) (o := .cells #[.slice Ao31 t598.length co31, .slice Ao35 t601.length co35] 27 (0, 0)) (by (with_reducible repeat (first | refine blk_drewN ?_ _ | refine blk_drew ?_ | refine blk_alloc ?_ _)); refine blk_far ?_ NB604_612.out _; (with_reducible repeat (first | refine blk_drewN ?_ _ | refine blk_drew ?_ | refine blk_alloc ?_ _)); refine blk_far ?_ NB604_612.out _; (with_reducible repeat (first | refine blk_drewN ?_ _ | refine blk_drew ?_ | refine blk_alloc ?_ _)); exact BK604.out) hb); have n11_ := Aside0.mk (blk_below (g := gb612) (o := .cells #[.slice Ao38 t605.length co38, .slice Ao43 t608.length co43] 27 (0, 0)) (by (with_reducible repeat (first | refine blk_drewN ?_ _ | refine blk_drew ?_ | refine blk_alloc ?_ _)); refine blk_put (cs := #[.slice Ao38 t605.length co38, .slice none 0 0]) ?_ 1 _ rfl; (with_reducible repeat (first | refine blk_drewN ?_ _ | refine blk_drew ?_ | refine blk_alloc ?_ _)); refine blk_put (cs := #[.slice none 0 0, .slice none 0 0]) ?_ 0 _ rfl; (with_reducible repeat (first | refine blk_drewN ?_ _ | refine blk_drew ?_ | refine blk_alloc ?_ _)); exact BK612.out) hb); have n12_ := Aside0.mk (below_step (by repeat (first | (with_reducible first | exact HB.out | apply below_alloc | apply pw_below_drewN | apply below_drew1 | refine below_set ?_ GE582.out | refine below_set ?_ GE597.out | refine below_set ?_ GE604.out | refine below_set ?_ GE612.out) | exact HB.out)) hb); clear HO586; clear HO589; clear HO592; clear HO595; clear HO600; clear HO603; clear HO607; clear HO610; clear BK582; clear BK597; clear BK604; clear BK612; clear HB; have HO586 := n0_; have HO589 := n1_; have HO592 := n2_; have HO595 := n3_; have HO600 := n4_; have HO603 := n5_; have HO607 := n6_; have HO610 := n7_; have BK582 := n8_; have BK597 := n9_; have BK604 := n10_; have BK612 := n11_; have HB := n12_; clear n0_ n1_ n2_ n3_ n4_ n5_ n6_ n7_ n8_ n9_ n10_ n11_ n12_; (try clear hb); (try clear hb2); (try clear hk); (try clear hi)))
     go_meet
     case rel => exact ⟨_, ((t611 != t596)), (by first | rfl | (simp; done) | (simp [*]; done)), H', ⟨by first | omega | exact Nat.le_refl _⟩, ⟨by (with_reducible repeat (first | apply Kd.R_alloc | apply Kd.R_drewN | apply Kd.R_drew)); exact Kd.R_mono HO592.out (fun _ hk => ⟨hk.1.1.1.1.1.1, ⟨hk.1.1.1.2, ⟨hk.1.1.2, ⟨hk.1.2, hk.2⟩⟩⟩⟩)⟩, ⟨by (with_reducible repeat (first | apply Kd.R_alloc | apply Kd.R_drewN | apply Kd.R_drew)); exact Kd.R_mono HO595.out (fun _ hk => ⟨hk.1.1.1.1.1.1, ⟨hk.1.1.1.2, ⟨hk.1.1.2, ⟨hk.1.2, hk.2⟩⟩⟩⟩)⟩, ⟨by (with_reducible repeat (first | apply Kd.R_alloc | apply Kd.R_drewN | apply Kd.R_drew)); exact Kd.R_mono HO600.out (fun _ hk => ⟨hk.1.1.1.2, ⟨hk.1.1.2, ⟨hk.1.1.1.1.1.1, ⟨hk.1.2, hk.2⟩⟩⟩⟩)⟩, ⟨by (with_reducible repeat (first | apply Kd.R_alloc | apply Kd.R_drewN | apply Kd.R_drew)); exact Kd.R_mono HO603.out (fun _ hk => ⟨hk.1.1.1.2, ⟨hk.1.1.2, ⟨hk.1.1.1.1.1.1, ⟨hk.1.2, hk.2⟩⟩⟩⟩)⟩, ⟨by (with_reducible repeat (first | apply Kd.R_alloc | apply Kd.R_drewN | apply Kd.R_drew)); exact Kd.R_mono HO607.out (fun _ hk => ⟨hk.1.1.1.2, ⟨hk.1.1.2, ⟨hk.1.2, ⟨hk.2, hk.1.1.1.1.1.1⟩⟩⟩⟩)⟩, ⟨by (with_reducible repeat (first | apply Kd.R_alloc | apply Kd.R_drewN | apply Kd.R_drew)); exact Kd.R_mono HO610.out (fun _ hk => ⟨hk.1.1.1.2, ⟨hk.1.1.2, ⟨hk.1.2, ⟨hk.2, hk.1.1.1.1.1.1⟩⟩⟩⟩)⟩, ⟨by (with_reducible repeat (first | refine blk_drewN ?_ _ | refine blk_drew ?_ | refine blk_alloc ?_ _)); exact BK582.out⟩, ⟨by (with_reducible repeat (first | refine blk_drewN ?_ _ | refine blk_drew ?_ | refine blk_alloc ?_ _)); exact BK597.out⟩, ⟨by (with_reducible repeat (first | refine blk_drewN ?_ _ | refine blk_drew ?_ | refine blk_alloc ?_ _)); exact BK604.out⟩, ⟨by (with_reducible repeat (first | refine blk_drewN ?_ _ | refine blk_drew ?_ | refine blk_alloc ?_ _)); exact BK612.out⟩, ⟨by repeat (first | (with_reducible first | exact HB.out | apply below_alloc | apply pw_below_drewN | apply below_drew1 | refine below_set ?_ GE582.out | refine below_set ?_ GE597.out | refine below_set ?_ GE604.out | refine below_set ?_ GE612.out) | exact HB.out)⟩⟩
    ·replace c45 := Bool.eq_false_iff.mpr c45
     subst c45
     have H1 : (laws_FnExactRunWord.j0 k a1 t596 t611 true l0_0 l0_1 t590 t593 t598 t601 t605 t608) = some true := by rw [if_neg (show ¬ (false = true) by decide)] at H; exact H
     clear H
     have H := H1
     clear H1
     exact absurd H (by cases k <;> simp [laws_FnExactRunWord.j0])
   case rest =>
    clear HC14
    try clear c1
    try clear c2
    try clear p2
    try clear c3
    try clear c3b0
    try clear c3b1
    try clear c4
    try clear c5
    try clear c6
    try clear c6b0
    try clear c12
    try clear c14
    try clear c16
    try clear c23
    try clear c24
    try clear c25
    try clear c32
    try clear c33
    try clear c39
    try clear c40
    try clear c41
    try clear c45
    try clear c46
    try clear c47
    try clear c48
    try clear c50
    try clear c51
    try clear c54
    try clear c55
    try clear c56
    try clear c58
    try clear c59
    try clear hcz16_0
    try clear hcz16_1
    try clear hcz18_0
    try clear hcz18_1
    try clear hcz26_0
    try clear hcz26_1
    try clear hcz28_0
    try clear hcz28_1
    try clear hcz34_0
    try clear hcz34_1
    try clear hcz42_0
    try clear hcz42_1
    try clear hcz49_0
    try clear hcz49_1
    try clear hcz52_0
    try clear hcz52_1
    try clear hcz57_0
    try clear hcz57_1
    try clear hcz60_0
    try clear hcz60_1
    try clear hcz8_0
    try clear hcz8_1
    try clear hfz16_0
    try clear hfz16_1
    try clear hfz18_0
    try clear hfz18_1
    try clear hfz26_0
    try clear hfz26_1
    try clear hfz28_0
    try clear hfz28_1
    try clear hfz34_0
    try clear hfz34_1
    try clear hfz42_0
    try clear hfz42_1
    try clear hfz49_0
    try clear hfz49_1
    try clear hfz52_0
    try clear hfz52_1
    try clear hfz57_0
    try clear hfz57_1
    try clear hfz60_0
    try clear hfz60_1
    try clear hfz8_0
    try clear hfz8_1
    obtain ⟨kq, x47_13, rfl, HA, HJ13, HO_598000, HO_598001, HO_605000, HO_605001, HO_613000, HO_613001, BK582, BK597, BK604, BK612, HB⟩ := hcut
    cases kq with
    | zero => exact absurd HA.out (by simp [laws_FnExactRunWord.j0])
    | succ kj13 =>
     have H := HA.out
     clear HA
     simp only [laws_FnExactRunWord.j0] at H
     by_cases c62 : x47_13 = true
     ·subst c62
      have H1 : (some false) = some true := by rw [if_pos rfl] at H; exact H
      clear H
      have H := H1
      clear H1
      exact absurd H (by simp)
     ·replace c62 := Bool.eq_false_iff.mpr c62
      subst c62
      have H1 : ((laws_toSurface.f kj13 l0_0 l0_1).bind fun bt614 => ((laws_eqSurface.f kj13 t598 t601 bt614.1 bt614.2).bind fun t620 => (if t620 = true then ((laws_markSurface.f kj13 t598 t601 1).bind fun bt621 => (if bt621.1 < 0 then (laws_FnExactRunWord.j1 kj13 a1 t596 true l0_0 l0_1 t590 t593 t605 t608) else ((laws_eqSurface.f kj13 t605 t608 t590 t593).bind fun t624 => (if t624 = true then (laws_FnExactRunWord.j1 kj13 a1 t596 (t611 != t596) l0_0 l0_1 t590 t593 t605 t608) else (laws_FnExactRunWord.j1 kj13 a1 t596 true l0_0 l0_1 t590 t593 t605 t608))))) else (some false)))) = some true := by rw [if_neg (show ¬ (false = true) by decide)] at H; exact H
      clear H
      have H := H1
      clear H1
      replace H := Option.bind_eq_some_iff.mp H
      obtain ⟨⟨t614, t617⟩, A630, H⟩ := H
      replace H : ((laws_eqSurface.f kj13 t598 t601 t614 t617).bind fun t620 => (if t620 = true then ((laws_markSurface.f kj13 t598 t601 1).bind fun bt621 => (if bt621.1 < 0 then (laws_FnExactRunWord.j1 kj13 a1 t596 true l0_0 l0_1 t590 t593 t605 t608) else ((laws_eqSurface.f kj13 t605 t608 t590 t593).bind fun t624 => (if t624 = true then (laws_FnExactRunWord.j1 kj13 a1 t596 (t611 != t596) l0_0 l0_1 t590 t593 t605 t608) else (laws_FnExactRunWord.j1 kj13 a1 t596 true l0_0 l0_1 t590 t593 t605 t608))))) else (some false))) = some true := H
      have A63 := Aside0.mk A630
      clear A630
      replace H := Option.bind_eq_some_iff.mp H
      obtain ⟨t620, A640, H⟩ := H
      replace H : (if t620 = true then ((laws_markSurface.f kj13 t598 t601 1).bind fun bt621 => (if bt621.1 < 0 then (laws_FnExactRunWord.j1 kj13 a1 t596 true l0_0 l0_1 t590 t593 t605 t608) else ((laws_eqSurface.f kj13 t605 t608 t590 t593).bind fun t624 => (if t624 = true then (laws_FnExactRunWord.j1 kj13 a1 t596 (t611 != t596) l0_0 l0_1 t590 t593 t605 t608) else (laws_FnExactRunWord.j1 kj13 a1 t596 true l0_0 l0_1 t590 t593 t605 t608))))) else (some false)) = some true := H
      have A64 := Aside0.mk A640
      clear A640
      by_cases c65 : t620 = true
      ·subst c65
       have H1 : ((laws_markSurface.f kj13 t598 t601 1).bind fun bt621 => (if bt621.1 < 0 then (laws_FnExactRunWord.j1 kj13 a1 t596 true l0_0 l0_1 t590 t593 t605 t608) else ((laws_eqSurface.f kj13 t605 t608 t590 t593).bind fun t624 => (if t624 = true then (laws_FnExactRunWord.j1 kj13 a1 t596 (t611 != t596) l0_0 l0_1 t590 t593 t605 t608) else (laws_FnExactRunWord.j1 kj13 a1 t596 true l0_0 l0_1 t590 t593 t605 t608))))) = some true := by rw [if_pos rfl] at H; exact H
       clear H
       have H := H1
       clear H1
       replace H := Option.bind_eq_some_iff.mp H
       obtain ⟨⟨t621, t622, t623⟩, A660, H⟩ := H
       replace H : (if t621 < 0 then (laws_FnExactRunWord.j1 kj13 a1 t596 true l0_0 l0_1 t590 t593 t605 t608) else ((laws_eqSurface.f kj13 t605 t608 t590 t593).bind fun t624 => (if t624 = true then (laws_FnExactRunWord.j1 kj13 a1 t596 (t611 != t596) l0_0 l0_1 t590 t593 t605 t608) else (laws_FnExactRunWord.j1 kj13 a1 t596 true l0_0 l0_1 t590 t593 t605 t608)))) = some true := H
       have A66 := Aside0.mk A660
       clear A660
       have HC67 := Aside0.mk H
       clear H
       try go_wp2
       have n0_ := Aside0.mk (Kd.R_drew HO_598000.out)
       have n1_ := Aside0.mk (Kd.R_drew HO_598001.out)
       have n2_ := Aside0.mk (Kd.R_drew HO_605000.out)
       have n3_ := Aside0.mk (Kd.R_drew HO_605001.out)
       have n4_ := Aside0.mk (Kd.R_drew HO_613000.out)
       have n5_ := Aside0.mk (Kd.R_drew HO_613001.out)
       have n6_ := Aside0.mk (blk_drew BK582.out)
       have n7_ := Aside0.mk (blk_drew BK597.out)
       have n8_ := Aside0.mk (blk_drew BK604.out)
       have n9_ := Aside0.mk (blk_drew BK612.out)
       have n10_ := Aside0.mk (below_drew1 HB.out)
       clear HO_598000 HO_598001 HO_605000 HO_605001 HO_613000 HO_613001 BK582 BK597 BK604 BK612 HB
       have HO_598000 := n0_
       have HO_598001 := n1_
       have HO_605000 := n2_
       have HO_605001 := n3_
       have HO_613000 := n4_
       have HO_613001 := n5_
       have BK582 := n6_
       have BK597 := n7_
       have BK604 := n8_
       have BK612 := n9_
       have HB := n10_
       clear n0_ n1_ n2_ n3_ n4_ n5_ n6_ n7_ n8_ n9_ n10_
       refine start_ (n := 5) (S := fun w' => w'.cell? ⟨gb604, 0, none⟩ = some (.slice Ao31 t598.length co31) ∧ w'.cell? ⟨gb604, 1, none⟩ = some (.slice Ao35 t601.length co35) ∧ w'.cell? ⟨gb582, 0, none⟩ = some (.slice A0_0 l0_0.length c0_0) ∧ w'.cell? ⟨gb582, 1, none⟩ = some (.slice A0_1 l0_1.length c0_1)) (ds := []) #[false, false, false, false, false] (by kernel_rfl) rfl rfl ⟨(blk_cell BK604.out 0).trans rfl, (blk_cell BK604.out 1).trans rfl, (blk_cell BK582.out 0).trans rfl, (blk_cell BK582.out 1).trans rfl⟩ (fun hHeld => ?_)
       generalize wc.drew = w68 at HO_598000 HO_598001 HO_605000 HO_605001 HO_613000 HO_613001 BK582 BK597 BK604 BK612 HB hHeld ⊢
       refine take_ (i := 0) (N := some 48) (v := ?_) (a' := ?_) #[true, false, false, false, false] rfl rfl (by kernel_rfl) (fun _ _ _ h => h) (Or.inl ⟨by rfl, ?_⟩) hHeld ?_ ?_
       rotate_left
       ·rintro w' ⟨s0, s1, s2, s3⟩
        go_simp
        with_reducible rfl
       rotate_left
       ·simp only [Act.put, List.setIfInBounds_toArray, List.set_cons_zero, List.set_cons_succ, i64_w, i32_w]
        rfl
       refine take_ (i := 1) (N := some 49) (v := ?_) (a' := ?_) #[true, true, false, false, false] rfl rfl (by kernel_rfl) (fun _ _ _ h => h) (Or.inl ⟨by rfl, ?_⟩) hHeld ?_ ?_
       rotate_left
       ·rintro w' ⟨s0, s1, s2, s3⟩
        go_simp
        with_reducible rfl
       rotate_left
       ·simp only [Act.put, List.setIfInBounds_toArray, List.set_cons_zero, List.set_cons_succ, i64_w, i32_w]
        rfl
       refine one_ (i := 2) (N := some 50) #[true, true, true, false, false] rfl rfl (by kernel_rfl) (by decide) (fun K hK => ?_)
       refine goes_ Try.func14 (by kernel_rfl) rfl #[.agg #[.slice A0_0 l0_0.length c0_0, .slice A0_1 l0_1.length c0_1]] (by rfl) rfl rfl (by (try simp only [List.map_toArray, List.map_cons, List.map_nil]); first | done | rfl | (simp only [List.length_drop, List.length_take]; rfl)) ?_
       with_reducible refine (laws_toSurface.calls kj13 _ _ l0_0 _ _ l0_1 t614 t617 _ ?side1 ?side2 ?side3 ?side4 A63.out).mono ?_
       (case side1 => repeat (first | exact (Kd.C_below HR0_0.out HB.out) | (with_reducible refine Kd.C_alloc ?_ _) | (with_reducible refine Kd.C_drewN ?_ _) | (with_reducible refine Kd.C_drew ?_)))
       (case side2 => exact HC0_0.out)
       (case side3 => repeat (first | exact (Kd.C_below HR0_1.out HB.out) | (with_reducible refine Kd.C_alloc ?_ _) | (with_reducible refine Kd.C_drewN ?_ _) | (with_reducible refine Kd.C_drew ?_)))
       (case side4 => exact HC0_1.out)
       rintro e w69 ⟨v615, v618, rfl, ho0, ho1, hb⟩
       refine ⟨_, rfl, ?_⟩
       have n0_ := Aside0.mk (Kd.R_mono (Kd.R_told (Kd.R_told (Kd.R_old (by (with_reducible repeat (first | apply Kd.R_alloc | apply Kd.R_drewN | apply Kd.R_drew)); exact HO_598000.out) hb) (Kd.R_base ho0)) (Kd.R_base ho1)) (fun _ h_ => h_.1))
       have n1_ := Aside0.mk (Kd.R_mono (Kd.R_told (Kd.R_told (Kd.R_old (by (with_reducible repeat (first | apply Kd.R_alloc | apply Kd.R_drewN | apply Kd.R_drew)); exact HO_598001.out) hb) (Kd.R_base ho0)) (Kd.R_base ho1)) (fun _ h_ => h_.1))
       have n2_ := Aside0.mk (Kd.R_mono (Kd.R_told (Kd.R_told (Kd.R_old (by (with_reducible repeat (first | apply Kd.R_alloc | apply Kd.R_drewN | apply Kd.R_drew)); exact HO_605000.out) hb) (Kd.R_base ho0)) (Kd.R_base ho1)) (fun _ h_ => h_.1))
       have n3_ := Aside0.mk (Kd.R_mono (Kd.R_told (Kd.R_told (Kd.R_old (by (with_reducible repeat (first | apply Kd.R_alloc | apply Kd.R_drewN | apply Kd.R_drew)); exact HO_605001.out) hb) (Kd.R_base ho0)) (Kd.R_base ho1)) (fun _ h_ => h_.1))
       have n4_ := Aside0.mk (Kd.R_mono (Kd.R_told (Kd.R_told (Kd.R_old (by (with_reducible repeat (first | apply Kd.R_alloc | apply Kd.R_drewN | apply Kd.R_drew)); exact HO_613000.out) hb) (Kd.R_base ho0)) (Kd.R_base ho1)) (fun _ h_ => h_.1))
       have n5_ := Aside0.mk (Kd.R_mono (Kd.R_told (Kd.R_told (Kd.R_old (by (with_reducible repeat (first | apply Kd.R_alloc | apply Kd.R_drewN | apply Kd.R_drew)); exact HO_613001.out) hb) (Kd.R_base ho0)) (Kd.R_base ho1)) (fun _ h_ => h_.1))
       have n6_ := Aside0.mk (Kd.R_lower (Kd.R_new' (Kd.R_new' (Kd.R_new' (Kd.R_new' (Kd.R_new' (Kd.R_new' ho0 (Kd.R_lt (by (with_reducible repeat (first | apply Kd.R_alloc | apply Kd.R_drewN | apply Kd.R_drew)); exact HO_598000.out))) (Kd.R_lt (by (with_reducible repeat (first | apply Kd.R_alloc | apply Kd.R_drewN | apply Kd.R_drew)); exact HO_598001.out))) (Kd.R_lt (by (with_reducible repeat (first | apply Kd.R_alloc | apply Kd.R_drewN | apply Kd.R_drew)); exact HO_605000.out))) (Kd.R_lt (by (with_reducible repeat (first | apply Kd.R_alloc | apply Kd.R_drewN | apply Kd.R_drew)); exact HO_605001.out))) (Kd.R_lt (by (with_reducible repeat (first | apply Kd.R_alloc | apply Kd.R_drewN | apply Kd.R_drew)); exact HO_613000.out))) (Kd.R_lt (by (with_reducible repeat (first | apply Kd.R_alloc | apply Kd.R_drewN | apply Kd.R_drew)); exact HO_613001.out))) (below_size (by repeat (first | (with_reducible first | exact HB.out | apply below_alloc | apply pw_below_drewN | apply below_drew1 | refine below_set ?_ GE582.out | refine below_set ?_ GE597.out | refine below_set ?_ GE604.out | refine below_set ?_ GE612.out) | exact HB.out))))
       have n7_ := Aside0.mk (Kd.R_lower (Kd.R_new' (Kd.R_new' (Kd.R_new' (Kd.R_new' (Kd.R_new' (Kd.R_new' ho1 (Kd.R_lt (by (with_reducible repeat (first | apply Kd.R_alloc | apply Kd.R_drewN | apply Kd.R_drew)); exact HO_598000.out))) (Kd.R_lt (by (with_reducible repeat (first | apply Kd.R_alloc | apply Kd.R_drewN | apply Kd.R_drew)); exact HO_598001.out))) (Kd.R_lt (by (with_reducible repeat (first | apply Kd.R_alloc | apply Kd.R_drewN | apply Kd.R_drew)); exact HO_605000.out))) (Kd.R_lt (by (with_reducible repeat (first | apply Kd.R_alloc | apply Kd.R_drewN | apply Kd.R_drew)); exact HO_605001.out))) (Kd.R_lt (by (with_reducible repeat (first | apply Kd.R_alloc | apply Kd.R_drewN | apply Kd.R_drew)); exact HO_613000.out))) (Kd.R_lt (by (with_reducible repeat (first | apply Kd.R_alloc | apply Kd.R_drewN | apply Kd.R_drew)); exact HO_613001.out))) (below_size (by repeat (first | (with_reducible first | exact HB.out | apply below_alloc | apply pw_below_drewN | apply below_drew1 | refine below_set ?_ GE582.out | refine below_set ?_ GE597.out | refine below_set ?_ GE604.out | refine below_set ?_ GE612.out) | exact HB.out))))
       have n8_ := Aside0.mk (blk_below (g := gb582) (o := .cells #[.slice A0_0 l0_0.length c0_0, .slice A0_1 l0_1.length c0_1] 24 (0, 0)) (by (with_reducible repeat (first | refine blk_drewN ?_ _ | refine blk_drew ?_ | refine blk_alloc ?_ _)); exact BK582.out) hb)
       have n9_ := Aside0.mk (blk_below (g := gb597) (o := .cells #[.slice Ao24 t590.length co24, .slice Ao27 t593.length co27] 27 (0, 0)) (by (with_reducible repeat (first | refine blk_drewN ?_ _ | refine blk_drew ?_ | refine blk_alloc ?_ _)); exact BK597.out) hb)
       have n10_ := Aside0.mk (blk_below (g := gb604) (o := .cells #[.slice Ao31 t598.length co31, .slice Ao35 t601.length co35] 27 (0, 0)) (by (with_reducible repeat (first | refine blk_drewN ?_ _ | refine blk_drew ?_ | refine blk_alloc ?_ _)); exact BK604.out) hb)
       have n11_ := Aside0.mk (blk_below (g := gb612) (o := .cells #[.slice Ao38 t605.length co38, .slice Ao43 t608.length co43] 27 (0, 0)) (by (with_reducible repeat (first | refine blk_drewN ?_ _ | refine blk_drew ?_ | refine blk_alloc ?_ _)); exact BK612.out) hb)
       have n12_ := Aside0.mk (below_step (by repeat (first | (with_reducible first | exact HB.out | apply below_alloc | apply pw_below_drewN | apply below_drew1 | refine below_set ?_ GE582.out | refine below_set ?_ GE597.out | refine below_set ?_ GE604.out | refine below_set ?_ GE612.out) | exact HB.out)) hb)
       clear HO_598000 HO_598001 HO_605000 HO_605001 HO_613000 HO_613001 BK582 BK597 BK604 BK612 HB
       have HO_598000 := n0_
       have HO_598001 := n1_
       have HO_605000 := n2_
       have HO_605001 := n3_
       have HO_613000 := n4_
       have HO_613001 := n5_
       have HO616 := n6_
       have HO619 := n7_
       have BK582 := n8_
       have BK597 := n9_
       have BK604 := n10_
       have BK612 := n11_
       have HB := n12_
       clear n0_ n1_ n2_ n3_ n4_ n5_ n6_ n7_ n8_ n9_ n10_ n11_ n12_
       (try clear hb)
       (try clear hb2)
       (try clear hk)
       (try clear hi)
       (try clear ho0)
       (try clear ho1)
       obtain ⟨Ao70, co70, eo70⟩ := Kd.R_slice HO616.out
       (first | subst eo70 | (injection eo70 with f1_ f2_ f3_; have f4_ := f1_.symm; have f5_ := f3_.symm; clear f1_ f2_ f3_; subst f4_; subst f5_))
       obtain ⟨Ao71, co71, eo71⟩ := Kd.R_slice HO619.out
       (first | subst eo71 | (injection eo71 with f1_ f2_ f3_; have f4_ := f1_.symm; have f5_ := f3_.symm; clear f1_ f2_ f3_; subst f4_; subst f5_))
       refine hK.out _ _ ⟨(blk_cell BK604.out 0).trans rfl, (blk_cell BK604.out 1).trans rfl, (blk_cell BK582.out 0).trans rfl, (blk_cell BK582.out 1).trans rfl⟩ (fun hHeld => ?_)
       clear hK K
       refine norm_ (a' := ?_) ?_ ?_
       rotate_left
       ·show Act.put _ (some 50) _ = _
        simp only [Act.put, List.setIfInBounds_toArray, List.set_cons_zero, List.set_cons_succ, i64_w, i32_w]
        rfl
       refine one_ (i := 3) (N := some 51) #[true, true, true, true, false] rfl rfl (by kernel_rfl) (by decide) (fun K hK => ?_)
       refine goes_ Try.func16 (by kernel_rfl) rfl #[.agg #[.slice Ao31 t598.length co31, .slice Ao35 t601.length co35], .agg #[.slice Ao70 t614.length co70, .slice Ao71 t617.length co71]] (by rfl) rfl rfl (by (try simp only [List.map_toArray, List.map_cons, List.map_nil]); first | done | rfl | (simp only [List.length_drop, List.length_take]; rfl)) ?_
       with_reducible refine (laws_eqSurface.calls kj13 _ _ t598 _ _ t601 _ _ t614 _ _ t617 true _ ?side1 ?side2 ?side3 ?side4 ?side5 ?side6 ?side7 ?side8 A64.out).mono ?_
       (case side1 => repeat (first | exact (Kd.R_reads' HO_605000.out).2.2 | (with_reducible refine Kd.C_alloc ?_ _) | (with_reducible refine Kd.C_drewN ?_ _) | (with_reducible refine Kd.C_drew ?_)))
       (case side2 => exact (Kd.R_reads' HO_605000.out).2.1)
       (case side3 => repeat (first | exact (Kd.R_reads' HO_605001.out).2.2 | (with_reducible refine Kd.C_alloc ?_ _) | (with_reducible refine Kd.C_drewN ?_ _) | (with_reducible refine Kd.C_drew ?_)))
       (case side4 => exact (Kd.R_reads' HO_605001.out).2.1)
       (case side5 => repeat (first | exact (Kd.R_reads' HO616.out).2.2 | (with_reducible refine Kd.C_alloc ?_ _) | (with_reducible refine Kd.C_drewN ?_ _) | (with_reducible refine Kd.C_drew ?_)))
       (case side6 => exact (Kd.R_reads' HO616.out).2.1)
       (case side7 => repeat (first | exact (Kd.R_reads' HO619.out).2.2 | (with_reducible refine Kd.C_alloc ?_ _) | (with_reducible refine Kd.C_drewN ?_ _) | (with_reducible refine Kd.C_drew ?_)))
       (case side8 => exact (Kd.R_reads' HO619.out).2.1)
       rintro e w72 ⟨rfl, hb⟩
       refine ⟨_, rfl, ?_⟩
       have n0_ := Aside0.mk (Kd.R_below (by (with_reducible repeat (first | apply Kd.R_alloc | apply Kd.R_drewN | apply Kd.R_drew)); exact HO_598000.out) hb)
       have n1_ := Aside0.mk (Kd.R_below (by (with_reducible repeat (first | apply Kd.R_alloc | apply Kd.R_drewN | apply Kd.R_drew)); exact HO_598001.out) hb)
       have n2_ := Aside0.mk (Kd.R_below (by (with_reducible repeat (first | apply Kd.R_alloc | apply Kd.R_drewN | apply Kd.R_drew)); exact HO_605000.out) hb)
       have n3_ := Aside0.mk (Kd.R_below (by (with_reducible repeat (first | apply Kd.R_alloc | apply Kd.R_drewN | apply Kd.R_drew)); exact HO_605001.out) hb)
       have n4_ := Aside0.mk (Kd.R_below (by (with_reducible repeat (first | apply Kd.R_alloc | apply Kd.R_drewN | apply Kd.R_drew)); exact HO_613000.out) hb)
       have n5_ := Aside0.mk (Kd.R_below (by (with_reducible repeat (first | apply Kd.R_alloc | apply Kd.R_drewN | apply Kd.R_drew)); exact HO_613001.out) hb)
       have n6_ := Aside0.mk (Kd.R_below (by (with_reducible repeat (first | apply Kd.R_alloc | apply Kd.R_drewN | apply Kd.R_drew)); exact HO616.out) hb)
       have n7_ := Aside0.mk (Kd.R_below (by (with_reducible repeat (first | apply Kd.R_alloc | apply Kd.R_drewN | apply Kd.R_drew)); exact HO619.out) hb)
       have n8_ := Aside0.mk (blk_below (g := gb582) (o := .cells #[.slice A0_0 l0_0.length c0_0, .slice A0_1 l0_1.length c0_1] 24 (0, 0)) (by (with_reducible repeat (first | refine blk_drewN ?_ _ | refine blk_drew ?_ | refine blk_alloc ?_ _)); exact BK582.out) hb)
       have n9_ := Aside0.mk (blk_below (g := gb597) (o := .cells #[.slice Ao24 t590.length co24, .slice Ao27 t593.length co27] 27 (0, 0)) (by (with_reducible repeat (first | refine blk_drewN ?_ _ | refine blk_drew ?_ | refine blk_alloc ?_ _)); exact BK597.out) hb)
       have n10_ := Aside0.mk (blk_below (g := gb604) (o := .cells #[.slice Ao31 t598.length co31, .slice Ao35 t601.length co35] 27 (0, 0)) (by (with_reducible repeat (first | refine blk_drewN ?_ _ | refine blk_drew ?_ | refine blk_alloc ?_ _)); exact BK604.out) hb)
       have n11_ := Aside0.mk (blk_below (g := gb612) (o := .cells #[.slice Ao38 t605.length co38, .slice Ao43 t608.length co43] 27 (0, 0)) (by (with_reducible repeat (first | refine blk_drewN ?_ _ | refine blk_drew ?_ | refine blk_alloc ?_ _)); exact BK612.out) hb)
       have n12_ := Aside0.mk (below_step (by repeat (first | (with_reducible first | exact HB.out | apply below_alloc | apply pw_below_drewN | apply below_drew1 | refine below_set ?_ GE582.out | refine below_set ?_ GE597.out | refine below_set ?_ GE604.out | refine below_set ?_ GE612.out) | exact HB.out)) hb)
       clear HO_598000 HO_598001 HO_605000 HO_605001 HO_613000 HO_613001 HO616 HO619 BK582 BK597 BK604 BK612 HB
       have HO_598000 := n0_
       have HO_598001 := n1_
       have HO_605000 := n2_
       have HO_605001 := n3_
       have HO_613000 := n4_
       have HO_613001 := n5_
       have HO616 := n6_
       have HO619 := n7_
       have BK582 := n8_
       have BK597 := n9_
       have BK604 := n10_
       have BK612 := n11_
       have HB := n12_
       clear n0_ n1_ n2_ n3_ n4_ n5_ n6_ n7_ n8_ n9_ n10_ n11_ n12_
       (try clear hb)
       (try clear hb2)
       (try clear hk)
       (try clear hi)
       refine hK.out _ _ ⟨(blk_cell BK604.out 0).trans rfl, (blk_cell BK604.out 1).trans rfl, (blk_cell BK582.out 0).trans rfl, (blk_cell BK582.out 1).trans rfl⟩ (fun hHeld => ?_)
       clear hK K
       refine norm_ (a' := ?_) ?_ ?_
       rotate_left
       ·show Act.put _ (some 51) _ = _
        simp only [Act.put, List.setIfInBounds_toArray, List.set_cons_zero, List.set_cons_succ, i64_w, i32_w]
        rfl
       refine pure_ (i := 4) (N := some 52) (v := ?_) (a' := ?_) #[true, true, true, true, true] rfl rfl (by kernel_rfl) (fun _ _ _ h => h) (Or.inl ⟨by rfl, ?_⟩) ?_ ?_
       rotate_left
       ·intro w'
        go_simp
        with_reducible rfl
       rotate_left
       ·simp only [Act.put, List.setIfInBounds_toArray, List.set_cons_zero, List.set_cons_succ, i64_w, i32_w]
        rfl
       refine done_ (by kernel_rfl) ?_
       have hnb73 := NB604_582.out
       have hnc73 := NB582_604.out
       have hnb74 := NB604_597.out
       have hnc74 := NB597_604.out
       have hnb75 := NB604_612.out
       have hnc75 := NB612_604.out
       have hcz76_0 : w72.cell? ⟨gb604, 0, none⟩ = some (.slice Ao31 t598.length co31) := (blk_cell BK604.out 0).trans rfl
       have hcz76_1 : w72.cell? ⟨gb604, 1, none⟩ = some (.slice Ao35 t601.length co35) := (blk_cell BK604.out 1).trans rfl
       have hfz76_0 := blk_frozen BK604.out 0
       have hfz76_1 := blk_frozen BK604.out 1
       go_upto_region 16 with (first | ((with_reducible refine gate_callee (f := 20) rfl ?_); refine goesL_ (some 55) rfl rfl Try.func20 (by kernel_rfl) rfl #[.agg #[.slice Ao31 t598.length co31, .slice Ao35 t601.length co35], .int .i64 1] rfl (by (try simp only [List.map_toArray, List.map_cons, List.map_nil]); first | done | rfl | (simp only [List.length_drop, List.length_take]; rfl)) ?_; (with_reducible refine (laws_markSurface.calls kj13 (fun k_ => some k_ = (.slice Ao31 t598.length co31 : Value).ownBlock) (.slice Ao31 t598.length co31) t598 (fun k_ => some k_ = (.slice Ao35 t601.length co35 : Value).ownBlock) (.slice Ao35 t601.length co35) t601 1 t621 t622 t623 w _ ?side1 ?side2 ?side3 ?side4 ?side5 A66.out).mono ?_); (case side1 => repeat (first | (with_reducible first | exact HB.out | apply below_alloc | apply pw_below_drewN | apply below_drew1 | refine below_set ?_ GE582.out | refine below_set ?_ GE597.out | refine below_set ?_ GE604.out | refine below_set ?_ GE612.out) | exact HB.out)); (case side2 => exact Kd.R_tight rfl HO_605000.out); (case side3 => exact fun k_ e_ => (HO_605000.out.1 k_ e_.symm).1.1.2.2.1); (case side4 => exact Kd.R_tight rfl HO_605001.out); (case side5 => exact fun k_ e_ => (HO_605001.out.1 k_ e_.symm).1.1.2.2.1); rintro e w77 ⟨rfl, hy0, hy1, hb, hkp⟩; refine ⟨_, rfl, ?_⟩; have n0_ := Aside0.mk (Kd.R_mono (ok' := fun k_ => some k_ ≠ (.slice Ao27 t593.length co27 : Value).ownBlock ∧ some k_ ≠ (.slice Ao31 t598.length co31 : Value).ownBlock ∧ some k_ ≠ (.slice Ao35 t601.length co35 : Value).ownBlock ∧ some k_ ≠ (.slice Ao38 t605.length co38 : Value).ownBlock ∧ some k_ ≠ (.slice Ao43 t608.length co43 : Value).ownBlock ∧ some k_ ≠ (.slice Ao70 t614.length co70 : Value).ownBlock ∧ some k_ ≠ (.slice Ao71 t617.length co71 : Value).ownBlock) (Kd.R_keptB (HO_598000.out) hkp (fun k_ hk_ hs_ => Or.elim hs_ (fun e_ => (hk_.1.1.2.1) e_) (fun e_ => (hk_.1.1.2.2.1) e_))) (fun k_ hk_ => ⟨hk_.1.1.1.1, hk_.1.1.1.2.1, hk_.1.1.1.2.2.1, hk_.1.1.1.2.2.2.1, hk_.1.1.1.2.2.2.2, hk_.1.1.2, hk_.1.2⟩)); have n1_ := Aside0.mk (Kd.R_mono (ok' := fun k_ => some k_ ≠ (.slice Ao24 t590.length co24 : Value).ownBlock ∧ some k_ ≠ (.slice Ao31 t598.length co31 : Value).ownBlock ∧ some k_ ≠ (.slice Ao35 t601.length co35 : Value).ownBlock ∧ some k_ ≠ (.slice Ao38 t605.length co38 : Value).ownBlock ∧ some k_ ≠ (.slice Ao43 t608.length co43 : Value).ownBlock ∧ some k_ ≠ (.slice Ao70 t614.length co70 : Value).ownBlock ∧ some k_ ≠ (.slice Ao71 t617.length co71 : Value).ownBlock) (Kd.R_keptB (HO_598001.out) hkp (fun k_ hk_ hs_ => Or.elim hs_ (fun e_ => (hk_.1.1.2.1) e_) (fun e_ => (hk_.1.1.2.2.1) e_))) (fun k_ hk_ => ⟨hk_.1.1.1.1, hk_.1.1.1.2.1, hk_.1.1.1.2.2.1, hk_.1.1.1.2.2.2.1, hk_.1.1.1.2.2.2.2, hk_.1.1.2, hk_.1.2⟩)); have n2_ := Aside0.mk (Kd.R_reok rfl hy0 (fun k_ e_ => HO_605000.out.1 k_ e_)); have n3_ := Aside0.mk (Kd.R_reok rfl hy1 (fun k_ e_ => HO_605001.out.1 k_ e_)); have n4_ := Aside0.mk (Kd.R_mono (ok' := fun k_ => some k_ ≠ (.slice Ao24 t590.length co24 : Value).ownBlock ∧ some k_ ≠ (.slice Ao27 t593.length co27 : Value).ownBlock ∧ some k_ ≠ (.slice Ao31 t598.length co31 : Value).ownBlock ∧ some k_ ≠ (.slice Ao35 t601.length co35 : Value).ownBlock ∧ some k_ ≠ (.slice Ao43 t608.length co43 : Value).ownBlock ∧ some k_ ≠ (.slice Ao70 t614.length co70 : Value).ownBlock ∧ some k_ ≠ (.slice Ao71 t617.length co71 : Value).ownBlock) (Kd.R_keptB (HO_613000.out) hkp (fun k_ hk_ hs_ => Or.elim hs_ (fun e_ => (hk_.1.1.2.2.1) e_) (fun e_ => (hk_.1.1.2.2.2.1) e_))) (fun k_ hk_ => ⟨hk_.1.1.1.1, hk_.1.1.1.2.1, hk_.1.1.1.2.2.1, hk_.1.1.1.2.2.2.1, hk_.1.1.1.2.2.2.2, hk_.1.1.2, hk_.1.2⟩)); have n5_ := Aside0.mk (Kd.R_mono (ok' := fun k_ => some k_ ≠ (.slice Ao24 t590.length co24 : Value).ownBlock ∧ some k_ ≠ (.slice Ao27 t593.length co27 : Value).ownBlock ∧ some k_ ≠ (.slice Ao31 t598.length co31 : Value).ownBlock ∧ some k_ ≠ (.slice Ao35 t601.length co35 : Value).ownBlock ∧ some k_ ≠ (.slice Ao38 t605.length co38 : Value).ownBlock ∧ some k_ ≠ (.slice Ao70 t614.length co70 : Value).ownBlock ∧ some k_ ≠ (.slice Ao71 t617.length co71 : Value).ownBlock) (Kd.R_keptB (HO_613001.out) hkp (fun k_ hk_ hs_ => Or.elim hs_ (fun e_ => (hk_.1.1.2.2.1) e_) (fun e_ => (hk_.1.1.2.2.2.1) e_))) (fun k_ hk_ => ⟨hk_.1.1.1.1, hk_.1.1.1.2.1, hk_.1.1.1.2.2.1, hk_.1.1.1.2.2.2.1, hk_.1.1.1.2.2.2.2, hk_.1.1.2, hk_.1.2⟩)); have n6_ := Aside0.mk (blk_kept (by (with_reducible repeat (first | refine blk_drewN ?_ _ | refine blk_drew ?_ | refine blk_alloc ?_ _)); exact BK582.out) hkp (fun hs_ => Or.elim hs_ (fun e_ => (fun e_ => (Kd.R_ne HO_605000.out BK582.out (by decide)) e_) e_) (fun e_ => (fun e_ => (Kd.R_ne HO_605001.out BK582.out (by decide)) e_) e_))); have n7_ := Aside0.mk (blk_kept (by (with_reducible repeat (first | refine blk_drewN ?_ _ | refine blk_drew ?_ | refine blk_alloc ?_ _)); exact BK597.out) hkp (fun hs_ => Or.elim hs_ (fun e_ => (fun e_ => (Kd.R_ne HO_605000.out BK597.out (by decide)) e_) e_) (fun e_ => (fun e_ => (Kd.R_ne HO_605001.out BK597.out (by decide)) e_) e_))); have n8_ := Aside0.mk (blk_kept (by (with_reducible repeat (first | refine blk_drewN ?_ _ | refine blk_drew ?_ | refine blk_alloc ?_ _)); exact BK604.out) hkp (fun hs_ => Or.elim hs_ (fun e_ => (fun e_ => (Kd.R_ne HO_605000.out BK604.out (by decide)) e_) e_) (fun e_ => (fun e_ => (Kd.R_ne HO_605001.out BK604.out (by decide)) e_) e_))); have n9_ := Aside0.mk (blk_kept (by (with_reducible repeat (first | refine blk_drewN ?_ _ | refine blk_drew ?_ | refine blk_alloc ?_ _)); exact BK612.out) hkp (fun hs_ => Or.elim hs_ (fun e_ => (fun e_ => (Kd.R_ne HO_605000.out BK612.out (by decide)) e_) e_) (fun e_ => (fun e_ => (Kd.R_ne HO_605001.out BK612.out (by decide)) e_) e_))); have n10_ := Aside0.mk (Kd.R_mono (ok' := fun k_ => some k_ ≠ (.slice Ao24 t590.length co24 : Value).ownBlock ∧ some k_ ≠ (.slice Ao27 t593.length co27 : Value).ownBlock ∧ some k_ ≠ (.slice Ao31 t598.length co31 : Value).ownBlock ∧ some k_ ≠ (.slice Ao35 t601.length co35 : Value).ownBlock ∧ some k_ ≠ (.slice Ao38 t605.length co38 : Value).ownBlock ∧ some k_ ≠ (.slice Ao43 t608.length co43 : Value).ownBlock ∧ some k_ ≠ (.slice Ao71 t617.length co71 : Value).ownBlock) (Kd.R_keptB (HO616.out) hkp (fun k_ hk_ hs_ => Or.elim hs_ (fun e_ => (hk_.1.1.1.2) e_) (fun e_ => (hk_.1.1.2) e_))) (fun k_ hk_ => ⟨hk_.1.1.1.1.1.1.2, hk_.1.1.1.1.1.2, hk_.1.1.1.1.2, hk_.1.1.1.2, hk_.1.1.2, hk_.1.2, hk_.1.1.1.1.1.1.1⟩)); have n11_ := Aside0.mk (Kd.R_mono (ok' := fun k_ => some k_ ≠ (.slice Ao24 t590.length co24 : Value).ownBlock ∧ some k_ ≠ (.slice Ao27 t593.length co27 : Value).ownBlock ∧ some k_ ≠ (.slice Ao31 t598.length co31 : Value).ownBlock ∧ some k_ ≠ (.slice Ao35 t601.length co35 : Value).ownBlock ∧ some k_ ≠ (.slice Ao38 t605.length co38 : Value).ownBlock ∧ some k_ ≠ (.slice Ao43 t608.length co43 : Value).ownBlock ∧ some k_ ≠ (.slice Ao70 t614.length co70 : Value).ownBlock) (Kd.R_keptB (HO619.out) hkp (fun k_ hk_ hs_ => Or.elim hs_ (fun e_ => (hk_.1.1.1.2) e_) (fun e_ => (hk_.1.1.2) e_))) (fun k_ hk_ => ⟨hk_.1.1.1.1.1.1.2, hk_.1.1.1.1.1.2, hk_.1.1.1.1.2, hk_.1.1.1.2, hk_.1.1.2, hk_.1.2, hk_.1.1.1.1.1.1.1⟩)); have n12_ := Aside0.mk (hb); clear HO_598000; clear HO_598001; clear HO_605000; clear HO_605001; clear HO_613000; clear HO_613001; clear BK582; clear BK597; clear BK604; clear BK612; clear HO616; clear HO619; clear HB; have HO_598000 := n0_; have HO_598001 := n1_; have HO_605000 := n2_; have HO_605001 := n3_; have HO_613000 := n4_; have HO_613001 := n5_; have BK582 := n6_; have BK597 := n7_; have BK604 := n8_; have BK612 := n9_; have HO616 := n10_; have HO619 := n11_; have HB := n12_; clear n0_ n1_ n2_ n3_ n4_ n5_ n6_ n7_ n8_ n9_ n10_ n11_ n12_; (try clear hb); (try clear hkp); (try clear hy0); (try clear hy1)))
       (try simp only [Act.put, List.setIfInBounds_toArray, List.set_cons_zero, List.set_cons_succ])
       go_cut [68] (fun v68 wc => ∃ (kq : Nat) (x68_66 : Bool), v68 = .bool x68_66 ∧ Aside0 (laws_FnExactRunWord.j1 kq a1 t596 x68_66 l0_0 l0_1 t590 t593 t605 t608 = some true) ∧ Aside0 (kq ≤ kj13) ∧ Aside0 (Kd.R (Kd.int .i64) 3 wc w.heap.size (fun k_ => some k_ ≠ ((.slice Ao27 t593.length co27) : Value).ownBlock ∧ some k_ ≠ ((.slice Ao31 t598.length co31) : Value).ownBlock ∧ some k_ ≠ ((.slice Ao35 t601.length co35) : Value).ownBlock ∧ some k_ ≠ ((.slice Ao38 t605.length co38) : Value).ownBlock ∧ some k_ ≠ ((.slice Ao43 t608.length co43) : Value).ownBlock) (.slice Ao24 t590.length co24) t590) ∧ Aside0 (Kd.R (Kd.int .i64) 3 wc w.heap.size (fun k_ => some k_ ≠ ((.slice Ao24 t590.length co24) : Value).ownBlock ∧ some k_ ≠ ((.slice Ao31 t598.length co31) : Value).ownBlock ∧ some k_ ≠ ((.slice Ao35 t601.length co35) : Value).ownBlock ∧ some k_ ≠ ((.slice Ao38 t605.length co38) : Value).ownBlock ∧ some k_ ≠ ((.slice Ao43 t608.length co43) : Value).ownBlock) (.slice Ao27 t593.length co27) t593) ∧ Aside0 (Kd.R (Kd.int .i64) 3 wc w.heap.size (fun k_ => some k_ ≠ ((.slice Ao24 t590.length co24) : Value).ownBlock ∧ some k_ ≠ ((.slice Ao27 t593.length co27) : Value).ownBlock ∧ some k_ ≠ ((.slice Ao35 t601.length co35) : Value).ownBlock ∧ some k_ ≠ ((.slice Ao38 t605.length co38) : Value).ownBlock ∧ some k_ ≠ ((.slice Ao43 t608.length co43) : Value).ownBlock) (.slice Ao31 t598.length co31) t622) ∧ Aside0 (Kd.R (Kd.int .i64) 3 wc w.heap.size (fun k_ => some k_ ≠ ((.slice Ao24 t590.length co24) : Value).ownBlock ∧ some k_ ≠ ((.slice Ao27 t593.length co27) : Value).ownBlock ∧ some k_ ≠ ((.slice Ao31 t598.length co31) : Value).ownBlock ∧ some k_ ≠ ((.slice Ao38 t605.length co38) : Value).ownBlock ∧ some k_ ≠ ((.slice Ao43 t608.length co43) : Value).ownBlock) (.slice Ao35 t601.length co35) t623) ∧ Aside0 (Kd.R (Kd.int .i64) 3 wc w.heap.size (fun k_ => some k_ ≠ ((.slice Ao24 t590.length co24) : Value).ownBlock ∧ some k_ ≠ ((.slice Ao27 t593.length co27) : Value).ownBlock ∧ some k_ ≠ ((.slice Ao31 t598.length co31) : Value).ownBlock ∧ some k_ ≠ ((.slice Ao35 t601.length co35) : Value).ownBlock ∧ some k_ ≠ ((.slice Ao43 t608.length co43) : Value).ownBlock) (.slice Ao38 t605.length co38) t605) ∧ Aside0 (Kd.R (Kd.int .i64) 3 wc w.heap.size (fun k_ => some k_ ≠ ((.slice Ao24 t590.length co24) : Value).ownBlock ∧ some k_ ≠ ((.slice Ao27 t593.length co27) : Value).ownBlock ∧ some k_ ≠ ((.slice Ao31 t598.length co31) : Value).ownBlock ∧ some k_ ≠ ((.slice Ao35 t601.length co35) : Value).ownBlock ∧ some k_ ≠ ((.slice Ao38 t605.length co38) : Value).ownBlock) (.slice Ao43 t608.length co43) t608) ∧ Aside0 (wc.heap[gb582]? = some (.cells #[(.slice A0_0 l0_0.length c0_0), (.slice A0_1 l0_1.length c0_1)] 24 (0, 0))) ∧ Aside0 (wc.heap[gb597]? = some (.cells #[(.slice Ao24 t590.length co24), (.slice Ao27 t593.length co27)] 27 (0, 0))) ∧ Aside0 (wc.heap[gb604]? = some (.cells #[(.slice Ao31 t598.length co31), (.slice Ao35 t601.length co35)] 27 (0, 0))) ∧ Aside0 (wc.heap[gb612]? = some (.cells #[(.slice Ao38 t605.length co38), (.slice Ao43 t608.length co43)] 27 (0, 0))) ∧ Aside0 (Below w.heap.size w wc))
       case first =>
        have H := HC67.out
        clear HC67
        by_cases c78 : t621 < 0
        ·rw [if_pos c78] at H
         have c78b0 : decide (t621 < 0) = true := decide_eq_true c78
         clear c78
         (first | rw [c78b0] | (simp only [i64_w, i32_w]; rw [c78b0]) | skip)
         exact absurd H (by cases kj13 <;> simp [laws_FnExactRunWord.j1])
        ·rw [if_neg c78] at H
         have c78b0 : decide (t621 < 0) = false := decide_eq_false c78
         clear c78
         (first | rw [c78b0] | (simp only [i64_w, i32_w]; rw [c78b0]) | skip)
         replace H := Option.bind_eq_some_iff.mp H
         obtain ⟨t624, A790, H⟩ := H
         replace H : (if t624 = true then (laws_FnExactRunWord.j1 kj13 a1 t596 (t611 != t596) l0_0 l0_1 t590 t593 t605 t608) else (laws_FnExactRunWord.j1 kj13 a1 t596 true l0_0 l0_1 t590 t593 t605 t608)) = some true := H
         have A79 := Aside0.mk A790
         clear A790
         by_cases c80 : t624 = true
         ·subst c80
          have H1 : (laws_FnExactRunWord.j1 kj13 a1 t596 (t611 != t596) l0_0 l0_1 t590 t593 t605 t608) = some true := by rw [if_pos rfl] at H; exact H
          clear H
          have H := H1
          clear H1
          have H' := Aside0.mk H
          clear H
          have hnb81 := NB612_582.out
          have hnc81 := NB582_612.out
          have hnb82 := NB612_597.out
          have hnc82 := NB597_612.out
          have hnb83 := NB612_604.out
          have hnc83 := NB604_612.out
          have hcz84_0 : w77.cell? ⟨gb612, 0, none⟩ = some (.slice Ao38 t605.length co38) := (blk_cell BK612.out 0).trans rfl
          have hcz84_1 : w77.cell? ⟨gb612, 1, none⟩ = some (.slice Ao43 t608.length co43) := (blk_cell BK612.out 1).trans rfl
          have hfz84_0 := blk_frozen BK612.out 0
          have hfz84_1 := blk_frozen BK612.out 1
          have hnb85 := NB597_582.out
          have hnc85 := NB582_597.out
          have hnb86 := NB597_604.out
          have hnc86 := NB604_597.out
          have hcz87_0 : w77.cell? ⟨gb597, 0, none⟩ = some (.slice Ao24 t590.length co24) := (blk_cell BK597.out 0).trans rfl
          have hcz87_1 : w77.cell? ⟨gb597, 1, none⟩ = some (.slice Ao27 t593.length co27) := (blk_cell BK597.out 1).trans rfl
          have hfz87_0 := blk_frozen BK597.out 0
          have hfz87_1 := blk_frozen BK597.out 1
          go_wp2_with (first | (go_at_call 16; (with_reducible refine (laws_eqSurface.calls kj13 _ _ t605 _ _ t608 _ _ t590 _ _ t593 true _ ?side1 ?side2 ?side3 ?side4 ?side5 ?side6 ?side7 ?side8 A79.out).mono ?_); (case side1 => repeat (first | exact (Kd.R_reads' HO_613000.out).2.2 | (with_reducible refine Kd.C_alloc ?_ _) | (with_reducible refine Kd.C_drewN ?_ _) | (with_reducible refine Kd.C_drew ?_))); (case side2 => exact (Kd.R_reads' HO_613000.out).2.1); (case side3 => repeat (first | exact (Kd.R_reads' HO_613001.out).2.2 | (with_reducible refine Kd.C_alloc ?_ _) | (with_reducible refine Kd.C_drewN ?_ _) | (with_reducible refine Kd.C_drew ?_))); (case side4 => exact (Kd.R_reads' HO_613001.out).2.1); (case side5 => repeat (first | exact (Kd.R_reads' HO_598000.out).2.2 | (with_reducible refine Kd.C_alloc ?_ _) | (with_reducible refine Kd.C_drewN ?_ _) | (with_reducible refine Kd.C_drew ?_))); (case side6 => exact (Kd.R_reads' HO_598000.out).2.1); (case side7 => repeat (first | exact (Kd.R_reads' HO_598001.out).2.2 | (with_reducible refine Kd.C_alloc ?_ _) | (with_reducible refine Kd.C_drewN ?_ _) | (with_reducible refine Kd.C_drew ?_))); (case side8 => exact (Kd.R_reads' HO_598001.out).2.1); rintro e w88 ⟨rfl, hb⟩; have n0_ := Aside0.mk (Kd.R_below (by (with_reducible repeat (first | apply Kd.R_alloc | apply Kd.R_drewN | apply Kd.R_drew)); exact HO_598000.out) hb); have n1_ := Aside0.mk (Kd.R_below (by (with_reducible repeat (first | apply Kd.R_alloc | apply Kd.R_drewN | apply Kd.R_drew)); exact HO_598001.out) hb); have n2_ := Aside0.mk (Kd.R_below (by (with_reducible repeat (first | apply Kd.R_alloc | apply Kd.R_drewN | apply Kd.R_drew)); exact HO_605000.out) hb); have n3_ := Aside0.mk (Kd.R_below (by (with_reducible repeat (first | apply Kd.R_alloc | apply Kd.R_drewN | apply Kd.R_drew)); exact HO_605001.out) hb); have n4_ := Aside0.mk (Kd.R_below (by (with_reducible repeat (first | apply Kd.R_alloc | apply Kd.R_drewN | apply Kd.R_drew)); exact HO_613000.out) hb); have n5_ := Aside0.mk (Kd.R_below (by (with_reducible repeat (first | apply Kd.R_alloc | apply Kd.R_drewN | apply Kd.R_drew)); exact HO_613001.out) hb); have n6_ := Aside0.mk (Kd.R_below (by (with_reducible repeat (first | apply Kd.R_alloc | apply Kd.R_drewN | apply Kd.R_drew)); exact HO616.out) hb); have n7_ := Aside0.mk (Kd.R_below (by (with_reducible repeat (first | apply Kd.R_alloc | apply Kd.R_drewN | apply Kd.R_drew)); exact HO619.out) hb); have n8_ := Aside0.mk (blk_below (g := gb582) (o := .cells #[.slice A0_0 l0_0.length c0_0, .slice A0_1 l0_1.length c0_1] 24 (0, 0)) (by (with_reducible repeat (first | refine blk_drewN ?_ _ | refine blk_drew ?_ | refine blk_alloc ?_ _)); exact BK582.out) hb); have n9_ := Aside0.mk (blk_below (g := gb597) (o := .cells #[.slice Ao24 t590.length co24, .slice Ao27 t593.length co27] 27 (0, 0)) (by (with_reducible repeat (first | refine blk_drewN ?_ _ | refine blk_drew ?_ | refine blk_alloc ?_ _)); exact BK597.out) hb); have n10_ := Aside0.mk (blk_below (g := gb604) (o := .cells #[.slice Ao31 t598.length co31, .slice Ao35 t601.length co35] 27 (0, 0)) (by (with_reducible repeat (first | refine blk_drewN ?_ _ | refine blk_drew ?_ | refine blk_alloc ?_ _)); exact BK604.out) hb); have n11_ := Aside0.mk (blk_below (g := gb612) (o := .cells #[.slice Ao38 t605.length co38, .slice Ao43 t608.length co43] 27 (0, 0)) (by (with_reducible repeat (first | refine blk_drewN ?_ _ | refine blk_drew ?_ | refine blk_alloc ?_ _)); exact BK612.out) hb); have n12_ := Aside0.mk (below_step (by repeat (first | (with_reducible first | exact HB.out | apply below_alloc | apply pw_below_drewN | apply below_drew1 | refine below_set ?_ GE582.out | refine below_set ?_ GE597.out | refine below_set ?_ GE604.out | refine below_set ?_ GE612.out) | exact HB.out)) hb); clear HO_598000; clear HO_598001; clear HO_605000; clear HO_605001; clear HO_613000; clear HO_613001; clear HO616; clear HO619; clear BK582; clear BK597; clear BK604; clear BK612; clear HB; have HO_598000 := n0_; have HO_598001 := n1_; have HO_605000 := n2_; have HO_605001 := n3_; have HO_613000 := n4_; have HO_613001 := n5_; have HO616 := n6_; have HO619 := n7_; have BK582 := n8_; have BK597 := n9_; have BK604 := n10_; have BK612 := n11_; have HB := n12_; clear n0_ n1_ n2_ n3_ n4_ n5_ n6_ n7_ n8_ n9_ n10_ n11_ n12_; (try clear hb); (try clear hb2); (try clear hk); (try clear hi)))
          go_meet
          case rel => exact ⟨_, ((t611 != t596)), (by first | rfl | (simp; done) | (simp [*]; done)), H', ⟨by have := HJ13.out; first | omega | exact Nat.le_refl _⟩, ⟨by (with_reducible repeat (first | apply Kd.R_alloc | apply Kd.R_drewN | apply Kd.R_drew)); exact Kd.R_mono HO_598000.out (fun _ hk => ⟨hk.1, ⟨hk.2.1, ⟨hk.2.2.1, ⟨hk.2.2.2.1, hk.2.2.2.2.1⟩⟩⟩⟩)⟩, ⟨by (with_reducible repeat (first | apply Kd.R_alloc | apply Kd.R_drewN | apply Kd.R_drew)); exact Kd.R_mono HO_598001.out (fun _ hk => ⟨hk.1, ⟨hk.2.1, ⟨hk.2.2.1, ⟨hk.2.2.2.1, hk.2.2.2.2.1⟩⟩⟩⟩)⟩, ⟨by (with_reducible repeat (first | apply Kd.R_alloc | apply Kd.R_drewN | apply Kd.R_drew)); exact Kd.R_mono HO_605000.out (fun _ hk => ⟨hk.1.1.1, ⟨hk.1.1.2.1, ⟨hk.1.1.2.2.1, ⟨hk.1.1.2.2.2.1, hk.1.1.2.2.2.2⟩⟩⟩⟩)⟩, ⟨by (with_reducible repeat (first | apply Kd.R_alloc | apply Kd.R_drewN | apply Kd.R_drew)); exact Kd.R_mono HO_605001.out (fun _ hk => ⟨hk.1.1.1, ⟨hk.1.1.2.1, ⟨hk.1.1.2.2.1, ⟨hk.1.1.2.2.2.1, hk.1.1.2.2.2.2⟩⟩⟩⟩)⟩, ⟨by (with_reducible repeat (first | apply Kd.R_alloc | apply Kd.R_drewN | apply Kd.R_drew)); exact Kd.R_mono HO_613000.out (fun _ hk => ⟨hk.1, ⟨hk.2.1, ⟨hk.2.2.1, ⟨hk.2.2.2.1, hk.2.2.2.2.1⟩⟩⟩⟩)⟩, ⟨by (with_reducible repeat (first | apply Kd.R_alloc | apply Kd.R_drewN | apply Kd.R_drew)); exact Kd.R_mono HO_613001.out (fun _ hk => ⟨hk.1, ⟨hk.2.1, ⟨hk.2.2.1, ⟨hk.2.2.2.1, hk.2.2.2.2.1⟩⟩⟩⟩)⟩, ⟨by (with_reducible repeat (first | refine blk_drewN ?_ _ | refine blk_drew ?_ | refine blk_alloc ?_ _)); exact BK582.out⟩, ⟨by (with_reducible repeat (first | refine blk_drewN ?_ _ | refine blk_drew ?_ | refine blk_alloc ?_ _)); exact BK597.out⟩, ⟨by (with_reducible repeat (first | refine blk_drewN ?_ _ | refine blk_drew ?_ | refine blk_alloc ?_ _)); exact BK604.out⟩, ⟨by (with_reducible repeat (first | refine blk_drewN ?_ _ | refine blk_drew ?_ | refine blk_alloc ?_ _)); exact BK612.out⟩, ⟨by repeat (first | (with_reducible first | exact HB.out | apply below_alloc | apply pw_below_drewN | apply below_drew1 | refine below_set ?_ GE582.out | refine below_set ?_ GE597.out | refine below_set ?_ GE604.out | refine below_set ?_ GE612.out) | exact HB.out)⟩⟩
         ·replace c80 := Bool.eq_false_iff.mpr c80
          subst c80
          have H1 : (laws_FnExactRunWord.j1 kj13 a1 t596 true l0_0 l0_1 t590 t593 t605 t608) = some true := by rw [if_neg (show ¬ (false = true) by decide)] at H; exact H
          clear H
          have H := H1
          clear H1
          exact absurd H (by cases kj13 <;> simp [laws_FnExactRunWord.j1])
       case rest =>
        clear HC67
        try clear c1
        try clear c2
        try clear p2
        try clear c3
        try clear c3b0
        try clear c3b1
        try clear c4
        try clear c5
        try clear c6
        try clear c6b0
        try clear c7
        try clear c8
        try clear c9
        try clear c12
        try clear c14
        try clear c16
        try clear c20
        try clear c23
        try clear c24
        try clear c25
        try clear c32
        try clear c33
        try clear c39
        try clear c40
        try clear c41
        try clear c45
        try clear c46
        try clear c47
        try clear c48
        try clear c50
        try clear c51
        try clear c54
        try clear c55
        try clear c56
        try clear c58
        try clear c59
        try clear c62
        try clear c65
        try clear c73
        try clear c74
        try clear c75
        try clear c78
        try clear c78b0
        try clear c80
        try clear c81
        try clear c82
        try clear c83
        try clear c85
        try clear c86
        try clear c89
        try clear c90
        try clear c91
        try clear c93
        try clear c94
        try clear hcz16_0
        try clear hcz16_1
        try clear hcz18_0
        try clear hcz18_1
        try clear hcz26_0
        try clear hcz26_1
        try clear hcz28_0
        try clear hcz28_1
        try clear hcz34_0
        try clear hcz34_1
        try clear hcz42_0
        try clear hcz42_1
        try clear hcz49_0
        try clear hcz49_1
        try clear hcz52_0
        try clear hcz52_1
        try clear hcz57_0
        try clear hcz57_1
        try clear hcz60_0
        try clear hcz60_1
        try clear hcz76_0
        try clear hcz76_1
        try clear hcz84_0
        try clear hcz84_1
        try clear hcz87_0
        try clear hcz87_1
        try clear hcz8_0
        try clear hcz8_1
        try clear hcz92_0
        try clear hcz92_1
        try clear hcz95_0
        try clear hcz95_1
        try clear hfz16_0
        try clear hfz16_1
        try clear hfz18_0
        try clear hfz18_1
        try clear hfz26_0
        try clear hfz26_1
        try clear hfz28_0
        try clear hfz28_1
        try clear hfz34_0
        try clear hfz34_1
        try clear hfz42_0
        try clear hfz42_1
        try clear hfz49_0
        try clear hfz49_1
        try clear hfz52_0
        try clear hfz52_1
        try clear hfz57_0
        try clear hfz57_1
        try clear hfz60_0
        try clear hfz60_1
        try clear hfz76_0
        try clear hfz76_1
        try clear hfz84_0
        try clear hfz84_1
        try clear hfz87_0
        try clear hfz87_1
        try clear hfz8_0
        try clear hfz8_1
        try clear hfz92_0
        try clear hfz92_1
        try clear hfz95_0
        try clear hfz95_1
        try clear p2
        obtain ⟨kq, x68_66, rfl, HA, HJ66, HO_598000, HO_598001, HO_605000, HO_605001, HO_613000, HO_613001, BK582, BK597, BK604, BK612, HB⟩ := hcut
        have hl605000_66 := (Kd.R_reads' HO_605000.out).1
        rw [hl605000_66] at HO_605000
        (try simp only [hl605000_66])
        (try simp only [hl605000_66] at BK582)
        (try simp only [hl605000_66] at BK597)
        (try simp only [hl605000_66] at BK604)
        (try simp only [hl605000_66] at BK612)
        (try simp only [hl605000_66] at HO_598000)
        (try simp only [hl605000_66] at HO_598001)
        (try simp only [hl605000_66] at HO_605001)
        (try simp only [hl605000_66] at HO_613000)
        (try simp only [hl605000_66] at HO_613001)
        have hl605001_66 := (Kd.R_reads' HO_605001.out).1
        rw [hl605001_66] at HO_605001
        (try simp only [hl605001_66])
        (try simp only [hl605001_66] at BK582)
        (try simp only [hl605001_66] at BK597)
        (try simp only [hl605001_66] at BK604)
        (try simp only [hl605001_66] at BK612)
        (try simp only [hl605001_66] at HO_598000)
        (try simp only [hl605001_66] at HO_598001)
        (try simp only [hl605001_66] at HO_605000)
        (try simp only [hl605001_66] at HO_613000)
        (try simp only [hl605001_66] at HO_613001)
        cases kq with
        | zero => exact absurd HA.out (by simp [laws_FnExactRunWord.j1])
        | succ kj66 =>
         have H := HA.out
         clear HA
         simp only [laws_FnExactRunWord.j1] at H
         by_cases c97 : x68_66 = true
         ·subst c97
          have H1 : (some false) = some true := by rw [if_pos rfl] at H; exact H
          clear H
          have H := H1
          clear H1
          exact absurd H (by simp)
         ·replace c97 := Bool.eq_false_iff.mpr c97
          subst c97
          have H1 : ((laws_markSurface.f kj66 t605 t608 1).bind fun bt625 => ((laws_heldSurface.f kj66 bt625.2.1 bt625.2.2 1).bind fun t628 => (if t628 < 0 then (some false) else (if t628 = bt625.1 then ((laws_toSurface.f kj66 l0_0 l0_1).bind fun bt629 => ((impl_RunWord.f kj66 bt629.1 bt629.2 a1).bind fun bt635 => ((laws_eqSurface.f kj66 bt635.1 bt635.2.1 t590 t593).bind fun t643 => (if t643 = true then (laws_FnExactRunWord.j2 kj66 bt625.1 (bt635.2.2 != t596) bt625.2.1 bt625.2.2) else (laws_FnExactRunWord.j2 kj66 bt625.1 true bt625.2.1 bt625.2.2))))) else (some false))))) = some true := by rw [if_neg (show ¬ (false = true) by decide)] at H; exact H
          clear H
          have H := H1
          clear H1
          replace H := Option.bind_eq_some_iff.mp H
          obtain ⟨⟨t625, t626, t627⟩, A980, H⟩ := H
          replace H : ((laws_heldSurface.f kj66 t626 t627 1).bind fun t628 => (if t628 < 0 then (some false) else (if t628 = t625 then ((laws_toSurface.f kj66 l0_0 l0_1).bind fun bt629 => ((impl_RunWord.f kj66 bt629.1 bt629.2 a1).bind fun bt635 => ((laws_eqSurface.f kj66 bt635.1 bt635.2.1 t590 t593).bind fun t643 => (if t643 = true then (laws_FnExactRunWord.j2 kj66 t625 (bt635.2.2 != t596) t626 t627) else (laws_FnExactRunWord.j2 kj66 t625 true t626 t627))))) else (some false)))) = some true := H
          have A98 := Aside0.mk A980
          clear A980
          replace H := Option.bind_eq_some_iff.mp H
          obtain ⟨t628, A990, H⟩ := H
          replace H : (if t628 < 0 then (some false) else (if t628 = t625 then ((laws_toSurface.f kj66 l0_0 l0_1).bind fun bt629 => ((impl_RunWord.f kj66 bt629.1 bt629.2 a1).bind fun bt635 => ((laws_eqSurface.f kj66 bt635.1 bt635.2.1 t590 t593).bind fun t643 => (if t643 = true then (laws_FnExactRunWord.j2 kj66 t625 (bt635.2.2 != t596) t626 t627) else (laws_FnExactRunWord.j2 kj66 t625 true t626 t627))))) else (some false))) = some true := H
          have A99 := Aside0.mk A990
          clear A990
          by_cases c100 : t628 < 0
          ·rw [if_pos c100] at H
           have c100b0 : decide (t628 < 0) = true := decide_eq_true c100
           clear c100
           exact absurd H (by simp)
          ·rw [if_neg c100] at H
           have c100b0 : decide (t628 < 0) = false := decide_eq_false c100
           clear c100
           by_cases c108 : t628 = t625
           ·rw [if_pos c108] at H
            have c108b0 : (t628 == t625) = true := beq_iff_eq.mpr c108
            have c108b1 : (t628 != t625) = false := bne_eq_false_iff_eq.mpr c108
            clear c108
            replace H := Option.bind_eq_some_iff.mp H
            obtain ⟨⟨t629, t632⟩, A1090, H⟩ := H
            replace H : ((impl_RunWord.f kj66 t629 t632 a1).bind fun bt635 => ((laws_eqSurface.f kj66 bt635.1 bt635.2.1 t590 t593).bind fun t643 => (if t643 = true then (laws_FnExactRunWord.j2 kj66 t625 (bt635.2.2 != t596) t626 t627) else (laws_FnExactRunWord.j2 kj66 t625 true t626 t627)))) = some true := H
            have A109 := Aside0.mk A1090
            clear A1090
            replace H := Option.bind_eq_some_iff.mp H
            obtain ⟨⟨t635, t638, t641⟩, A1100, H⟩ := H
            replace H : ((laws_eqSurface.f kj66 t635 t638 t590 t593).bind fun t643 => (if t643 = true then (laws_FnExactRunWord.j2 kj66 t625 (t641 != t596) t626 t627) else (laws_FnExactRunWord.j2 kj66 t625 true t626 t627))) = some true := H
            have A110 := Aside0.mk A1100
            clear A1100
            have HC111 := Aside0.mk H
            clear H
            have hnb112 := NB612_582.out
            have hnc112 := NB582_612.out
            have hnb113 := NB612_597.out
            have hnc113 := NB597_612.out
            have hnb114 := NB612_604.out
            have hnc114 := NB604_612.out
            have hcz115_0 : wc.cell? ⟨gb612, 0, none⟩ = some (.slice Ao38 t605.length co38) := (blk_cell BK612.out 0).trans rfl
            have hcz115_1 : wc.cell? ⟨gb612, 1, none⟩ = some (.slice Ao43 t608.length co43) := (blk_cell BK612.out 1).trans rfl
            have hfz115_0 := blk_frozen BK612.out 0
            have hfz115_1 := blk_frozen BK612.out 1
            go_upto_region 27 with (first | ((with_reducible refine gate_callee (f := 20) rfl ?_); refine goesL_ (some 71) rfl rfl Try.func20 (by kernel_rfl) rfl #[.agg #[.slice Ao38 t605.length co38, .slice Ao43 t608.length co43], .int .i64 1] rfl (by (try simp only [List.map_toArray, List.map_cons, List.map_nil]); first | done | rfl | (simp only [List.length_drop, List.length_take]; rfl)) ?_; (with_reducible refine (laws_markSurface.calls kj66 (fun k_ => some k_ = (.slice Ao38 t605.length co38 : Value).ownBlock) (.slice Ao38 t605.length co38) t605 (fun k_ => some k_ = (.slice Ao43 t608.length co43 : Value).ownBlock) (.slice Ao43 t608.length co43) t608 1 t625 t626 t627 w _ ?side1 ?side2 ?side3 ?side4 ?side5 A98.out).mono ?_); (case side1 => repeat (first | (with_reducible first | exact HB.out | apply below_alloc | apply pw_below_drewN | apply below_drew1 | refine below_set ?_ GE582.out | refine below_set ?_ GE597.out | refine below_set ?_ GE604.out | refine below_set ?_ GE612.out) | exact HB.out)); (case side2 => exact Kd.R_tight rfl HO_613000.out); (case side3 => exact fun k_ e_ => (HO_613000.out.1 k_ e_.symm).2.2.2.2); (case side4 => exact Kd.R_tight rfl HO_613001.out); (case side5 => exact fun k_ e_ => (HO_613001.out.1 k_ e_.symm).2.2.2.2); rintro e w116 ⟨rfl, hy0, hy1, hb, hkp⟩; refine ⟨_, rfl, ?_⟩; have n0_ := Aside0.mk (Kd.R_mono (ok' := fun k_ => some k_ ≠ (.slice Ao27 t593.length co27 : Value).ownBlock ∧ some k_ ≠ (.slice Ao31 t622.length co31 : Value).ownBlock ∧ some k_ ≠ (.slice Ao35 t623.length co35 : Value).ownBlock ∧ some k_ ≠ (.slice Ao38 t605.length co38 : Value).ownBlock ∧ some k_ ≠ (.slice Ao43 t608.length co43 : Value).ownBlock) (Kd.R_keptB (HO_598000.out) hkp (fun k_ hk_ hs_ => Or.elim hs_ (fun e_ => (hk_.2.2.2.1) e_) (fun e_ => (hk_.2.2.2.2) e_))) (fun k_ hk_ => ⟨hk_.1.1, hk_.1.2.1, hk_.1.2.2.1, hk_.1.2.2.2.1, hk_.1.2.2.2.2⟩)); have n1_ := Aside0.mk (Kd.R_mono (ok' := fun k_ => some k_ ≠ (.slice Ao24 t590.length co24 : Value).ownBlock ∧ some k_ ≠ (.slice Ao31 t622.length co31 : Value).ownBlock ∧ some k_ ≠ (.slice Ao35 t623.length co35 : Value).ownBlock ∧ some k_ ≠ (.slice Ao38 t605.length co38 : Value).ownBlock ∧ some k_ ≠ (.slice Ao43 t608.length co43 : Value).ownBlock) (Kd.R_keptB (HO_598001.out) hkp (fun k_ hk_ hs_ => Or.elim hs_ (fun e_ => (hk_.2.2.2.1) e_) (fun e_ => (hk_.2.2.2.2) e_))) (fun k_ hk_ => ⟨hk_.1.1, hk_.1.2.1, hk_.1.2.2.1, hk_.1.2.2.2.1, hk_.1.2.2.2.2⟩)); have n2_ := Aside0.mk (Kd.R_mono (ok' := fun k_ => some k_ ≠ (.slice Ao24 t590.length co24 : Value).ownBlock ∧ some k_ ≠ (.slice Ao27 t593.length co27 : Value).ownBlock ∧ some k_ ≠ (.slice Ao35 t623.length co35 : Value).ownBlock ∧ some k_ ≠ (.slice Ao38 t605.length co38 : Value).ownBlock ∧ some k_ ≠ (.slice Ao43 t608.length co43 : Value).ownBlock) (Kd.R_keptB (HO_605000.out) hkp (fun k_ hk_ hs_ => Or.elim hs_ (fun e_ => (hk_.2.2.2.1) e_) (fun e_ => (hk_.2.2.2.2) e_))) (fun k_ hk_ => ⟨hk_.1.1, hk_.1.2.1, hk_.1.2.2.1, hk_.1.2.2.2.1, hk_.1.2.2.2.2⟩)); have n3_ := Aside0.mk (Kd.R_mono (ok' := fun k_ => some k_ ≠ (.slice Ao24 t590.length co24 : Value).ownBlock ∧ some k_ ≠ (.slice Ao27 t593.length co27 : Value).ownBlock ∧ some k_ ≠ (.slice Ao31 t622.length co31 : Value).ownBlock ∧ some k_ ≠ (.slice Ao38 t605.length co38 : Value).ownBlock ∧ some k_ ≠ (.slice Ao43 t608.length co43 : Value).ownBlock) (Kd.R_keptB (HO_605001.out) hkp (fun k_ hk_ hs_ => Or.elim hs_ (fun e_ => (hk_.2.2.2.1) e_) (fun e_ => (hk_.2.2.2.2) e_))) (fun k_ hk_ => ⟨hk_.1.1, hk_.1.2.1, hk_.1.2.2.1, hk_.1.2.2.2.1, hk_.1.2.2.2.2⟩)); have n4_ := Aside0.mk (Kd.R_reok rfl hy0 (fun k_ e_ => HO_613000.out.1 k_ e_)); have n5_ := Aside0.mk (Kd.R_reok rfl hy1 (fun k_ e_ => HO_613001.out.1 k_ e_)); have n6_ := Aside0.mk (blk_kept (by (with_reducible repeat (first | refine blk_drewN ?_ _ | refine blk_drew ?_ | refine blk_alloc ?_ _)); exact BK582.out) hkp (fun hs_ => Or.elim hs_ (fun e_ => (fun e_ => (Kd.R_ne HO_613000.out BK582.out (by decide)) e_) e_) (fun e_ => (fun e_ => (Kd.R_ne HO_613001.out BK582.out (by decide)) e_) e_))); have n7_ := Aside0.mk (blk_kept (by (with_reducible repeat (first | refine blk_drewN ?_ _ | refine blk_drew ?_ | refine blk_alloc ?_ _)); exact BK597.out) hkp (fun hs_ => Or.elim hs_ (fun e_ => (fun e_ => (Kd.R_ne HO_613000.out BK597.out (by decide)) e_) e_) (fun e_ => (fun e_ => (Kd.R_ne HO_613001.out BK597.out (by decide)) e_) e_))); have n8_ := Aside0.mk (blk_kept (by (with_reducible repeat (first | refine blk_drewN ?_ _ | refine blk_drew ?_ | refine blk_alloc ?_ _)); exact BK604.out) hkp (fun hs_ => Or.elim hs_ (fun e_ => (fun e_ => (Kd.R_ne HO_613000.out BK604.out (by decide)) e_) e_) (fun e_ => (fun e_ => (Kd.R_ne HO_613001.out BK604.out (by decide)) e_) e_))); have n9_ := Aside0.mk (blk_kept (by (with_reducible repeat (first | refine blk_drewN ?_ _ | refine blk_drew ?_ | refine blk_alloc ?_ _)); exact BK612.out) hkp (fun hs_ => Or.elim hs_ (fun e_ => (fun e_ => (Kd.R_ne HO_613000.out BK612.out (by decide)) e_) e_) (fun e_ => (fun e_ => (Kd.R_ne HO_613001.out BK612.out (by decide)) e_) e_))); have n10_ := Aside0.mk (hb); clear HO_598000; clear HO_598001; clear HO_605000; clear HO_605001; clear HO_613000; clear HO_613001; clear BK582; clear BK597; clear BK604; clear BK612; clear HB; have HO_598000 := n0_; have HO_598001 := n1_; have HO_605000 := n2_; have HO_605001 := n3_; have HO_613000 := n4_; have HO_613001 := n5_; have BK582 := n6_; have BK597 := n7_; have BK604 := n8_; have BK612 := n9_; have HB := n10_; clear n0_ n1_ n2_ n3_ n4_ n5_ n6_ n7_ n8_ n9_ n10_; (try clear hb); (try clear hkp); (try clear hy0); (try clear hy1); have hcz117_0 : w116.cell? ⟨gb612, 0, none⟩ = some (.slice Ao38 t605.length co38) := (blk_cell BK612.out 0).trans rfl; have hcz117_1 : w116.cell? ⟨gb612, 1, none⟩ = some (.slice Ao43 t608.length co43) := (blk_cell BK612.out 1).trans rfl; have hfz117_0 := blk_frozen BK612.out 0; have hfz117_1 := blk_frozen BK612.out 1) | ((with_reducible refine gate_callee (f := 25) rfl ?_); refine goesL_ (some 74) rfl rfl Try.func25 (by kernel_rfl) rfl #[.agg #[.slice Ao38 t626.length co38, .slice Ao43 t627.length co43], .int .i64 1] rfl (by (try simp only [List.map_toArray, List.map_cons, List.map_nil]); first | done | (rw [show t626.length = t605.length from (Kd.R_reads' HO_613000.out).1.symm, show t627.length = t608.length from (Kd.R_reads' HO_613001.out).1.symm] <;> rfl) | rfl | (simp only [List.length_drop, List.length_take]; rfl)) ?_; (with_reducible refine (laws_heldSurface.calls kj66 _ _ t626 _ _ t627 1 t628 _ ?side1 ?side2 ?side3 ?side4 A99.out).mono ?_); (case side1 => repeat (first | exact (Kd.R_reads' HO_613000.out).2.2 | (with_reducible refine Kd.C_alloc ?_ _) | (with_reducible refine Kd.C_drewN ?_ _) | (with_reducible refine Kd.C_drew ?_))); (case side2 => rw [show t626.length = t605.length from (Kd.R_reads' HO_613000.out).1.symm]; exact (Kd.R_reads' HO_613000.out).2.1); (case side3 => repeat (first | exact (Kd.R_reads' HO_613001.out).2.2 | (with_reducible refine Kd.C_alloc ?_ _) | (with_reducible refine Kd.C_drewN ?_ _) | (with_reducible refine Kd.C_drew ?_))); (case side4 => rw [show t627.length = t608.length from (Kd.R_reads' HO_613001.out).1.symm]; exact (Kd.R_reads' HO_613001.out).2.1); rintro e w118 ⟨rfl, hb⟩; refine ⟨_, rfl, ?_⟩; have n0_ := Aside0.mk (Kd.R_below (by (with_reducible repeat (first | apply Kd.R_alloc | apply Kd.R_drewN | apply Kd.R_drew)); exact HO_598000.out) hb); have n1_ := Aside0.mk (Kd.R_below (by (with_reducible repeat (first | apply Kd.R_alloc | apply Kd.R_drewN | apply Kd.R_drew)); exact HO_598001.out) hb); have n2_ := Aside0.mk (Kd.R_below (by (with_reducible repeat (first | apply Kd.R_alloc | apply Kd.R_drewN | apply Kd.R_drew)); exact HO_605000.out) hb); have n3_ := Aside0.mk (Kd.R_below (by (with_reducible repeat (first | apply Kd.R_alloc | apply Kd.R_drewN | apply Kd.R_drew)); exact HO_605001.out) hb); have n4_ := Aside0.mk (Kd.R_below (by (with_reducible repeat (first | apply Kd.R_alloc | apply Kd.R_drewN | apply Kd.R_drew)); exact HO_613000.out) hb); have n5_ := Aside0.mk (Kd.R_below (by (with_reducible repeat (first | apply Kd.R_alloc | apply Kd.R_drewN | apply Kd.R_drew)); exact HO_613001.out) hb); have n6_ := Aside0.mk (blk_below (g := gb582) (o := .cells #[.slice A0_0 l0_0.length c0_0, .slice A0_1 l0_1.length c0_1] 24 (0, 0)) (by (with_reducible repeat (first | refine blk_drewN ?_ _ | refine blk_drew ?_ | refine blk_alloc ?_ _)); exact BK582.out) hb); have n7_ := Aside0.mk (blk_below (g := gb597) (o := .cells #[.slice Ao24 t590.length co24, .slice Ao27 t593.length co27] 27 (0, 0)) (by (with_reducible repeat (first | refine blk_drewN ?_ _ | refine blk_drew ?_ | refine blk_alloc ?_ _)); exact BK597.out) hb); have n8_ := Aside0.mk (blk_below (g := gb604) (o := .cells #[.slice Ao31 t622.length co31, .slice Ao35 t623.length co35] 27 (0, 0)) (by (with_reducible repeat (first | refine blk_drewN ?_ _ | refine blk_drew ?_ | refine blk_alloc ?_ _)); exact BK604.out) hb); have n9_ := Aside0.mk (blk_below (g := gb612) (o := .cells #[.slice Ao38 t605.length co38, .slice Ao43 t608.length co43] 27 (0, 0)) (by (with_reducible repeat (first | refine blk_drewN ?_ _ | refine blk_drew ?_ | refine blk_alloc ?_ _)); exact BK612.out) hb); have n10_ := Aside0.mk (below_step (by repeat (first | (with_reducible first | exact HB.out | apply below_alloc | apply pw_below_drewN | apply below_drew1 | refine below_set ?_ GE582.out | refine below_set ?_ GE597.out | refine below_set ?_ GE604.out | refine below_set ?_ GE612.out) | exact HB.out)) hb); clear HO_598000; clear HO_598001; clear HO_605000; clear HO_605001; clear HO_613000; clear HO_613001; clear BK582; clear BK597; clear BK604; clear BK612; clear HB; have HO_598000 := n0_; have HO_598001 := n1_; have HO_605000 := n2_; have HO_605001 := n3_; have HO_613000 := n4_; have HO_613001 := n5_; have BK582 := n6_; have BK597 := n7_; have BK604 := n8_; have BK612 := n9_; have HB := n10_; clear n0_ n1_ n2_ n3_ n4_ n5_ n6_ n7_ n8_ n9_ n10_; (try clear hb); (try clear hb2); (try clear hk); (try clear hi); have hnb119 := NB582_597.out; have hnc119 := NB597_582.out; have hnb120 := NB582_604.out; have hnc120 := NB604_582.out; have hcz121_0 : w118.cell? ⟨gb582, 0, none⟩ = some (.slice A0_0 l0_0.length c0_0) := (blk_cell BK582.out 0).trans rfl; have hcz121_1 : w118.cell? ⟨gb582, 1, none⟩ = some (.slice A0_1 l0_1.length c0_1) := (blk_cell BK582.out 1).trans rfl; have hfz121_0 := blk_frozen BK582.out 0; have hfz121_1 := blk_frozen BK582.out 1) | ((with_reducible refine gate_callee (f := 14) rfl ?_); refine goesL_ (some 82) rfl rfl Try.func14 (by kernel_rfl) rfl #[.agg #[.slice A0_0 l0_0.length c0_0, .slice A0_1 l0_1.length c0_1]] rfl (by (try simp only [List.map_toArray, List.map_cons, List.map_nil]); first | done | rfl | (simp only [List.length_drop, List.length_take]; rfl)) ?_; (with_reducible refine (laws_toSurface.calls kj66 _ _ l0_0 _ _ l0_1 t629 t632 _ ?side1 ?side2 ?side3 ?side4 A109.out).mono ?_); (case side1 => repeat (first | exact (Kd.C_below HR0_0.out HB.out) | (with_reducible refine Kd.C_alloc ?_ _) | (with_reducible refine Kd.C_drewN ?_ _) | (with_reducible refine Kd.C_drew ?_))); (case side2 => exact HC0_0.out); (case side3 => repeat (first | exact (Kd.C_below HR0_1.out HB.out) | (with_reducible refine Kd.C_alloc ?_ _) | (with_reducible refine Kd.C_drewN ?_ _) | (with_reducible refine Kd.C_drew ?_))); (case side4 => exact HC0_1.out); rintro e w122 ⟨v630, v633, rfl, ho0, ho1, hb⟩; refine ⟨_, rfl, ?_⟩; have n0_ := Aside0.mk (Kd.R_mono (Kd.R_told (Kd.R_told (Kd.R_old (by (with_reducible repeat (first | apply Kd.R_alloc | apply Kd.R_drewN | apply Kd.R_drew)); exact HO_598000.out) hb) (Kd.R_base ho0)) (Kd.R_base ho1)) (fun _ h_ => h_.1)); have n1_ := Aside0.mk (Kd.R_mono (Kd.R_told (Kd.R_told (Kd.R_old (by (with_reducible repeat (first | apply Kd.R_alloc | apply Kd.R_drewN | apply Kd.R_drew)); exact HO_598001.out) hb) (Kd.R_base ho0)) (Kd.R_base ho1)) (fun _ h_ => h_.1)); have n2_ := Aside0.mk (Kd.R_mono (Kd.R_told (Kd.R_told (Kd.R_old (by (with_reducible repeat (first | apply Kd.R_alloc | apply Kd.R_drewN | apply Kd.R_drew)); exact HO_605000.out) hb) (Kd.R_base ho0)) (Kd.R_base ho1)) (fun _ h_ => h_.1)); have n3_ := Aside0.mk (Kd.R_mono (Kd.R_told (Kd.R_told (Kd.R_old (by (with_reducible repeat (first | apply Kd.R_alloc | apply Kd.R_drewN | apply Kd.R_drew)); exact HO_605001.out) hb) (Kd.R_base ho0)) (Kd.R_base ho1)) (fun _ h_ => h_.1)); have n4_ := Aside0.mk (Kd.R_mono (Kd.R_told (Kd.R_told (Kd.R_old (by (with_reducible repeat (first | apply Kd.R_alloc | apply Kd.R_drewN | apply Kd.R_drew)); exact HO_613000.out) hb) (Kd.R_base ho0)) (Kd.R_base ho1)) (fun _ h_ => h_.1)); have n5_ := Aside0.mk (Kd.R_mono (Kd.R_told (Kd.R_told (Kd.R_old (by (with_reducible repeat (first | apply Kd.R_alloc | apply Kd.R_drewN | apply Kd.R_drew)); exact HO_613001.out) hb) (Kd.R_base ho0)) (Kd.R_base ho1)) (fun _ h_ => h_.1)); have n6_ := Aside0.mk (Kd.R_lower (Kd.R_new' (Kd.R_new' (Kd.R_new' (Kd.R_new' (Kd.R_new' (Kd.R_new' ho0 (Kd.R_lt (by (with_reducible repeat (first | apply Kd.R_alloc | apply Kd.R_drewN | apply Kd.R_drew)); exact HO_598000.out))) (Kd.R_lt (by (with_reducible repeat (first | apply Kd.R_alloc | apply Kd.R_drewN | apply Kd.R_drew)); exact HO_598001.out))) (Kd.R_lt (by (with_reducible repeat (first | apply Kd.R_alloc | apply Kd.R_drewN | apply Kd.R_drew)); exact HO_605000.out))) (Kd.R_lt (by (with_reducible repeat (first | apply Kd.R_alloc | apply Kd.R_drewN | apply Kd.R_drew)); exact HO_605001.out))) (Kd.R_lt (by (with_reducible repeat (first | apply Kd.R_alloc | apply Kd.R_drewN | apply Kd.R_drew)); exact HO_613000.out))) (Kd.R_lt (by (with_reducible repeat (first | apply Kd.R_alloc | apply Kd.R_drewN | apply Kd.R_drew)); exact HO_613001.out))) (below_size (by repeat (first | (with_reducible first | exact HB.out | apply below_alloc | apply pw_below_drewN | apply below_drew1 | refine below_set ?_ GE582.out | refine below_set ?_ GE597.out | refine below_set ?_ GE604.out | refine below_set ?_ GE612.out) | exact HB.out)))); have n7_ := Aside0.mk (Kd.R_lower (Kd.R_new' (Kd.R_new' (Kd.R_new' (Kd.R_new' (Kd.R_new' (Kd.R_new' ho1 (Kd.R_lt (by (with_reducible repeat (first | apply Kd.R_alloc | apply Kd.R_drewN | apply Kd.R_drew)); exact HO_598000.out))) (Kd.R_lt (by (with_reducible repeat (first | apply Kd.R_alloc | apply Kd.R_drewN | apply Kd.R_drew)); exact HO_598001.out))) (Kd.R_lt (by (with_reducible repeat (first | apply Kd.R_alloc | apply Kd.R_drewN | apply Kd.R_drew)); exact HO_605000.out))) (Kd.R_lt (by (with_reducible repeat (first | apply Kd.R_alloc | apply Kd.R_drewN | apply Kd.R_drew)); exact HO_605001.out))) (Kd.R_lt (by (with_reducible repeat (first | apply Kd.R_alloc | apply Kd.R_drewN | apply Kd.R_drew)); exact HO_613000.out))) (Kd.R_lt (by (with_reducible repeat (first | apply Kd.R_alloc | apply Kd.R_drewN | apply Kd.R_drew)); exact HO_613001.out))) (below_size (by repeat (first | (with_reducible first | exact HB.out | apply below_alloc | apply pw_below_drewN | apply below_drew1 | refine below_set ?_ GE582.out | refine below_set ?_ GE597.out | refine below_set ?_ GE604.out | refine below_set ?_ GE612.out) | exact HB.out)))); have n8_ := Aside0.mk (blk_below (g := gb582) (o := .cells #[.slice A0_0 l0_0.length c0_0, .slice A0_1 l0_1.length c0_1] 24 (0, 0)) (by (with_reducible repeat (first | refine blk_drewN ?_ _ | refine blk_drew ?_ | refine blk_alloc ?_ _)); exact BK582.out) hb); have n9_ := Aside0.mk (blk_below (g := gb597) (o := .cells #[.slice Ao24 t590.length co24, .slice Ao27 t593.length co27] 27 (0, 0)) (by (with_reducible repeat (first | refine blk_drewN ?_ _ | refine blk_drew ?_ | refine blk_alloc ?_ _)); exact BK597.out) hb); have n10_ := Aside0.mk (blk_below (g := gb604) (o := .cells #[.slice Ao31 t622.length co31, .slice Ao35 t623.length co35] 27 (0, 0)) (by (with_reducible repeat (first | refine blk_drewN ?_ _ | refine blk_drew ?_ | refine blk_alloc ?_ _)); exact BK604.out) hb); have n11_ := Aside0.mk (blk_below (g := gb612) (o := .cells #[.slice Ao38 t605.length co38, .slice Ao43 t608.length co43] 27 (0, 0)) (by (with_reducible repeat (first | refine blk_drewN ?_ _ | refine blk_drew ?_ | refine blk_alloc ?_ _)); exact BK612.out) hb); have n12_ := Aside0.mk (below_step (by repeat (first | (with_reducible first | exact HB.out | apply below_alloc | apply pw_below_drewN | apply below_drew1 | refine below_set ?_ GE582.out | refine below_set ?_ GE597.out | refine below_set ?_ GE604.out | refine below_set ?_ GE612.out) | exact HB.out)) hb); clear HO_598000; clear HO_598001; clear HO_605000; clear HO_605001; clear HO_613000; clear HO_613001; clear BK582; clear BK597; clear BK604; clear BK612; clear HB; have HO_598000 := n0_; have HO_598001 := n1_; have HO_605000 := n2_; have HO_605001 := n3_; have HO_613000 := n4_; have HO_613001 := n5_; have HO631 := n6_; have HO634 := n7_; have BK582 := n8_; have BK597 := n9_; have BK604 := n10_; have BK612 := n11_; have HB := n12_; clear n0_ n1_ n2_ n3_ n4_ n5_ n6_ n7_ n8_ n9_ n10_ n11_ n12_; (try clear hb); (try clear hb2); (try clear hk); (try clear hi); (try clear ho0); (try clear ho1); obtain ⟨Ao123, co123, eo123⟩ := Kd.R_slice HO631.out; subst eo123; obtain ⟨Ao124, co124, eo124⟩ := Kd.R_slice HO634.out; subst eo124) | ((with_reducible refine gate_callee (f := 24) rfl ?_); refine goesL_ (some 84) rfl rfl Try.func24 (by kernel_rfl) rfl #[.agg #[.slice Ao123 t629.length co123, .slice Ao124 t632.length co124], .string a1] rfl (by (try simp only [List.map_toArray, List.map_cons, List.map_nil]); first | done | rfl | (simp only [List.length_drop, List.length_take]; rfl)) ?_; (with_reducible refine (impl_RunWord.calls kj66 _ _ t629 _ _ t632 a1 t635 t638 t641 _ ?side1 ?side2 ?side3 ?side4 A110.out).mono ?_); (case side1 => repeat (first | exact (Kd.R_reads' HO631.out).2.2 | (with_reducible refine Kd.C_alloc ?_ _) | (with_reducible refine Kd.C_drewN ?_ _) | (with_reducible refine Kd.C_drew ?_))); (case side2 => exact (Kd.R_reads' HO631.out).2.1); (case side3 => repeat (first | exact (Kd.R_reads' HO634.out).2.2 | (with_reducible refine Kd.C_alloc ?_ _) | (with_reducible refine Kd.C_drewN ?_ _) | (with_reducible refine Kd.C_drew ?_))); (case side4 => exact (Kd.R_reads' HO634.out).2.1); rintro e w125 ⟨v636, v639, rfl, ho0, ho1, hb⟩; refine ⟨_, rfl, ?_⟩; have n0_ := Aside0.mk (Kd.R_mono (Kd.R_told (Kd.R_told (Kd.R_old (by (with_reducible repeat (first | apply Kd.R_alloc | apply Kd.R_drewN | apply Kd.R_drew)); exact HO_598000.out) hb) (Kd.R_base ho0)) (Kd.R_base ho1)) (fun _ h_ => h_.1)); have n1_ := Aside0.mk (Kd.R_mono (Kd.R_told (Kd.R_told (Kd.R_old (by (with_reducible repeat (first | apply Kd.R_alloc | apply Kd.R_drewN | apply Kd.R_drew)); exact HO_598001.out) hb) (Kd.R_base ho0)) (Kd.R_base ho1)) (fun _ h_ => h_.1)); have n2_ := Aside0.mk (Kd.R_mono (Kd.R_told (Kd.R_told (Kd.R_old (by (with_reducible repeat (first | apply Kd.R_alloc | apply Kd.R_drewN | apply Kd.R_drew)); exact HO_605000.out) hb) (Kd.R_base ho0)) (Kd.R_base ho1)) (fun _ h_ => h_.1)); have n3_ := Aside0.mk (Kd.R_mono (Kd.R_told (Kd.R_told (Kd.R_old (by (with_reducible repeat (first | apply Kd.R_alloc | apply Kd.R_drewN | apply Kd.R_drew)); exact HO_605001.out) hb) (Kd.R_base ho0)) (Kd.R_base ho1)) (fun _ h_ => h_.1)); have n4_ := Aside0.mk (Kd.R_mono (Kd.R_told (Kd.R_told (Kd.R_old (by (with_reducible repeat (first | apply Kd.R_alloc | apply Kd.R_drewN | apply Kd.R_drew)); exact HO_613000.out) hb) (Kd.R_base ho0)) (Kd.R_base ho1)) (fun _ h_ => h_.1)); have n5_ := Aside0.mk (Kd.R_mono (Kd.R_told (Kd.R_told (Kd.R_old (by (with_reducible repeat (first | apply Kd.R_alloc | apply Kd.R_drewN | apply Kd.R_drew)); exact HO_613001.out) hb) (Kd.R_base ho0)) (Kd.R_base ho1)) (fun _ h_ => h_.1)); have n6_ := Aside0.mk (Kd.R_mono (Kd.R_told (Kd.R_told (Kd.R_old (by (with_reducible repeat (first | apply Kd.R_alloc | apply Kd.R_drewN | apply Kd.R_drew)); exact HO631.out) hb) (Kd.R_base ho0)) (Kd.R_base ho1)) (fun _ h_ => h_.1)); have n7_ := Aside0.mk (Kd.R_mono (Kd.R_told (Kd.R_told (Kd.R_old (by (with_reducible repeat (first | apply Kd.R_alloc | apply Kd.R_drewN | apply Kd.R_drew)); exact HO634.out) hb) (Kd.R_base ho0)) (Kd.R_base ho1)) (fun _ h_ => h_.1)); have n8_ := Aside0.mk (Kd.R_lower (Kd.R_new' (Kd.R_new' (Kd.R_new' (Kd.R_new' (Kd.R_new' (Kd.R_new' (Kd.R_new' (Kd.R_new' ho0 (Kd.R_lt (by (with_reducible repeat (first | apply Kd.R_alloc | apply Kd.R_drewN | apply Kd.R_drew)); exact HO_598000.out))) (Kd.R_lt (by (with_reducible repeat (first | apply Kd.R_alloc | apply Kd.R_drewN | apply Kd.R_drew)); exact HO_598001.out))) (Kd.R_lt (by (with_reducible repeat (first | apply Kd.R_alloc | apply Kd.R_drewN | apply Kd.R_drew)); exact HO_605000.out))) (Kd.R_lt (by (with_reducible repeat (first | apply Kd.R_alloc | apply Kd.R_drewN | apply Kd.R_drew)); exact HO_605001.out))) (Kd.R_lt (by (with_reducible repeat (first | apply Kd.R_alloc | apply Kd.R_drewN | apply Kd.R_drew)); exact HO_613000.out))) (Kd.R_lt (by (with_reducible repeat (first | apply Kd.R_alloc | apply Kd.R_drewN | apply Kd.R_drew)); exact HO_613001.out))) (Kd.R_lt (by (with_reducible repeat (first | apply Kd.R_alloc | apply Kd.R_drewN | apply Kd.R_drew)); exact HO631.out))) (Kd.R_lt (by (with_reducible repeat (first | apply Kd.R_alloc | apply Kd.R_drewN | apply Kd.R_drew)); exact HO634.out))) (below_size (by repeat (first | (with_reducible first | exact HB.out | apply below_alloc | apply pw_below_drewN | apply below_drew1 | refine below_set ?_ GE582.out | refine below_set ?_ GE597.out | refine below_set ?_ GE604.out | refine below_set ?_ GE612.out) | exact HB.out)))); have n9_ := Aside0.mk (Kd.R_lower (Kd.R_new' (Kd.R_new' (Kd.R_new' (Kd.R_new' (Kd.R_new' (Kd.R_new' (Kd.R_new' (Kd.R_new' ho1 (Kd.R_lt (by (with_reducible repeat (first | apply Kd.R_alloc | apply Kd.R_drewN | apply Kd.R_drew)); exact HO_598000.out))) (Kd.R_lt (by (with_reducible repeat (first | apply Kd.R_alloc | apply Kd.R_drewN | apply Kd.R_drew)); exact HO_598001.out))) (Kd.R_lt (by (with_reducible repeat (first | apply Kd.R_alloc | apply Kd.R_drewN | apply Kd.R_drew)); exact HO_605000.out))) (Kd.R_lt (by (with_reducible repeat (first | apply Kd.R_alloc | apply Kd.R_drewN | apply Kd.R_drew)); exact HO_605001.out))) (Kd.R_lt (by (with_reducible repeat (first | apply Kd.R_alloc | apply Kd.R_drewN | apply Kd.R_drew)); exact HO_613000.out))) (Kd.R_lt (by (with_reducible repeat (first | apply Kd.R_alloc | apply Kd.R_drewN | apply Kd.R_drew)); exact HO_613001.out))) (Kd.R_lt (by (with_reducible repeat (first | apply Kd.R_alloc | apply Kd.R_drewN | apply Kd.R_drew)); exact HO631.out))) (Kd.R_lt (by (with_reducible repeat (first | apply Kd.R_alloc | apply Kd.R_drewN | apply Kd.R_drew)); exact HO634.out))) (below_size (by repeat (first | (with_reducible first | exact HB.out | apply below_alloc | apply pw_below_drewN | apply below_drew1 | refine below_set ?_ GE582.out | refine below_set ?_ GE597.out | refine below_set ?_ GE604.out | refine below_set ?_ GE612.out) | exact HB.out)))); have n10_ := Aside0.mk (blk_below (g := gb582) (o := .cells #[.slice A0_0 l0_0.length c0_0, .slice A0_1 l0_1.length c0_1] 24 (0, 0)) (by (with_reducible repeat (first | refine blk_drewN ?_ _ | refine blk_drew ?_ | refine blk_alloc ?_ _)); exact BK582.out) hb); have n11_ := Aside0.mk (blk_below (g := gb597) (o := .cells #[.slice Ao24 t590.length co24, .slice Ao27 t593.length co27] 27 (0, 0)) (by (with_reducible repeat (first | refine blk_drewN ?_ _ | refine blk_drew ?_ | refine blk_alloc ?_ _)); exact BK597.out) hb); have n12_ := Aside0.mk (blk_below (g := gb604) (o := .cells #[.slice Ao31 t622.length co31, .slice Ao35 t623.length co35] 27 (0, 0)) (by (with_reducible repeat (first | refine blk_drewN ?_ _ | refine blk_drew ?_ | refine blk_alloc ?_ _)); exact BK604.out) hb); have n13_ := Aside0.mk (blk_below (g := gb612) (o := .cells #[.slice Ao38 t605.length co38, .slice Ao43 t608.length co43] 27 (0, 0)) (by (with_reducible repeat (first | refine blk_drewN ?_ _ | refine blk_drew ?_ | refine blk_alloc ?_ _)); exact BK612.out) hb); have n14_ := Aside0.mk (below_step (by repeat (first | (with_reducible first | exact HB.out | apply below_alloc | apply pw_below_drewN | apply below_drew1 | refine below_set ?_ GE582.out | refine below_set ?_ GE597.out | refine below_set ?_ GE604.out | refine below_set ?_ GE612.out) | exact HB.out)) hb); clear HO_598000; clear HO_598001; clear HO_605000; clear HO_605001; clear HO_613000; clear HO_613001; clear HO631; clear HO634; clear BK582; clear BK597; clear BK604; clear BK612; clear HB; have HO_598000 := n0_; have HO_598001 := n1_; have HO_605000 := n2_; have HO_605001 := n3_; have HO_613000 := n4_; have HO_613001 := n5_; have HO631 := n6_; have HO634 := n7_; have HO637 := n8_; have HO640 := n9_; have BK582 := n10_; have BK597 := n11_; have BK604 := n12_; have BK612 := n13_; have HB := n14_; clear n0_ n1_ n2_ n3_ n4_ n5_ n6_ n7_ n8_ n9_ n10_ n11_ n12_ n13_ n14_; (try clear hb); (try clear hb2); (try clear hk); (try clear hi); (try clear ho0); (try clear ho1)) | ((with_reducible refine gate_dst (N := 14) rfl ?_); refine box_event ?hg (N := 14) ?hd (cs := #[.slice none 0 0, .slice none 0 0]) (t := 27) ?hr ?_; (case hd => rfl); (case hg => rfl); (case hr => first | (go_simp; done) | (go_simp; rfl)); intro gb642 hg w126 hbox hb; have n0_ := Aside0.mk (Kd.R_below (by (with_reducible repeat (first | apply Kd.R_alloc | apply Kd.R_drewN | apply Kd.R_drew)); exact HO_598000.out) hb); have n1_ := Aside0.mk (Kd.R_below (by (with_reducible repeat (first | apply Kd.R_alloc | apply Kd.R_drewN | apply Kd.R_drew)); exact HO_598001.out) hb); have n2_ := Aside0.mk (Kd.R_below (by (with_reducible repeat (first | apply Kd.R_alloc | apply Kd.R_drewN | apply Kd.R_drew)); exact HO_605000.out) hb); have n3_ := Aside0.mk (Kd.R_below (by (with_reducible repeat (first | apply Kd.R_alloc | apply Kd.R_drewN | apply Kd.R_drew)); exact HO_605001.out) hb); have n4_ := Aside0.mk (Kd.R_below (by (with_reducible repeat (first | apply Kd.R_alloc | apply Kd.R_drewN | apply Kd.R_drew)); exact HO_613000.out) hb); have n5_ := Aside0.mk (Kd.R_below (by (with_reducible repeat (first | apply Kd.R_alloc | apply Kd.R_drewN | apply Kd.R_drew)); exact HO_613001.out) hb); have n6_ := Aside0.mk (Kd.R_below (by (with_reducible repeat (first | apply Kd.R_alloc | apply Kd.R_drewN | apply Kd.R_drew)); exact HO631.out) hb); have n7_ := Aside0.mk (Kd.R_below (by (with_reducible repeat (first | apply Kd.R_alloc | apply Kd.R_drewN | apply Kd.R_drew)); exact HO634.out) hb); have n8_ := Aside0.mk (Kd.R_below (by (with_reducible repeat (first | apply Kd.R_alloc | apply Kd.R_drewN | apply Kd.R_drew)); exact HO637.out) hb); have n9_ := Aside0.mk (Kd.R_below (by (with_reducible repeat (first | apply Kd.R_alloc | apply Kd.R_drewN | apply Kd.R_drew)); exact HO640.out) hb); have n10_ := Aside0.mk (blk_below (g := gb582) (o := .cells #[.slice A0_0 l0_0.length c0_0, .slice A0_1 l0_1.length c0_1] 24 (0, 0)) (by (with_reducible repeat (first | refine blk_drewN ?_ _ | refine blk_drew ?_ | refine blk_alloc ?_ _)); exact BK582.out) hb); have n11_ := Aside0.mk (blk_below (g := gb597) (o := .cells #[.slice Ao24 t590.length co24, .slice Ao27 t593.length co27] 27 (0, 0)) (by (with_reducible repeat (first | refine blk_drewN ?_ _ | refine blk_drew ?_ | refine blk_alloc ?_ _)); exact BK597.out) hb); have n12_ := Aside0.mk (blk_below (g := gb604) (o := .cells #[.slice Ao31 t622.length co31, .slice Ao35 t623.length co35] 27 (0, 0)) (by (with_reducible repeat (first | refine blk_drewN ?_ _ | refine blk_drew ?_ | refine blk_alloc ?_ _)); exact BK604.out) hb); have n13_ := Aside0.mk (blk_below (g := gb612) (o := .cells #[.slice Ao38 t605.length co38, .slice Ao43 t608.length co43] 27 (0, 0)) (by (with_reducible repeat (first | refine blk_drewN ?_ _ | refine blk_drew ?_ | refine blk_alloc ?_ _)); exact BK612.out) hb); have n14_ := Aside0.mk (below_step (by repeat (first | (with_reducible first | exact HB.out | apply below_alloc | apply pw_below_drewN | apply below_drew1 | refine below_set ?_ GE582.out | refine below_set ?_ GE597.out | refine below_set ?_ GE604.out | refine below_set ?_ GE612.out) | exact HB.out)) hb); have n15_ := Aside0.mk (hbox); have n16_ := Aside0.mk ((by rw [hg]; exact (below_size (by repeat (first | (with_reducible first | exact HB.out | apply below_alloc | apply pw_below_drewN | apply below_drew1 | refine below_set ?_ GE582.out | refine below_set ?_ GE597.out | refine below_set ?_ GE604.out | refine below_set ?_ GE612.out) | exact HB.out))) : w.heap.size ≤ gb642)); have n17_ := Aside0.mk ((by rw [hg]; exact (below_size (by repeat (first | (with_reducible first | exact HB.out | apply below_alloc | apply pw_below_drewN | apply below_drew1 | refine below_set ?_ GE582.out | refine below_set ?_ GE597.out | refine below_set ?_ GE604.out | refine below_set ?_ GE612.out) | exact HB.out))) : w.heap.size ≤ gb642)); have n18_ := Aside0.mk ((by rw [hg]; exact Nat.ne_of_lt (blk_lt (g := gb582) (o := .cells #[.slice A0_0 l0_0.length c0_0, .slice A0_1 l0_1.length c0_1] 24 (0, 0)) (by (with_reducible repeat (first | refine blk_drewN ?_ _ | refine blk_drew ?_ | refine blk_alloc ?_ _)); exact BK582.out)) : gb582 ≠ gb642)); have n19_ := Aside0.mk ((by rw [hg]; exact Nat.ne_of_gt (blk_lt (g := gb582) (o := .cells #[.slice A0_0 l0_0.length c0_0, .slice A0_1 l0_1.length c0_1] 24 (0, 0)) (by (with_reducible repeat (first | refine blk_drewN ?_ _ | refine blk_drew ?_ | refine blk_alloc ?_ _)); exact BK582.out)) : gb642 ≠ gb582)); have n20_ := Aside0.mk ((by rw [hg]; exact Nat.ne_of_lt (blk_lt (g := gb597) (o := .cells #[.slice Ao24 t590.length co24, .slice Ao27 t593.length co27] 27 (0, 0)) (by (with_reducible repeat (first | refine blk_drewN ?_ _ | refine blk_drew ?_ | refine blk_alloc ?_ _)); exact BK597.out)) : gb597 ≠ gb642)); have n21_ := Aside0.mk ((by rw [hg]; exact Nat.ne_of_gt (blk_lt (g := gb597) (o := .cells #[.slice Ao24 t590.length co24, .slice Ao27 t593.length co27] 27 (0, 0)) (by (with_reducible repeat (first | refine blk_drewN ?_ _ | refine blk_drew ?_ | refine blk_alloc ?_ _)); exact BK597.out)) : gb642 ≠ gb597)); have n22_ := Aside0.mk ((by rw [hg]; exact Nat.ne_of_lt (blk_lt (g := gb604) (o := .cells #[.slice Ao31 t622.length co31, .slice Ao35 t623.length co35] 27 (0, 0)) (by (with_reducible repeat (first | refine blk_drewN ?_ _ | refine blk_drew ?_ | refine blk_alloc ?_ _)); exact BK604.out)) : gb604 ≠ gb642)); have n23_ := Aside0.mk ((by rw [hg]; exact Nat.ne_of_gt (blk_lt (g := gb604) (o := .cells #[.slice Ao31 t622.length co31, .slice Ao35 t623.length co35] 27 (0, 0)) (by (with_reducible repeat (first | refine blk_drewN ?_ _ | refine blk_drew ?_ | refine blk_alloc ?_ _)); exact BK604.out)) : gb642 ≠ gb604)); have n24_ := Aside0.mk ((by rw [hg]; exact Nat.ne_of_lt (blk_lt (g := gb612) (o := .cells #[.slice Ao38 t605.length co38, .slice Ao43 t608.length co43] 27 (0, 0)) (by (with_reducible repeat (first | refine blk_drewN ?_ _ | refine blk_drew ?_ | refine blk_alloc ?_ _)); exact BK612.out)) : gb612 ≠ gb642)); have n25_ := Aside0.mk ((by rw [hg]; exact Nat.ne_of_gt (blk_lt (g := gb612) (o := .cells #[.slice Ao38 t605.length co38, .slice Ao43 t608.length co43] 27 (0, 0)) (by (with_reducible repeat (first | refine blk_drewN ?_ _ | refine blk_drew ?_ | refine blk_alloc ?_ _)); exact BK612.out)) : gb642 ≠ gb612)); clear HO_598000; clear HO_598001; clear HO_605000; clear HO_605001; clear HO_613000; clear HO_613001; clear HO631; clear HO634; clear HO637; clear HO640; clear BK582; clear BK597; clear BK604; clear BK612; clear HB; have HO_598000 := n0_; have HO_598001 := n1_; have HO_605000 := n2_; have HO_605001 := n3_; have HO_613000 := n4_; have HO_613001 := n5_; have HO631 := n6_; have HO634 := n7_; have HO637 := n8_; have HO640 := n9_; have BK582 := n10_; have BK597 := n11_; have BK604 := n12_; have BK612 := n13_; have HB := n14_; have BK642 := n15_; have GW642 := n16_; have GE642 := n17_; have NB582_642 := n18_; have NB642_582 := n19_; have NB597_642 := n20_; have NB642_597 := n21_; have NB604_642 := n22_; have NB642_604 := n23_; have NB612_642 := n24_; have NB642_612 := n25_; clear n0_ n1_ n2_ n3_ n4_ n5_ n6_ n7_ n8_ n9_ n10_ n11_ n12_ n13_ n14_ n15_ n16_ n17_ n18_ n19_ n20_ n21_ n22_ n23_ n24_ n25_; clear hb hbox hg; obtain ⟨Ao127, co127, eo127⟩ := Kd.R_slice HO637.out; subst eo127; have hnb128 := NB642_582.out; have hnc128 := NB582_642.out; have hnb129 := NB642_597.out; have hnc129 := NB597_642.out; have hnb130 := NB642_604.out; have hnc130 := NB604_642.out; have hnb131 := NB642_612.out; have hnc131 := NB612_642.out; have hcz132_0 : w126.cell? ⟨gb642, 0, none⟩ = some (.slice none 0 0) := (blk_cell BK642.out 0).trans rfl; have hcz132_1 : w126.cell? ⟨gb642, 1, none⟩ = some (.slice none 0 0) := (blk_cell BK642.out 1).trans rfl; have hfz132_0 := blk_frozen BK642.out 0; have hfz132_1 := blk_frozen BK642.out 1; obtain ⟨Ao133, co133, eo133⟩ := Kd.R_slice HO640.out; subst eo133))
            (try simp only [Act.put, List.setIfInBounds_toArray, List.set_cons_zero, List.set_cons_succ])
            go_cut [95] (fun v95 wc => ∃ (kq : Nat) (x95_110 : Bool), v95 = .bool x95_110 ∧ Aside0 (laws_FnExactRunWord.j2 kq t625 x95_110 t626 t627 = some true) ∧ Aside0 (kq ≤ kj66) ∧ Aside0 (Kd.R (Kd.int .i64) 3 wc w.heap.size (fun k_ => some k_ ≠ ((.slice Ao27 t593.length co27) : Value).ownBlock ∧ some k_ ≠ ((.slice Ao31 t622.length co31) : Value).ownBlock ∧ some k_ ≠ ((.slice Ao35 t623.length co35) : Value).ownBlock ∧ some k_ ≠ ((.slice Ao38 t605.length co38) : Value).ownBlock ∧ some k_ ≠ ((.slice Ao43 t608.length co43) : Value).ownBlock ∧ some k_ ≠ ((.slice Ao127 t635.length co127) : Value).ownBlock ∧ some k_ ≠ ((.slice Ao133 t638.length co133) : Value).ownBlock) (.slice Ao24 t590.length co24) t590) ∧ Aside0 (Kd.R (Kd.int .i64) 3 wc w.heap.size (fun k_ => some k_ ≠ ((.slice Ao24 t590.length co24) : Value).ownBlock ∧ some k_ ≠ ((.slice Ao31 t622.length co31) : Value).ownBlock ∧ some k_ ≠ ((.slice Ao35 t623.length co35) : Value).ownBlock ∧ some k_ ≠ ((.slice Ao38 t605.length co38) : Value).ownBlock ∧ some k_ ≠ ((.slice Ao43 t608.length co43) : Value).ownBlock ∧ some k_ ≠ ((.slice Ao127 t635.length co127) : Value).ownBlock ∧ some k_ ≠ ((.slice Ao133 t638.length co133) : Value).ownBlock) (.slice Ao27 t593.length co27) t593) ∧ Aside0 (Kd.R (Kd.int .i64) 3 wc w.heap.size (fun k_ => some k_ ≠ ((.slice Ao24 t590.length co24) : Value).ownBlock ∧ some k_ ≠ ((.slice Ao27 t593.length co27) : Value).ownBlock ∧ some k_ ≠ ((.slice Ao35 t623.length co35) : Value).ownBlock ∧ some k_ ≠ ((.slice Ao38 t605.length co38) : Value).ownBlock ∧ some k_ ≠ ((.slice Ao43 t608.length co43) : Value).ownBlock ∧ some k_ ≠ ((.slice Ao127 t635.length co127) : Value).ownBlock ∧ some k_ ≠ ((.slice Ao133 t638.length co133) : Value).ownBlock) (.slice Ao31 t622.length co31) t622) ∧ Aside0 (Kd.R (Kd.int .i64) 3 wc w.heap.size (fun k_ => some k_ ≠ ((.slice Ao24 t590.length co24) : Value).ownBlock ∧ some k_ ≠ ((.slice Ao27 t593.length co27) : Value).ownBlock ∧ some k_ ≠ ((.slice Ao31 t622.length co31) : Value).ownBlock ∧ some k_ ≠ ((.slice Ao38 t605.length co38) : Value).ownBlock ∧ some k_ ≠ ((.slice Ao43 t608.length co43) : Value).ownBlock ∧ some k_ ≠ ((.slice Ao127 t635.length co127) : Value).ownBlock ∧ some k_ ≠ ((.slice Ao133 t638.length co133) : Value).ownBlock) (.slice Ao35 t623.length co35) t623) ∧ Aside0 (Kd.R (Kd.int .i64) 3 wc w.heap.size (fun k_ => some k_ ≠ ((.slice Ao24 t590.length co24) : Value).ownBlock ∧ some k_ ≠ ((.slice Ao27 t593.length co27) : Value).ownBlock ∧ some k_ ≠ ((.slice Ao31 t622.length co31) : Value).ownBlock ∧ some k_ ≠ ((.slice Ao35 t623.length co35) : Value).ownBlock ∧ some k_ ≠ ((.slice Ao43 t608.length co43) : Value).ownBlock ∧ some k_ ≠ ((.slice Ao127 t635.length co127) : Value).ownBlock ∧ some k_ ≠ ((.slice Ao133 t638.length co133) : Value).ownBlock) (.slice Ao38 t605.length co38) t626) ∧ Aside0 (Kd.R (Kd.int .i64) 3 wc w.heap.size (fun k_ => some k_ ≠ ((.slice Ao24 t590.length co24) : Value).ownBlock ∧ some k_ ≠ ((.slice Ao27 t593.length co27) : Value).ownBlock ∧ some k_ ≠ ((.slice Ao31 t622.length co31) : Value).ownBlock ∧ some k_ ≠ ((.slice Ao35 t623.length co35) : Value).ownBlock ∧ some k_ ≠ ((.slice Ao38 t605.length co38) : Value).ownBlock ∧ some k_ ≠ ((.slice Ao127 t635.length co127) : Value).ownBlock ∧ some k_ ≠ ((.slice Ao133 t638.length co133) : Value).ownBlock) (.slice Ao43 t608.length co43) t627) ∧ Aside0 (Kd.R (Kd.int .i64) 3 wc w.heap.size (fun k_ => some k_ ≠ ((.slice Ao24 t590.length co24) : Value).ownBlock ∧ some k_ ≠ ((.slice Ao27 t593.length co27) : Value).ownBlock ∧ some k_ ≠ ((.slice Ao31 t622.length co31) : Value).ownBlock ∧ some k_ ≠ ((.slice Ao35 t623.length co35) : Value).ownBlock ∧ some k_ ≠ ((.slice Ao38 t605.length co38) : Value).ownBlock ∧ some k_ ≠ ((.slice Ao43 t608.length co43) : Value).ownBlock ∧ some k_ ≠ ((.slice Ao133 t638.length co133) : Value).ownBlock) (.slice Ao127 t635.length co127) t635) ∧ Aside0 (Kd.R (Kd.int .i64) 3 wc w.heap.size (fun k_ => some k_ ≠ ((.slice Ao24 t590.length co24) : Value).ownBlock ∧ some k_ ≠ ((.slice Ao27 t593.length co27) : Value).ownBlock ∧ some k_ ≠ ((.slice Ao31 t622.length co31) : Value).ownBlock ∧ some k_ ≠ ((.slice Ao35 t623.length co35) : Value).ownBlock ∧ some k_ ≠ ((.slice Ao38 t605.length co38) : Value).ownBlock ∧ some k_ ≠ ((.slice Ao43 t608.length co43) : Value).ownBlock ∧ some k_ ≠ ((.slice Ao127 t635.length co127) : Value).ownBlock) (.slice Ao133 t638.length co133) t638) ∧ Aside0 (wc.heap[gb582]? = some (.cells #[(.slice A0_0 l0_0.length c0_0), (.slice A0_1 l0_1.length c0_1)] 24 (0, 0))) ∧ Aside0 (wc.heap[gb597]? = some (.cells #[(.slice Ao24 t590.length co24), (.slice Ao27 t593.length co27)] 27 (0, 0))) ∧ Aside0 (wc.heap[gb604]? = some (.cells #[(.slice Ao31 t622.length co31), (.slice Ao35 t623.length co35)] 27 (0, 0))) ∧ Aside0 (wc.heap[gb612]? = some (.cells #[(.slice Ao38 t605.length co38), (.slice Ao43 t608.length co43)] 27 (0, 0))) ∧ Aside0 (wc.heap[gb642]? = some (.cells #[(.slice Ao127 t635.length co127), (.slice Ao133 t638.length co133)] 27 (0, 0))) ∧ Aside0 (Below w.heap.size w wc))
            case first =>
             have H := HC111.out
             clear HC111
             replace H := Option.bind_eq_some_iff.mp H
             obtain ⟨t643, A1340, H⟩ := H
             replace H : (if t643 = true then (laws_FnExactRunWord.j2 kj66 t625 (t641 != t596) t626 t627) else (laws_FnExactRunWord.j2 kj66 t625 true t626 t627)) = some true := H
             have A134 := Aside0.mk A1340
             clear A1340
             by_cases c135 : t643 = true
             ·subst c135
              have H1 : (laws_FnExactRunWord.j2 kj66 t625 (t641 != t596) t626 t627) = some true := by rw [if_pos rfl] at H; exact H
              clear H
              have H := H1
              clear H1
              have H' := Aside0.mk H
              clear H
              have hnb136 := NB642_582.out
              have hnc136 := NB582_642.out
              have hnb137 := NB642_597.out
              have hnc137 := NB597_642.out
              have hnb138 := NB642_604.out
              have hnc138 := NB604_642.out
              have hnb139 := NB642_612.out
              have hnc139 := NB612_642.out
              have hcz140_0 : w126.cell? ⟨gb642, 0, none⟩ = some (.slice none 0 0) := (blk_cell BK642.out 0).trans rfl
              have hcz140_1 : w126.cell? ⟨gb642, 1, none⟩ = some (.slice none 0 0) := (blk_cell BK642.out 1).trans rfl
              have hfz140_0 := blk_frozen BK642.out 0
              have hfz140_1 := blk_frozen BK642.out 1
              have hnb141 := NB597_582.out
              have hnc141 := NB582_597.out
              have hnb142 := NB597_604.out
              have hnc142 := NB604_597.out
              have hnb143 := NB597_612.out
              have hnc143 := NB612_597.out
              have hcz144_0 : w126.cell? ⟨gb597, 0, none⟩ = some (.slice Ao24 t590.length co24) := (blk_cell BK597.out 0).trans rfl
              have hcz144_1 : w126.cell? ⟨gb597, 1, none⟩ = some (.slice Ao27 t593.length co27) := (blk_cell BK597.out 1).trans rfl
              have hfz144_0 := blk_frozen BK597.out 0
              have hfz144_1 := blk_frozen BK597.out 1
              go_wp2_with (first | ((with_reducible refine gate_callee (f := 16) rfl ?_); refine goesL_ (some 89) rfl rfl Try.func16 (by kernel_rfl) rfl #[.agg #[.slice Ao127 t635.length co127, .slice Ao133 t638.length co133], .agg #[.slice Ao24 t590.length co24, .slice Ao27 t593.length co27]] rfl (by (try simp only [List.map_toArray, List.map_cons, List.map_nil]); first | done | rfl | (simp only [List.length_drop, List.length_take]; rfl)) ?_; (with_reducible refine (laws_eqSurface.calls kj66 _ _ t635 _ _ t638 _ _ t590 _ _ t593 true _ ?side1 ?side2 ?side3 ?side4 ?side5 ?side6 ?side7 ?side8 A134.out).mono ?_); (case side1 => refine (Kd.R_reads' (e := 3) (base := w.heap.size) (ok := fun k_ => ((((((((some k_ ≠ (.slice Ao133 t638.length co133 : Value).ownBlock ∧ some k_ ≠ (.slice Ao24 t590.length co24 : Value).ownBlock) ∧ some k_ ≠ (.slice Ao27 t593.length co27 : Value).ownBlock) ∧ some k_ ≠ (.slice Ao31 t622.length co31 : Value).ownBlock) ∧ some k_ ≠ (.slice Ao35 t623.length co35 : Value).ownBlock) ∧ some k_ ≠ (.slice Ao38 t605.length co38 : Value).ownBlock) ∧ some k_ ≠ (.slice Ao43 t608.length co43 : Value).ownBlock) ∧ some k_ ≠ (.slice Ao123 t629.length co123 : Value).ownBlock) ∧ some k_ ≠ (.slice Ao124 t632.length co124 : Value).ownBlock)) (n := t635.length) (c := co127) ?_).2.2; exact (by (with_reducible repeat (first | apply Kd.R_alloc | apply Kd.R_drewN | apply Kd.R_drew)); exact (Kd.R_mono (Kd.R_far (p := ⟨gb642, 1, none⟩) (Kd.R_far (p := ⟨gb642, 0, none⟩) (Kd.R_types HO637.out BK642.out (by decide)) (fun _ hk => hk.2) (.slice Ao127 t635.length co127)) (fun _ hk => hk.2) (.slice Ao133 t638.length co133)) (fun _ h_ => h_.1)))); (case side2 => exact (Kd.R_reads' HO637.out).2.1); (case side3 => refine (Kd.R_reads' (e := 3) (base := w.heap.size) (ok := fun k_ => ((((((((some k_ ≠ (.slice Ao127 t635.length co127 : Value).ownBlock ∧ some k_ ≠ (.slice Ao24 t590.length co24 : Value).ownBlock) ∧ some k_ ≠ (.slice Ao27 t593.length co27 : Value).ownBlock) ∧ some k_ ≠ (.slice Ao31 t622.length co31 : Value).ownBlock) ∧ some k_ ≠ (.slice Ao35 t623.length co35 : Value).ownBlock) ∧ some k_ ≠ (.slice Ao38 t605.length co38 : Value).ownBlock) ∧ some k_ ≠ (.slice Ao43 t608.length co43 : Value).ownBlock) ∧ some k_ ≠ (.slice Ao123 t629.length co123 : Value).ownBlock) ∧ some k_ ≠ (.slice Ao124 t632.length co124 : Value).ownBlock)) (n := t638.length) (c := co133) ?_).2.2; exact (by (with_reducible repeat (first | apply Kd.R_alloc | apply Kd.R_drewN | apply Kd.R_drew)); exact (Kd.R_mono (Kd.R_far (p := ⟨gb642, 1, none⟩) (Kd.R_far (p := ⟨gb642, 0, none⟩) (Kd.R_types HO640.out BK642.out (by decide)) (fun _ hk => hk.2) (.slice Ao127 t635.length co127)) (fun _ hk => hk.2) (.slice Ao133 t638.length co133)) (fun _ h_ => h_.1)))); (case side4 => exact (Kd.R_reads' HO640.out).2.1); (case side5 => refine (Kd.R_reads' (e := 3) (base := w.heap.size) (ok := fun k_ => (((((some k_ ≠ (.slice Ao27 t593.length co27 : Value).ownBlock ∧ (some k_ ≠ (.slice Ao31 t622.length co31 : Value).ownBlock ∧ (some k_ ≠ (.slice Ao35 t623.length co35 : Value).ownBlock ∧ (some k_ ≠ (.slice Ao38 t605.length co38 : Value).ownBlock ∧ some k_ ≠ (.slice Ao43 t608.length co43 : Value).ownBlock)))) ∧ some k_ ≠ (.slice Ao123 t629.length co123 : Value).ownBlock) ∧ some k_ ≠ (.slice Ao124 t632.length co124 : Value).ownBlock) ∧ some k_ ≠ (.slice Ao127 t635.length co127 : Value).ownBlock) ∧ some k_ ≠ (.slice Ao133 t638.length co133 : Value).ownBlock)) (n := t590.length) (c := co24) ?_).2.2; exact (by (with_reducible repeat (first | apply Kd.R_alloc | apply Kd.R_drewN | apply Kd.R_drew)); exact (Kd.R_mono (Kd.R_far (p := ⟨gb642, 1, none⟩) (Kd.R_far (p := ⟨gb642, 0, none⟩) (Kd.R_types HO_598000.out BK642.out (by decide)) (fun _ hk => hk.2) (.slice Ao127 t635.length co127)) (fun _ hk => hk.2) (.slice Ao133 t638.length co133)) (fun _ h_ => h_.1)))); (case side6 => exact (Kd.R_reads' HO_598000.out).2.1); (case side7 => refine (Kd.R_reads' (e := 3) (base := w.heap.size) (ok := fun k_ => (((((some k_ ≠ (.slice Ao24 t590.length co24 : Value).ownBlock ∧ (some k_ ≠ (.slice Ao31 t622.length co31 : Value).ownBlock ∧ (some k_ ≠ (.slice Ao35 t623.length co35 : Value).ownBlock ∧ (some k_ ≠ (.slice Ao38 t605.length co38 : Value).ownBlock ∧ some k_ ≠ (.slice Ao43 t608.length co43 : Value).ownBlock)))) ∧ some k_ ≠ (.slice Ao123 t629.length co123 : Value).ownBlock) ∧ some k_ ≠ (.slice Ao124 t632.length co124 : Value).ownBlock) ∧ some k_ ≠ (.slice Ao127 t635.length co127 : Value).ownBlock) ∧ some k_ ≠ (.slice Ao133 t638.length co133 : Value).ownBlock)) (n := t593.length) (c := co27) ?_).2.2; exact (by (with_reducible repeat (first | apply Kd.R_alloc | apply Kd.R_drewN | apply Kd.R_drew)); exact (Kd.R_mono (Kd.R_far (p := ⟨gb642, 1, none⟩) (Kd.R_far (p := ⟨gb642, 0, none⟩) (Kd.R_types HO_598001.out BK642.out (by decide)) (fun _ hk => hk.2) (.slice Ao127 t635.length co127)) (fun _ hk => hk.2) (.slice Ao133 t638.length co133)) (fun _ h_ => h_.1)))); (case side8 => exact (Kd.R_reads' HO_598001.out).2.1); rintro e w145 ⟨rfl, hb⟩; refine ⟨_, rfl, ?_⟩; have n0_ := Aside0.mk (Kd.R_below (by (with_reducible repeat (first | apply Kd.R_alloc | apply Kd.R_drewN | apply Kd.R_drew)); exact (Kd.R_mono (Kd.R_far (p := ⟨gb642, 1, none⟩) (Kd.R_far (p := ⟨gb642, 0, none⟩) (Kd.R_types HO_598000.out BK642.out (by decide)) (fun _ hk => hk.2) (.slice Ao127 t635.length co127)) (fun _ hk => hk.2) (.slice Ao133 t638.length co133)) (fun _ h_ => h_.1))) hb); have n1_ := Aside0.mk (Kd.R_below (by (with_reducible repeat (first | apply Kd.R_alloc | apply Kd.R_drewN | apply Kd.R_drew)); exact (Kd.R_mono (Kd.R_far (p := ⟨gb642, 1, none⟩) (Kd.R_far (p := ⟨gb642, 0, none⟩) (Kd.R_types HO_598001.out BK642.out (by decide)) (fun _ hk => hk.2) (.slice Ao127 t635.length co127)) (fun _ hk => hk.2) (.slice Ao133 t638.length co133)) (fun _ h_ => h_.1))) hb); have n2_ := Aside0.mk (Kd.R_below (by (with_reducible repeat (first | apply Kd.R_alloc | apply Kd.R_drewN | apply Kd.R_drew)); exact (Kd.R_mono (Kd.R_far (p := ⟨gb642, 1, none⟩) (Kd.R_far (p := ⟨gb642, 0, none⟩) (Kd.R_types HO_605000.out BK642.out (by decide)) (fun _ hk => hk.2) (.slice Ao127 t635.length co127)) (fun _ hk => hk.2) (.slice Ao133 t638.length co133)) (fun _ h_ => h_.1))) hb); have n3_ := Aside0.mk (Kd.R_below (by (with_reducible repeat (first | apply Kd.R_alloc | apply Kd.R_drewN | apply Kd.R_drew)); exact (Kd.R_mono (Kd.R_far (p := ⟨gb642, 1, none⟩) (Kd.R_far (p := ⟨gb642, 0, none⟩) (Kd.R_types HO_605001.out BK642.out (by decide)) (fun _ hk => hk.2) (.slice Ao127 t635.length co127)) (fun _ hk => hk.2) (.slice Ao133 t638.length co133)) (fun _ h_ => h_.1))) hb); have n4_ := Aside0.mk (Kd.R_below (by (with_reducible repeat (first | apply Kd.R_alloc | apply Kd.R_drewN | apply Kd.R_drew)); exact (Kd.R_mono (Kd.R_far (p := ⟨gb642, 1, none⟩) (Kd.R_far (p := ⟨gb642, 0, none⟩) (Kd.R_types HO_613000.out BK642.out (by decide)) (fun _ hk => hk.2) (.slice Ao127 t635.length co127)) (fun _ hk => hk.2) (.slice Ao133 t638.length co133)) (fun _ h_ => h_.1))) hb); have n5_ := Aside0.mk (Kd.R_below (by (with_reducible repeat (first | apply Kd.R_alloc | apply Kd.R_drewN | apply Kd.R_drew)); exact (Kd.R_mono (Kd.R_far (p := ⟨gb642, 1, none⟩) (Kd.R_far (p := ⟨gb642, 0, none⟩) (Kd.R_types HO_613001.out BK642.out (by decide)) (fun _ hk => hk.2) (.slice Ao127 t635.length co127)) (fun _ hk => hk.2) (.slice Ao133 t638.length co133)) (fun _ h_ => h_.1))) hb); have n6_ := Aside0.mk (Kd.R_below (by (with_reducible repeat (first | apply Kd.R_alloc | apply Kd.R_drewN | apply Kd.R_drew)); exact (Kd.R_mono (Kd.R_far (p := ⟨gb642, 1, none⟩) (Kd.R_far (p := ⟨gb642, 0, none⟩) (Kd.R_types HO631.out BK642.out (by decide)) (fun _ hk => hk.2) (.slice Ao127 t635.length co127)) (fun _ hk => hk.2) (.slice Ao133 t638.length co133)) (fun _ h_ => h_.1))) hb); have n7_ := Aside0.mk (Kd.R_below (by (with_reducible repeat (first | apply Kd.R_alloc | apply Kd.R_drewN | apply Kd.R_drew)); exact (Kd.R_mono (Kd.R_far (p := ⟨gb642, 1, none⟩) (Kd.R_far (p := ⟨gb642, 0, none⟩) (Kd.R_types HO634.out BK642.out (by decide)) (fun _ hk => hk.2) (.slice Ao127 t635.length co127)) (fun _ hk => hk.2) (.slice Ao133 t638.length co133)) (fun _ h_ => h_.1))) hb); have n8_ := Aside0.mk (Kd.R_below (by (with_reducible repeat (first | apply Kd.R_alloc | apply Kd.R_drewN | apply Kd.R_drew)); exact (Kd.R_mono (Kd.R_far (p := ⟨gb642, 1, none⟩) (Kd.R_far (p := ⟨gb642, 0, none⟩) (Kd.R_types HO637.out BK642.out (by decide)) (fun _ hk => hk.2) (.slice Ao127 t635.length co127)) (fun _ hk => hk.2) (.slice Ao133 t638.length co133)) (fun _ h_ => h_.1))) hb); have n9_ := Aside0.mk (Kd.R_below (by (with_reducible repeat (first | apply Kd.R_alloc | apply Kd.R_drewN | apply Kd.R_drew)); exact (Kd.R_mono (Kd.R_far (p := ⟨gb642, 1, none⟩) (Kd.R_far (p := ⟨gb642, 0, none⟩) (Kd.R_types HO640.out BK642.out (by decide)) (fun _ hk => hk.2) (.slice Ao127 t635.length co127)) (fun _ hk => hk.2) (.slice Ao133 t638.length co133)) (fun _ h_ => h_.1))) hb); have n10_ := Aside0.mk (blk_below (g := gb582) (o := .cells #[.slice A0_0 l0_0.length c0_0, .slice A0_1 l0_1.length c0_1] 24 (0, 0)) (by (with_reducible repeat (first | refine blk_drewN ?_ _ | refine blk_drew ?_ | refine blk_alloc ?_ _)); refine blk_far ?_ NB582_642.out _; (with_reducible repeat (first | refine blk_drewN ?_ _ | refine blk_drew ?_ | refine blk_alloc ?_ _)); refine blk_far ?_ NB582_642.out _; (with_reducible repeat (first | refine blk_drewN ?_ _ | refine blk_drew ?_ | refine blk_alloc ?_ _)); exact BK582.out) hb); have n11_ := Aside0.mk (blk_below (g := gb597) (o := .cells #[.slice Ao24 t590.length co24, .slice Ao27 t593.length co27] 27 (0, 0)) (by (with_reducible repeat (first | refine blk_drewN ?_ _ | refine blk_drew ?_ | refine blk_alloc ?_ _)); refine blk_far ?_ NB597_642.out _; (with_reducible repeat (first | refine blk_drewN ?_ _ | refine blk_drew ?_ | refine blk_alloc ?_ _)); refine blk_far ?_ NB597_642.out _; (with_reducible repeat (first | refine blk_drewN ?_ _ | refine blk_drew ?_ | refine blk_alloc ?_ _)); exact BK597.out) hb); have n12_ := Aside0.mk (blk_below (g := gb604) (o := .cells #[.slice Ao31 t622.length co31, .slice Ao35 t623.length co35] 27 (0, 0)) (by (with_reducible repeat (first | refine blk_drewN ?_ _ | refine blk_drew ?_ | refine blk_alloc ?_ _)); refine blk_far ?_ NB604_642.out _; (with_reducible repeat (first | refine blk_drewN ?_ _ | refine blk_drew ?_ | refine blk_alloc ?_ _)); refine blk_far ?_ NB604_642.out _; (with_reducible repeat (first | refine blk_drewN ?_ _ | refine blk_drew ?_ | refine blk_alloc ?_ _)); exact BK604.out) hb); have n13_ := Aside0.mk (blk_below (g := gb612) (o := .cells #[.slice Ao38 t605.length co38, .slice Ao43 t608.length co43] 27 (0, 0)) (by (with_reducible repeat (first | refine blk_drewN ?_ _ | refine blk_drew ?_ | refine blk_alloc ?_ _)); refine blk_far ?_ NB612_642.out _; (with_reducible repeat (first | refine blk_drewN ?_ _ | refine blk_drew ?_ | refine blk_alloc ?_ _)); refine blk_far ?_ NB612_642.out _; (with_reducible repeat (first | refine blk_drewN ?_ _ | refine blk_drew ?_ | refine blk_alloc ?_ _)); exact BK612.out) hb); have n14_ := Aside0.mk (blk_below (g := gb642) (o := .cells #[.slice Ao127 t635.length co127, .slice Ao133 t638.length co133] 27 (0, 0)) (by (with_reducible repeat (first | refine blk_drewN ?_ _ | refine blk_drew ?_ | refine blk_alloc ?_ _)); refine blk_put (cs := #[.slice Ao127 t635.length co127, .slice none 0 0]) ?_ 1 _ rfl; (with_reducible repeat (first | refine blk_drewN ?_ _ | refine blk_drew ?_ | refine blk_alloc ?_ _)); refine blk_put (cs := #[.slice none 0 0, .slice none 0 0]) ?_ 0 _ rfl; (with_reducible repeat (first | refine blk_drewN ?_ _ | refine blk_drew ?_ | refine blk_alloc ?_ _)); exact BK642.out) hb); have n15_ := Aside0.mk (below_step (by repeat (first | (with_reducible first | exact HB.out | apply below_alloc | apply pw_below_drewN | apply below_drew1 | refine below_set ?_ GE582.out | refine below_set ?_ GE597.out | refine below_set ?_ GE604.out | refine below_set ?_ GE612.out | refine below_set ?_ GE642.out) | exact HB.out)) hb); clear HO_598000; clear HO_598001; clear HO_605000; clear HO_605001; clear HO_613000; clear HO_613001; clear HO631; clear HO634; clear HO637; clear HO640; clear BK582; clear BK597; clear BK604; clear BK612; clear BK642; clear HB; have HO_598000 := n0_; have HO_598001 := n1_; have HO_605000 := n2_; have HO_605001 := n3_; have HO_613000 := n4_; have HO_613001 := n5_; have HO631 := n6_; have HO634 := n7_; have HO637 := n8_; have HO640 := n9_; have BK582 := n10_; have BK597 := n11_; have BK604 := n12_; have BK612 := n13_; have BK642 := n14_; have HB := n15_; clear n0_ n1_ n2_ n3_ n4_ n5_ n6_ n7_ n8_ n9_ n10_ n11_ n12_ n13_ n14_ n15_; (try clear hb); (try clear hb2); (try clear hk); (try clear hi)))
              go_meet
              case rel => exact ⟨_, ((t641 != t596)), (by first | rfl | (simp; done) | (simp [*]; done)), H', ⟨by have := HJ13.out; have := HJ66.out; first | omega | exact Nat.le_refl _⟩, ⟨by (try simp only [hl605000_66]); (try simp only [hl605001_66]); (with_reducible repeat (first | apply Kd.R_alloc | apply Kd.R_drewN | apply Kd.R_drew)); exact Kd.R_mono HO_598000.out (fun _ hk => ⟨hk.1.1.1.1.1, ⟨hk.1.1.1.1.2.1, ⟨hk.1.1.1.1.2.2.1, ⟨hk.1.1.1.1.2.2.2.1, ⟨hk.1.1.1.1.2.2.2.2, ⟨hk.1.2, hk.2⟩⟩⟩⟩⟩⟩)⟩, ⟨by (try simp only [hl605000_66]); (try simp only [hl605001_66]); (with_reducible repeat (first | apply Kd.R_alloc | apply Kd.R_drewN | apply Kd.R_drew)); exact Kd.R_mono HO_598001.out (fun _ hk => ⟨hk.1.1.1.1.1, ⟨hk.1.1.1.1.2.1, ⟨hk.1.1.1.1.2.2.1, ⟨hk.1.1.1.1.2.2.2.1, ⟨hk.1.1.1.1.2.2.2.2, ⟨hk.1.2, hk.2⟩⟩⟩⟩⟩⟩)⟩, ⟨by (try simp only [hl605000_66]); (try simp only [hl605001_66]); (with_reducible repeat (first | apply Kd.R_alloc | apply Kd.R_drewN | apply Kd.R_drew)); exact Kd.R_mono HO_605000.out (fun _ hk => ⟨hk.1.1.1.1.1, ⟨hk.1.1.1.1.2.1, ⟨hk.1.1.1.1.2.2.1, ⟨hk.1.1.1.1.2.2.2.1, ⟨hk.1.1.1.1.2.2.2.2, ⟨hk.1.2, hk.2⟩⟩⟩⟩⟩⟩)⟩, ⟨by (try simp only [hl605000_66]); (try simp only [hl605001_66]); (with_reducible repeat (first | apply Kd.R_alloc | apply Kd.R_drewN | apply Kd.R_drew)); exact Kd.R_mono HO_605001.out (fun _ hk => ⟨hk.1.1.1.1.1, ⟨hk.1.1.1.1.2.1, ⟨hk.1.1.1.1.2.2.1, ⟨hk.1.1.1.1.2.2.2.1, ⟨hk.1.1.1.1.2.2.2.2, ⟨hk.1.2, hk.2⟩⟩⟩⟩⟩⟩)⟩, ⟨by (try simp only [hl605000_66]); (try simp only [hl605001_66]); (with_reducible repeat (first | apply Kd.R_alloc | apply Kd.R_drewN | apply Kd.R_drew)); exact Kd.R_mono HO_613000.out (fun _ hk => ⟨hk.1.1.1.1.1, ⟨hk.1.1.1.1.2.1, ⟨hk.1.1.1.1.2.2.1, ⟨hk.1.1.1.1.2.2.2.1, ⟨hk.1.1.1.1.2.2.2.2, ⟨hk.1.2, hk.2⟩⟩⟩⟩⟩⟩)⟩, ⟨by (try simp only [hl605000_66]); (try simp only [hl605001_66]); (with_reducible repeat (first | apply Kd.R_alloc | apply Kd.R_drewN | apply Kd.R_drew)); exact Kd.R_mono HO_613001.out (fun _ hk => ⟨hk.1.1.1.1.1, ⟨hk.1.1.1.1.2.1, ⟨hk.1.1.1.1.2.2.1, ⟨hk.1.1.1.1.2.2.2.1, ⟨hk.1.1.1.1.2.2.2.2, ⟨hk.1.2, hk.2⟩⟩⟩⟩⟩⟩)⟩, ⟨by (try simp only [hl605000_66]); (try simp only [hl605001_66]); (with_reducible repeat (first | apply Kd.R_alloc | apply Kd.R_drewN | apply Kd.R_drew)); exact Kd.R_mono HO637.out (fun _ hk => ⟨hk.1.1.1.1.1.1.1.2, ⟨hk.1.1.1.1.1.1.2, ⟨hk.1.1.1.1.1.2, ⟨hk.1.1.1.1.2, ⟨hk.1.1.1.2, ⟨hk.1.1.2, hk.1.1.1.1.1.1.1.1⟩⟩⟩⟩⟩⟩)⟩, ⟨by (try simp only [hl605000_66]); (try simp only [hl605001_66]); (with_reducible repeat (first | apply Kd.R_alloc | apply Kd.R_drewN | apply Kd.R_drew)); exact Kd.R_mono HO640.out (fun _ hk => ⟨hk.1.1.1.1.1.1.1.2, ⟨hk.1.1.1.1.1.1.2, ⟨hk.1.1.1.1.1.2, ⟨hk.1.1.1.1.2, ⟨hk.1.1.1.2, ⟨hk.1.1.2, hk.1.1.1.1.1.1.1.1⟩⟩⟩⟩⟩⟩)⟩, ⟨by (try simp only [hl605000_66]); (try simp only [hl605001_66]); (with_reducible repeat (first | refine blk_drewN ?_ _ | refine blk_drew ?_ | refine blk_alloc ?_ _)); exact BK582.out⟩, ⟨by (try simp only [hl605000_66]); (try simp only [hl605001_66]); (with_reducible repeat (first | refine blk_drewN ?_ _ | refine blk_drew ?_ | refine blk_alloc ?_ _)); exact BK597.out⟩, ⟨by (try simp only [hl605000_66]); (try simp only [hl605001_66]); (with_reducible repeat (first | refine blk_drewN ?_ _ | refine blk_drew ?_ | refine blk_alloc ?_ _)); exact BK604.out⟩, ⟨by (try simp only [hl605000_66]); (try simp only [hl605001_66]); (with_reducible repeat (first | refine blk_drewN ?_ _ | refine blk_drew ?_ | refine blk_alloc ?_ _)); exact BK612.out⟩, ⟨by (try simp only [hl605000_66]); (try simp only [hl605001_66]); (with_reducible repeat (first | refine blk_drewN ?_ _ | refine blk_drew ?_ | refine blk_alloc ?_ _)); exact BK642.out⟩, ⟨by repeat (first | (with_reducible first | exact HB.out | apply below_alloc | apply pw_below_drewN | apply below_drew1 | refine below_set ?_ GE582.out | refine below_set ?_ GE597.out | refine below_set ?_ GE604.out | refine below_set ?_ GE612.out | refine below_set ?_ GE642.out) | exact HB.out)⟩⟩
             ·replace c135 := Bool.eq_false_iff.mpr c135
              subst c135
              have H1 : (laws_FnExactRunWord.j2 kj66 t625 true t626 t627) = some true := by rw [if_neg (show ¬ (false = true) by decide)] at H; exact H
              clear H
              have H := H1
              clear H1
              exact absurd H (by cases kj66 <;> simp [laws_FnExactRunWord.j2])
            case rest =>
             clear HC111
             try clear c1
             try clear c2
             try clear p2
             try clear c3
             try clear c3b0
             try clear c3b1
             try clear c4
             try clear c5
             try clear c6
             try clear c6b0
             try clear c7
             try clear c8
             try clear c9
             try clear c10
             try clear c11
             try clear c12
             try clear c13
             try clear c14
             try clear c15
             try clear c16
             try clear c20
             try clear c23
             try clear c24
             try clear c25
             try clear c32
             try clear c33
             try clear c39
             try clear c40
             try clear c41
             try clear c45
             try clear c46
             try clear c47
             try clear c48
             try clear c50
             try clear c51
             try clear c54
             try clear c55
             try clear c56
             try clear c58
             try clear c59
             try clear c62
             try clear c65
             try clear c73
             try clear c74
             try clear c75
             try clear c78
             try clear c78b0
             try clear c80
             try clear c81
             try clear c82
             try clear c83
             try clear c85
             try clear c86
             try clear c89
             try clear c90
             try clear c91
             try clear c93
             try clear c94
             try clear c97
             try clear c100
             try clear c100b0
             try clear c101
             try clear c102
             try clear c103
             try clear c108
             try clear c108b0
             try clear c108b1
             try clear c112
             try clear c113
             try clear c114
             try clear c119
             try clear c120
             try clear c128
             try clear c129
             try clear c130
             try clear c131
             try clear c135
             try clear c136
             try clear c137
             try clear c138
             try clear c139
             try clear c141
             try clear c142
             try clear c143
             try clear c146
             try clear c147
             try clear c148
             try clear c149
             try clear c151
             try clear c152
             try clear c153
             try clear hcz104_0
             try clear hcz104_1
             try clear hcz106_0
             try clear hcz106_1
             try clear hcz115_0
             try clear hcz115_1
             try clear hcz117_0
             try clear hcz117_1
             try clear hcz121_0
             try clear hcz121_1
             try clear hcz132_0
             try clear hcz132_1
             try clear hcz140_0
             try clear hcz140_1
             try clear hcz144_0
             try clear hcz144_1
             try clear hcz150_0
             try clear hcz150_1
             try clear hcz154_0
             try clear hcz154_1
             try clear hcz16_0
             try clear hcz16_1
             try clear hcz18_0
             try clear hcz18_1
             try clear hcz26_0
             try clear hcz26_1
             try clear hcz28_0
             try clear hcz28_1
             try clear hcz34_0
             try clear hcz34_1
             try clear hcz42_0
             try clear hcz42_1
             try clear hcz49_0
             try clear hcz49_1
             try clear hcz52_0
             try clear hcz52_1
             try clear hcz57_0
             try clear hcz57_1
             try clear hcz60_0
             try clear hcz60_1
             try clear hcz76_0
             try clear hcz76_1
             try clear hcz84_0
             try clear hcz84_1
             try clear hcz87_0
             try clear hcz87_1
             try clear hcz8_0
             try clear hcz8_1
             try clear hcz92_0
             try clear hcz92_1
             try clear hcz95_0
             try clear hcz95_1
             try clear hfz104_0
             try clear hfz104_1
             try clear hfz106_0
             try clear hfz106_1
             try clear hfz115_0
             try clear hfz115_1
             try clear hfz117_0
             try clear hfz117_1
             try clear hfz121_0
             try clear hfz121_1
             try clear hfz132_0
             try clear hfz132_1
             try clear hfz140_0
             try clear hfz140_1
             try clear hfz144_0
             try clear hfz144_1
             try clear hfz150_0
             try clear hfz150_1
             try clear hfz154_0
             try clear hfz154_1
             try clear hfz16_0
             try clear hfz16_1
             try clear hfz18_0
             try clear hfz18_1
             try clear hfz26_0
             try clear hfz26_1
             try clear hfz28_0
             try clear hfz28_1
             try clear hfz34_0
             try clear hfz34_1
             try clear hfz42_0
             try clear hfz42_1
             try clear hfz49_0
             try clear hfz49_1
             try clear hfz52_0
             try clear hfz52_1
             try clear hfz57_0
             try clear hfz57_1
             try clear hfz60_0
             try clear hfz60_1
             try clear hfz76_0
             try clear hfz76_1
             try clear hfz84_0
             try clear hfz84_1
             try clear hfz87_0
             try clear hfz87_1
             try clear hfz8_0
             try clear hfz8_1
             try clear hfz92_0
             try clear hfz92_1
             try clear hfz95_0
             try clear hfz95_1
             try clear p2
             obtain ⟨kq, x95_110, rfl, HA, HJ110, HO_598000, HO_598001, HO_605000, HO_605001, HO_613000, HO_613001, HO_643000, HO_643001, BK582, BK597, BK604, BK612, BK642, HB⟩ := hcut
             have hl613000_110 := (Kd.R_reads' HO_613000.out).1
             rw [hl613000_110] at HO_613000
             (try simp only [hl613000_110])
             (try simp only [hl613000_110] at BK582)
             (try simp only [hl613000_110] at BK597)
             (try simp only [hl613000_110] at BK604)
             (try simp only [hl613000_110] at BK612)
             (try simp only [hl613000_110] at BK642)
             (try simp only [hl613000_110] at HO_598000)
             (try simp only [hl613000_110] at HO_598001)
             (try simp only [hl613000_110] at HO_605000)
             (try simp only [hl613000_110] at HO_605001)
             (try simp only [hl613000_110] at HO_613001)
             (try simp only [hl613000_110] at HO_643000)
             (try simp only [hl613000_110] at HO_643001)
             have hl613001_110 := (Kd.R_reads' HO_613001.out).1
             rw [hl613001_110] at HO_613001
             (try simp only [hl613001_110])
             (try simp only [hl613001_110] at BK582)
             (try simp only [hl613001_110] at BK597)
             (try simp only [hl613001_110] at BK604)
             (try simp only [hl613001_110] at BK612)
             (try simp only [hl613001_110] at BK642)
             (try simp only [hl613001_110] at HO_598000)
             (try simp only [hl613001_110] at HO_598001)
             (try simp only [hl613001_110] at HO_605000)
             (try simp only [hl613001_110] at HO_605001)
             (try simp only [hl613001_110] at HO_613000)
             (try simp only [hl613001_110] at HO_643000)
             (try simp only [hl613001_110] at HO_643001)
             cases kq with
             | zero => exact absurd HA.out (by simp [laws_FnExactRunWord.j2])
             | succ kj110 =>
              have H := HA.out
              clear HA
              simp only [laws_FnExactRunWord.j2] at H
              by_cases c156 : x95_110 = true
              ·subst c156
               have H1 : (some false) = some true := by rw [if_pos rfl] at H; exact H
               clear H
               have H := H1
               clear H1
               exact absurd H (by simp)
              ·replace c156 := Bool.eq_false_iff.mpr c156
               subst c156
               have H1 : ((laws_heldSurface.f kj110 t626 t627 1).bind fun t644 => (if t644 < 0 then (some false) else (if t644 = t625 then (some true) else (some false)))) = some true := by rw [if_neg (show ¬ (false = true) by decide)] at H; exact H
               clear H
               have H := H1
               clear H1
               replace H := Option.bind_eq_some_iff.mp H
               obtain ⟨t644, A1570, H⟩ := H
               replace H : (if t644 < 0 then (some false) else (if t644 = t625 then (some true) else (some false))) = some true := H
               have A157 := Aside0.mk A1570
               clear A1570
               by_cases c158 : t644 < 0
               ·rw [if_pos c158] at H
                have c158b0 : decide (t644 < 0) = true := decide_eq_true c158
                clear c158
                exact absurd H (by simp)
               ·rw [if_neg c158] at H
                have c158b0 : decide (t644 < 0) = false := decide_eq_false c158
                clear c158
                by_cases c165 : t644 = t625
                ·rw [if_pos c165] at H
                 have c165b0 : (t644 == t625) = true := beq_iff_eq.mpr c165
                 have c165b1 : (t644 != t625) = false := bne_eq_false_iff_eq.mpr c165
                 clear c165
                 have hnb166 := NB612_582.out
                 have hnc166 := NB582_612.out
                 have hnb167 := NB612_597.out
                 have hnc167 := NB597_612.out
                 have hnb168 := NB612_604.out
                 have hnc168 := NB604_612.out
                 have hnb169 := NB612_642.out
                 have hnc169 := NB642_612.out
                 have hcz170_0 : wc.cell? ⟨gb612, 0, none⟩ = some (.slice Ao38 t626.length co38) := (blk_cell BK612.out 0).trans rfl
                 have hcz170_1 : wc.cell? ⟨gb612, 1, none⟩ = some (.slice Ao43 t627.length co43) := (blk_cell BK612.out 1).trans rfl
                 have hfz170_0 := blk_frozen BK612.out 0
                 have hfz170_1 := blk_frozen BK612.out 1
                 go_wp2_with (first | ((with_reducible refine gate_callee (f := 25) rfl ?_); refine goesL_ (some 98) rfl rfl Try.func25 (by kernel_rfl) rfl #[.agg #[.slice Ao38 t626.length co38, .slice Ao43 t627.length co43], .int .i64 1] rfl (by (try simp only [List.map_toArray, List.map_cons, List.map_nil]); first | done | rfl | (simp only [List.length_drop, List.length_take]; rfl)) ?_; (with_reducible refine (laws_heldSurface.calls kj110 _ _ t626 _ _ t627 1 t644 _ ?side1 ?side2 ?side3 ?side4 A157.out).mono ?_); (case side1 => repeat (first | exact (Kd.R_reads' HO_613000.out).2.2 | (with_reducible refine Kd.C_alloc ?_ _) | (with_reducible refine Kd.C_drewN ?_ _) | (with_reducible refine Kd.C_drew ?_))); (case side2 => exact (Kd.R_reads' HO_613000.out).2.1); (case side3 => repeat (first | exact (Kd.R_reads' HO_613001.out).2.2 | (with_reducible refine Kd.C_alloc ?_ _) | (with_reducible refine Kd.C_drewN ?_ _) | (with_reducible refine Kd.C_drew ?_))); (case side4 => exact (Kd.R_reads' HO_613001.out).2.1); rintro e w171 ⟨rfl, hb⟩; refine ⟨_, rfl, ?_⟩; have n0_ := Aside0.mk (Kd.R_below (by (with_reducible repeat (first | apply Kd.R_alloc | apply Kd.R_drewN | apply Kd.R_drew)); exact HO_598000.out) hb); have n1_ := Aside0.mk (Kd.R_below (by (with_reducible repeat (first | apply Kd.R_alloc | apply Kd.R_drewN | apply Kd.R_drew)); exact HO_598001.out) hb); have n2_ := Aside0.mk (Kd.R_below (by (with_reducible repeat (first | apply Kd.R_alloc | apply Kd.R_drewN | apply Kd.R_drew)); exact HO_605000.out) hb); have n3_ := Aside0.mk (Kd.R_below (by (with_reducible repeat (first | apply Kd.R_alloc | apply Kd.R_drewN | apply Kd.R_drew)); exact HO_605001.out) hb); have n4_ := Aside0.mk (Kd.R_below (by (with_reducible repeat (first | apply Kd.R_alloc | apply Kd.R_drewN | apply Kd.R_drew)); exact HO_613000.out) hb); have n5_ := Aside0.mk (Kd.R_below (by (with_reducible repeat (first | apply Kd.R_alloc | apply Kd.R_drewN | apply Kd.R_drew)); exact HO_613001.out) hb); have n6_ := Aside0.mk (Kd.R_below (by (with_reducible repeat (first | apply Kd.R_alloc | apply Kd.R_drewN | apply Kd.R_drew)); exact HO_643000.out) hb); have n7_ := Aside0.mk (Kd.R_below (by (with_reducible repeat (first | apply Kd.R_alloc | apply Kd.R_drewN | apply Kd.R_drew)); exact HO_643001.out) hb); have n8_ := Aside0.mk (blk_below (g := gb582) (o := .cells #[.slice A0_0 l0_0.length c0_0, .slice A0_1 l0_1.length c0_1] 24 (0, 0)) (by (with_reducible repeat (first | refine blk_drewN ?_ _ | refine blk_drew ?_ | refine blk_alloc ?_ _)); exact BK582.out) hb); have n9_ := Aside0.mk (blk_below (g := gb597) (o := .cells #[.slice Ao24 t590.length co24, .slice Ao27 t593.length co27] 27 (0, 0)) (by (with_reducible repeat (first | refine blk_drewN ?_ _ | refine blk_drew ?_ | refine blk_alloc ?_ _)); exact BK597.out) hb); have n10_ := Aside0.mk (blk_below (g := gb604) (o := .cells #[.slice Ao31 t622.length co31, .slice Ao35 t623.length co35] 27 (0, 0)) (by (with_reducible repeat (first | refine blk_drewN ?_ _ | refine blk_drew ?_ | refine blk_alloc ?_ _)); exact BK604.out) hb); have n11_ := Aside0.mk (blk_below (g := gb612) (o := .cells #[.slice Ao38 t626.length co38, .slice Ao43 t627.length co43] 27 (0, 0)) (by (with_reducible repeat (first | refine blk_drewN ?_ _ | refine blk_drew ?_ | refine blk_alloc ?_ _)); exact BK612.out) hb); have n12_ := Aside0.mk (blk_below (g := gb642) (o := .cells #[.slice Ao127 t635.length co127, .slice Ao133 t638.length co133] 27 (0, 0)) (by (with_reducible repeat (first | refine blk_drewN ?_ _ | refine blk_drew ?_ | refine blk_alloc ?_ _)); exact BK642.out) hb); have n13_ := Aside0.mk (below_step (by repeat (first | (with_reducible first | exact HB.out | apply below_alloc | apply pw_below_drewN | apply below_drew1 | refine below_set ?_ GE582.out | refine below_set ?_ GE597.out | refine below_set ?_ GE604.out | refine below_set ?_ GE612.out | refine below_set ?_ GE642.out) | exact HB.out)) hb); clear HO_598000; clear HO_598001; clear HO_605000; clear HO_605001; clear HO_613000; clear HO_613001; clear HO_643000; clear HO_643001; clear BK582; clear BK597; clear BK604; clear BK612; clear BK642; clear HB; have HO_598000 := n0_; have HO_598001 := n1_; have HO_605000 := n2_; have HO_605001 := n3_; have HO_613000 := n4_; have HO_613001 := n5_; have HO_643000 := n6_; have HO_643001 := n7_; have BK582 := n8_; have BK597 := n9_; have BK604 := n10_; have BK612 := n11_; have BK642 := n12_; have HB := n13_; clear n0_ n1_ n2_ n3_ n4_ n5_ n6_ n7_ n8_ n9_ n10_ n11_ n12_ n13_; (try clear hb); (try clear hb2); (try clear hk); (try clear hi)))
                 go_ret
                 exact ⟨by first | rfl | (simp [errW_none, errW_some] <;> rfl) | (simp [*, errW_none, errW_some] <;> rfl), by repeat (first | (with_reducible first | exact HB.out | apply below_alloc | apply pw_below_drewN | apply below_drew1 | refine below_set ?_ GE582.out | refine below_set ?_ GE597.out | refine below_set ?_ GE604.out | refine below_set ?_ GE612.out | refine below_set ?_ GE642.out) | exact HB.out)⟩
                ·rw [if_neg c165] at H
                 have c165b0 : (t644 == t625) = false := beq_eq_false_iff_ne.mpr c165
                 have c165b1 : (t644 != t625) = true := bne_iff_ne.mpr c165
                 exact absurd H (by simp)
           ·rw [if_neg c108] at H
            have c108b0 : (t628 == t625) = false := beq_eq_false_iff_ne.mpr c108
            have c108b1 : (t628 != t625) = true := bne_iff_ne.mpr c108
            exact absurd H (by simp)
      ·replace c65 := Bool.eq_false_iff.mpr c65
       subst c65
       have H1 : (some false) = some true := by rw [if_neg (show ¬ (false = true) by decide)] at H; exact H
       clear H
       have H := H1
       clear H1
       exact absurd H (by simp)

/-- The pure statement of laws_FnExactRunWord. -/
def laws_FnExactRunWord.Pure : Prop := ∀ (l0_0 : List Int) (l0_1 : List Int) (a1 : ByteArray), l0_0.length ≤ maxLen → (∀ x ∈ l0_0, (Lit.int .i64 x).wf = true) → l0_1.length ≤ maxLen → (∀ x ∈ l0_1, (Lit.int .i64 x).wf = true) → a1.size ≤ 140737488351232 → ∃ k, laws_FnExactRunWord.f k l0_0 l0_1 a1 = some true
theorem laws_FnExactRunWord.walk (P : laws_FnExactRunWord.Pure) (a0_0 : Option Addr) (len0_0 cap0_0 : Nat) (z0_0 : List Int) (a0_1 : Option Addr) (len0_1 cap0_1 : Nat) (z0_1 : List Int) (a1 : ByteArray) (w : World) (w0_0 : ((a0_0 = none ∧ len0_0 = 0 ∧ cap0_0 = 0 ∧ z0_0 = []) ∨ ∃ x, a0_0 = some x ∧ len0_0 ≤ cap0_0 ∧ cap0_0 ≤ maxLen ∧ z0_0.length = cap0_0 ∧ (∀ i, i < z0_0.length → w.cell? (x.add i) = some (.int .i64 (z0_0.getD i 0))) ∧ ∀ n ∈ z0_0, (Lit.int .i64 n).wf = true)) (w0_1 : ((a0_1 = none ∧ len0_1 = 0 ∧ cap0_1 = 0 ∧ z0_1 = []) ∨ ∃ x, a0_1 = some x ∧ len0_1 ≤ cap0_1 ∧ cap0_1 ≤ maxLen ∧ z0_1.length = cap0_1 ∧ (∀ i, i < z0_1.length → w.cell? (x.add i) = some (.int .i64 (z0_1.getD i 0))) ∧ ∀ n ∈ z0_1, (Lit.int .i64 n).wf = true)) (w1 : a1.size ≤ 140737488351232) :
  Calls Try.prog 5 #[.agg #[.slice a0_0 len0_0 cap0_0, .slice a0_1 len0_1 cap0_1], .string a1] w fun e w' => e = .returned (.bool true) ∧ Below w.heap.size w w' := by
 obtain ⟨l0_0, rfl, hr0_0, hm0_0, hw0_0, hc0_0⟩ := ReadsInt.ofRowC w0_0
 obtain ⟨l0_1, rfl, hr0_1, hm0_1, hw0_1, hc0_1⟩ := ReadsInt.ofRowC w0_1
 obtain ⟨k, h⟩ := P l0_0 l0_1 a1 hm0_0 hw0_0 hm0_1 hw0_1 w1
 refine (laws_FnExactRunWord.calls_true k _ _ l0_0 _ _ l0_1 a1 w (Kd.C_of_reads (d := (0 : Int)) (h1 := fun _ => rfl) hr0_0) hc0_0 (Kd.C_of_reads (d := (0 : Int)) (h1 := fun _ => rfl) hr0_1) hc0_1 h).mono ?_
 rintro e w' ⟨rfl, hd⟩
 exact ⟨rfl, hd⟩

end Go.Proofs.Ytlohmpgbjgidpad.P
