-- MADE by this project's printer (wip/mk) out of the translation; Lean checks it.
import Derived.Test.YtlohmpgbjgidpacPx0
import Derived.Test.YtlohmpgbjgidpacPx2
import Derived.Test.YtlohmpgbjgidpacPx10
import Derived.Test.YtlohmpgbjgidpacPx11
import Derived.Test.YtlohmpgbjgidpacPx16
import Derived.Test.YtlohmpgbjgidpacPx17
import Derived.Test.YtlohmpgbjgidpacPx22
import Derived.Test.YtlohmpgbjgidpacPx69
import Derived.Test.YtlohmpgbjgidpacPx73
import Derived.Test.YtlohmpgbjgidpacPx74
import Derived.Test.YtlohmpgbjgidpacPx75
namespace Go.Proofs.Ytlohmpgbjgidpac.P
open Go.RowKit Go.Proofs.YtlohmpgbjgidpacW.PrintWords Go.Proofs.YtlohmpgbjgidpacW.PrintLast Go.Proofs.YtlohmpgbjgidpacW.PrintMore
attribute [local go_sem] max2_int min2_int max_two min_two max_three min_three max_four min_four   -- for this text's walks alone
set_option linter.unusedVariables false
set_option linter.unusedSimpArgs false

/-! ### laws_FnExactRenameSurface: function 9 -/
mutual
def laws_FnExactRenameSurface.j0 : Nat → List Int → Bool → List Int → Bool → Bool → List Int → List Int → List Int → List Int → List Int → List Int → List Int → List Int → Option (Bool)
  | 0, _, _, _, _, _, _, _, _, _, _, _, _, _ => none
  | k + 1, x1, x7, x9, x11, x51, x643000, x643001, x661000, x661001, x668000, x668001, x679000, x679001 => if x51 = true then (some false) else ((laws_toSurface.f k x643000 x643001).bind fun bt680 => ((laws_eqSurface.f k x668000 x668001 bt680.1 bt680.2).bind fun t686 => (if t686 = true then ((laws_toIntS.f k x1).bind fun t687 => ((laws_eqIntS.f k x9 t687).bind fun t690 => (if t690 = true then ((laws_markSurface.f k x668000 x668001 1).bind fun bt691 => ((laws_markIntS.f k x9 bt691.1).bind fun bt694 => (if bt694.1 < 0 then (laws_FnExactRenameSurface.j1 k x1 x7 true x643000 x643001 x661000 x661001 x679000 x679001) else ((laws_eqSurface.f k x679000 x679001 x661000 x661001).bind fun t696 => (if t696 = true then (laws_FnExactRenameSurface.j1 k x1 x7 (x11 != x7) x643000 x643001 x661000 x661001 x679000 x679001) else (laws_FnExactRenameSurface.j1 k x1 x7 true x643000 x643001 x661000 x661001 x679000 x679001)))))) else (some false)))) else (some false))))
def laws_FnExactRenameSurface.j1 : Nat → List Int → Bool → Bool → List Int → List Int → List Int → List Int → List Int → List Int → Option (Bool)
  | 0, _, _, _, _, _, _, _, _, _ => none
  | k + 1, x1, x7, x80, x643000, x643001, x661000, x661001, x679000, x679001 => if x80 = true then (some false) else ((laws_markSurface.f k x679000 x679001 1).bind fun bt697 => ((laws_heldSurface.f k bt697.2.1 bt697.2.2 1).bind fun t700 => (if t700 < 0 then (some false) else (if t700 = bt697.1 then ((laws_toSurface.f k x643000 x643001).bind fun bt701 => ((laws_toIntS.f k x1).bind fun t707 => ((impl_RenameSurface.f k bt701.1 bt701.2 t707).bind fun bt710 => ((laws_eqSurface.f k bt710.1 bt710.2.1 x661000 x661001).bind fun t718 => (if t718 = true then (laws_FnExactRenameSurface.j2 k bt697.1 (bt710.2.2 != x7) bt697.2.1 bt697.2.2) else (laws_FnExactRenameSurface.j2 k bt697.1 true bt697.2.1 bt697.2.2)))))) else (some false)))))
def laws_FnExactRenameSurface.j2 : Nat → Int → Bool → List Int → List Int → Option (Bool)
  | 0, _, _, _, _ => none
  | k + 1, x13, x108, x679000, x679001 => if x108 = true then (some false) else ((laws_heldSurface.f k x679000 x679001 1).bind fun t719 => (if t719 < 0 then (some false) else (if t719 = x13 then (some true) else (some false))))
end
def laws_FnExactRenameSurface.f (k : Nat) (l0_0 : List Int) (l0_1 : List Int) (l1 : List Int) : Option (Bool) := if (l1.length : Int) > 1048576 then (some true) else ((laws_szSurface.f l0_0 l0_1 1048576).bind fun t643 => (if t643 < 0 then (some true) else ((laws_toSurface.f k l0_0 l0_1).bind fun bt644 => ((laws_toIntS.f k l1).bind fun t650 => ((spec_RenameSurface.f k bt644.1 bt644.2 t650).bind fun bt653 => ((laws_toSurface.f k l0_0 l0_1).bind fun bt661 => ((laws_toIntS.f k l1).bind fun t668 => ((impl_RenameSurface.f k bt661.1 bt661.2 t668).bind fun bt671 => ((laws_eqSurface.f k bt671.1 bt671.2.1 bt653.1 bt653.2.1).bind fun t679 => (if t679 = true then (laws_FnExactRenameSurface.j0 k l1 bt653.2.2 t668 bt671.2.2 (bt671.2.2 != bt653.2.2) l0_0 l0_1 bt653.1 bt653.2.1 bt661.1 bt661.2 bt671.1 bt671.2.1) else (laws_FnExactRenameSurface.j0 k l1 bt653.2.2 t668 bt671.2.2 true l0_0 l0_1 bt653.1 bt653.2.1 bt661.1 bt661.2 bt671.1 bt671.2.1)))))))))))
theorem laws_FnExactRenameSurface.mono_l : ∀ k, (∀ y0 y1 y2 y3 y4 y5 y6 y7 y8 y9 y10 y11 y12, LeO (laws_FnExactRenameSurface.j0 k y0 y1 y2 y3 y4 y5 y6 y7 y8 y9 y10 y11 y12) (laws_FnExactRenameSurface.j0 (k + 1) y0 y1 y2 y3 y4 y5 y6 y7 y8 y9 y10 y11 y12)) ∧ (∀ y0 y1 y2 y3 y4 y5 y6 y7 y8, LeO (laws_FnExactRenameSurface.j1 k y0 y1 y2 y3 y4 y5 y6 y7 y8) (laws_FnExactRenameSurface.j1 (k + 1) y0 y1 y2 y3 y4 y5 y6 y7 y8)) ∧ (∀ y0 y1 y2 y3, LeO (laws_FnExactRenameSurface.j2 k y0 y1 y2 y3) (laws_FnExactRenameSurface.j2 (k + 1) y0 y1 y2 y3))
  | 0 => ⟨fun _ _ _ _ _ _ _ _ _ _ _ _ _ r h => by simp [laws_FnExactRenameSurface.j0] at h, fun _ _ _ _ _ _ _ _ _ r h => by simp [laws_FnExactRenameSurface.j1] at h, fun _ _ _ _ r h => by simp [laws_FnExactRenameSurface.j2] at h⟩
  | k + 1 => by
    obtain ⟨ih0, ih1, ih2⟩ := laws_FnExactRenameSurface.mono_l k
    refine ⟨?_, ?_, ?_⟩
    · intro y0 y1 y2 y3 y4 y5 y6 y7 y8 y9 y10 y11 y12
      unfold laws_FnExactRenameSurface.j0
      repeat' first
      | (with_reducible exact ih0 _ _ _ _ _ _ _ _ _ _ _ _ _)
      | (with_reducible exact ih1 _ _ _ _ _ _ _ _ _)
      | (with_reducible exact ih2 _ _ _ _)
      | (with_reducible exact impl_RenameSurface.mono _ _ _ _)
      | (with_reducible exact laws_eqIntS.mono _ _ _)
      | (with_reducible exact laws_eqSurface.mono _ _ _ _ _)
      | (with_reducible exact laws_heldSurface.mono _ _ _ _)
      | (with_reducible exact laws_markIntS.mono _ _ _)
      | (with_reducible exact laws_markSurface.mono _ _ _ _)
      | (with_reducible exact laws_toIntS.mono _ _)
      | (with_reducible exact laws_toSurface.mono _ _ _)
      | (with_reducible exact spec_RenameSurface.mono _ _ _ _)
      | (with_reducible exact LeO.refl _)
      | (with_reducible exact LeO.none _)
      | (with_reducible refine LeO.ite ?_ ?_)
      | (with_reducible refine LeO.bind ?_ (fun _ => ?_))
      | exact ih0 _ _ _ _ _ _ _ _ _ _ _ _ _
      | exact ih1 _ _ _ _ _ _ _ _ _
      | exact ih2 _ _ _ _
      | exact impl_RenameSurface.mono _ _ _ _
      | exact laws_eqIntS.mono _ _ _
      | exact laws_eqSurface.mono _ _ _ _ _
      | exact laws_heldSurface.mono _ _ _ _
      | exact laws_markIntS.mono _ _ _
      | exact laws_markSurface.mono _ _ _ _
      | exact laws_toIntS.mono _ _
      | exact laws_toSurface.mono _ _ _
      | exact spec_RenameSurface.mono _ _ _ _
      | exact LeO.none _
      | refine LeO.ite ?_ ?_
      | refine LeO.bind ?_ (fun _ => ?_)
    · intro y0 y1 y2 y3 y4 y5 y6 y7 y8
      unfold laws_FnExactRenameSurface.j1
      repeat' first
      | (with_reducible exact ih0 _ _ _ _ _ _ _ _ _ _ _ _ _)
      | (with_reducible exact ih1 _ _ _ _ _ _ _ _ _)
      | (with_reducible exact ih2 _ _ _ _)
      | (with_reducible exact impl_RenameSurface.mono _ _ _ _)
      | (with_reducible exact laws_eqIntS.mono _ _ _)
      | (with_reducible exact laws_eqSurface.mono _ _ _ _ _)
      | (with_reducible exact laws_heldSurface.mono _ _ _ _)
      | (with_reducible exact laws_markIntS.mono _ _ _)
      | (with_reducible exact laws_markSurface.mono _ _ _ _)
      | (with_reducible exact laws_toIntS.mono _ _)
      | (with_reducible exact laws_toSurface.mono _ _ _)
      | (with_reducible exact spec_RenameSurface.mono _ _ _ _)
      | (with_reducible exact LeO.refl _)
      | (with_reducible exact LeO.none _)
      | (with_reducible refine LeO.ite ?_ ?_)
      | (with_reducible refine LeO.bind ?_ (fun _ => ?_))
      | exact ih0 _ _ _ _ _ _ _ _ _ _ _ _ _
      | exact ih1 _ _ _ _ _ _ _ _ _
      | exact ih2 _ _ _ _
      | exact impl_RenameSurface.mono _ _ _ _
      | exact laws_eqIntS.mono _ _ _
      | exact laws_eqSurface.mono _ _ _ _ _
      | exact laws_heldSurface.mono _ _ _ _
      | exact laws_markIntS.mono _ _ _
      | exact laws_markSurface.mono _ _ _ _
      | exact laws_toIntS.mono _ _
      | exact laws_toSurface.mono _ _ _
      | exact spec_RenameSurface.mono _ _ _ _
      | exact LeO.none _
      | refine LeO.ite ?_ ?_
      | refine LeO.bind ?_ (fun _ => ?_)
    · intro y0 y1 y2 y3
      unfold laws_FnExactRenameSurface.j2
      repeat' first
      | (with_reducible exact ih0 _ _ _ _ _ _ _ _ _ _ _ _ _)
      | (with_reducible exact ih1 _ _ _ _ _ _ _ _ _)
      | (with_reducible exact ih2 _ _ _ _)
      | (with_reducible exact impl_RenameSurface.mono _ _ _ _)
      | (with_reducible exact laws_eqIntS.mono _ _ _)
      | (with_reducible exact laws_eqSurface.mono _ _ _ _ _)
      | (with_reducible exact laws_heldSurface.mono _ _ _ _)
      | (with_reducible exact laws_markIntS.mono _ _ _)
      | (with_reducible exact laws_markSurface.mono _ _ _ _)
      | (with_reducible exact laws_toIntS.mono _ _)
      | (with_reducible exact laws_toSurface.mono _ _ _)
      | (with_reducible exact spec_RenameSurface.mono _ _ _ _)
      | (with_reducible exact LeO.refl _)
      | (with_reducible exact LeO.none _)
      | (with_reducible refine LeO.ite ?_ ?_)
      | (with_reducible refine LeO.bind ?_ (fun _ => ?_))
      | exact ih0 _ _ _ _ _ _ _ _ _ _ _ _ _
      | exact ih1 _ _ _ _ _ _ _ _ _
      | exact ih2 _ _ _ _
      | exact impl_RenameSurface.mono _ _ _ _
      | exact laws_eqIntS.mono _ _ _
      | exact laws_eqSurface.mono _ _ _ _ _
      | exact laws_heldSurface.mono _ _ _ _
      | exact laws_markIntS.mono _ _ _
      | exact laws_markSurface.mono _ _ _ _
      | exact laws_toIntS.mono _ _
      | exact laws_toSurface.mono _ _ _
      | exact spec_RenameSurface.mono _ _ _ _
      | exact LeO.none _
      | refine LeO.ite ?_ ?_
      | refine LeO.bind ?_ (fun _ => ?_)
theorem laws_FnExactRenameSurface.mono : ∀ a0 a1 a2 k, LeO (laws_FnExactRenameSurface.f k a0 a1 a2) (laws_FnExactRenameSurface.f (k + 1) a0 a1 a2) := by
  intro a0 a1 a2 k
  obtain ⟨ih0, ih1, ih2⟩ := laws_FnExactRenameSurface.mono_l k
  unfold laws_FnExactRenameSurface.f
  repeat' first
      | (with_reducible exact ih0 _ _ _ _ _ _ _ _ _ _ _ _ _)
      | (with_reducible exact ih1 _ _ _ _ _ _ _ _ _)
      | (with_reducible exact ih2 _ _ _ _)
      | (with_reducible exact impl_RenameSurface.mono _ _ _ _)
      | (with_reducible exact laws_eqIntS.mono _ _ _)
      | (with_reducible exact laws_eqSurface.mono _ _ _ _ _)
      | (with_reducible exact laws_heldSurface.mono _ _ _ _)
      | (with_reducible exact laws_markIntS.mono _ _ _)
      | (with_reducible exact laws_markSurface.mono _ _ _ _)
      | (with_reducible exact laws_toIntS.mono _ _)
      | (with_reducible exact laws_toSurface.mono _ _ _)
      | (with_reducible exact spec_RenameSurface.mono _ _ _ _)
      | (with_reducible exact LeO.refl _)
      | (with_reducible exact LeO.none _)
      | (with_reducible refine LeO.ite ?_ ?_)
      | (with_reducible refine LeO.bind ?_ (fun _ => ?_))
      | exact ih0 _ _ _ _ _ _ _ _ _ _ _ _ _
      | exact ih1 _ _ _ _ _ _ _ _ _
      | exact ih2 _ _ _ _
      | exact impl_RenameSurface.mono _ _ _ _
      | exact laws_eqIntS.mono _ _ _
      | exact laws_eqSurface.mono _ _ _ _ _
      | exact laws_heldSurface.mono _ _ _ _
      | exact laws_markIntS.mono _ _ _
      | exact laws_markSurface.mono _ _ _ _
      | exact laws_toIntS.mono _ _
      | exact laws_toSurface.mono _ _ _
      | exact spec_RenameSurface.mono _ _ _ _
      | exact LeO.none _
      | refine LeO.ite ?_ ?_
      | refine LeO.bind ?_ (fun _ => ?_)
set_option maxHeartbeats 8000000 in
set_option maxRecDepth 100000 in
theorem laws_FnExactRenameSurface.calls_true (k : Nat) (A0_0 : Option Addr) (c0_0 : Nat) (l0_0 : List Int) (A0_1 : Option Addr) (c0_1 : Nat) (l0_1 : List Int) (A1 : Option Addr) (c1 : Nat) (l1 : List Int) (w : World) (hr0_0 : Kd.C (Kd.int .i64) w A0_0 l0_0.length l0_0) (hc0_0 : l0_0.length ≤ c0_0) (hr0_1 : Kd.C (Kd.int .i64) w A0_1 l0_1.length l0_1) (hc0_1 : l0_1.length ≤ c0_1) (hr1 : Kd.C (Kd.int .i64) w A1 l1.length l1) (hc1 : l1.length ≤ c1) (h : laws_FnExactRenameSurface.f k l0_0 l0_1 l1 = some true) :
    Calls Try.prog 9 #[.agg #[.slice A0_0 l0_0.length c0_0, .slice A0_1 l0_1.length c0_1], .slice A1 l1.length c1] w fun e w' => e = .returned (.bool true) ∧ Below w.heap.size w w' := by
  have hu24 := Try.underlying24
  have hu27 := Try.underlying27
  have HR0_0 := Aside0.mk hr0_0
  have HC0_0 := Aside0.mk hc0_0
  clear hr0_0 hc0_0
  have HR0_1 := Aside0.mk hr0_1
  have HC0_1 := Aside0.mk hc0_1
  clear hr0_1 hc0_1
  have HR1 := Aside0.mk hr1
  have HC1 := Aside0.mk hc1
  clear hr1 hc1
  have HB := Aside0.mk (Below.refl w.heap.size w)
  have H : (if (l1.length : Int) > 1048576 then (some true) else ((laws_szSurface.f l0_0 l0_1 1048576).bind fun t643 => (if t643 < 0 then (some true) else ((laws_toSurface.f k l0_0 l0_1).bind fun bt644 => ((laws_toIntS.f k l1).bind fun t650 => ((spec_RenameSurface.f k bt644.1 bt644.2 t650).bind fun bt653 => ((laws_toSurface.f k l0_0 l0_1).bind fun bt661 => ((laws_toIntS.f k l1).bind fun t668 => ((impl_RenameSurface.f k bt661.1 bt661.2 t668).bind fun bt671 => ((laws_eqSurface.f k bt671.1 bt671.2.1 bt653.1 bt653.2.1).bind fun t679 => (if t679 = true then (laws_FnExactRenameSurface.j0 k l1 bt653.2.2 t668 bt671.2.2 (bt671.2.2 != bt653.2.2) l0_0 l0_1 bt653.1 bt653.2.1 bt661.1 bt661.2 bt671.1 bt671.2.1) else (laws_FnExactRenameSurface.j0 k l1 bt653.2.2 t668 bt671.2.2 true l0_0 l0_1 bt653.1 bt653.2.1 bt661.1 bt661.2 bt671.1 bt671.2.1)))))))))))) = some true := h
  clear h
  by_cases c3 : (l1.length : Int) > 1048576
  · rw [if_pos c3] at H
    have c3b0 : decide (1048576 < (l1.length : Int)) = true := decide_eq_true c3
    have c3b1 : decide (1048576 < l1.length) = true := decide_eq_true (by omega)
    clear c3
    go_enter Try.func9, Try.ntmps9
    go_wp2_with (first | ((with_reducible refine gate_dst (N := 2) rfl ?_); refine box_event ?hg (N := 2) ?hd (cs := #[.slice A0_0 l0_0.length c0_0, .slice A0_1 l0_1.length c0_1]) (t := 24) ?hr ?_; (case hd => rfl); (case hg => rfl); (case hr => first | (go_simp; done) | (go_simp; rfl)); intro gb642 hg w4 hbox hb; have n0_ := Aside0.mk (below_step (HB.out) hb); have n1_ := Aside0.mk (hbox); have n2_ := Aside0.mk ((by rw [hg]; exact (below_size (HB.out)) : w.heap.size ≤ gb642)); have n3_ := Aside0.mk ((by rw [hg]; exact (below_size (HB.out)) : w.heap.size ≤ gb642)); clear HB; have HB := n0_; have BK642 := n1_; have GW642 := n2_; have GE642 := n3_; clear n0_ n1_ n2_ n3_; clear hb hbox hg))
    go_ret
    exact ⟨by first | rfl | (simp [errW_none, errW_some] <;> rfl) | (simp [*, errW_none, errW_some] <;> rfl), HB.out⟩
  · rw [if_neg c3] at H
    have c3b0 : decide (1048576 < (l1.length : Int)) = false := decide_eq_false c3
    (try simp only [hl668000_77] at c3b0; try simp only [hl668001_77] at c3b0; try simp only [hl679000_125] at c3b0; try simp only [hl679001_125] at c3b0)
    have c3b1 : decide (1048576 < l1.length) = false := decide_eq_false (by omega)
    (try simp only [hl668000_77] at c3b1; try simp only [hl668001_77] at c3b1; try simp only [hl679000_125] at c3b1; try simp only [hl679001_125] at c3b1)
    clear c3
    replace H := Option.bind_eq_some_iff.mp H
    obtain ⟨t643, A50, H⟩ := H
    replace H : (if t643 < 0 then (some true) else ((laws_toSurface.f k l0_0 l0_1).bind fun bt644 => ((laws_toIntS.f k l1).bind fun t650 => ((spec_RenameSurface.f k bt644.1 bt644.2 t650).bind fun bt653 => ((laws_toSurface.f k l0_0 l0_1).bind fun bt661 => ((laws_toIntS.f k l1).bind fun t668 => ((impl_RenameSurface.f k bt661.1 bt661.2 t668).bind fun bt671 => ((laws_eqSurface.f k bt671.1 bt671.2.1 bt653.1 bt653.2.1).bind fun t679 => (if t679 = true then (laws_FnExactRenameSurface.j0 k l1 bt653.2.2 t668 bt671.2.2 (bt671.2.2 != bt653.2.2) l0_0 l0_1 bt653.1 bt653.2.1 bt661.1 bt661.2 bt671.1 bt671.2.1) else (laws_FnExactRenameSurface.j0 k l1 bt653.2.2 t668 bt671.2.2 true l0_0 l0_1 bt653.1 bt653.2.1 bt661.1 bt661.2 bt671.1 bt671.2.1)))))))))) = some true := H
    have A5 := Aside0.mk A50
    clear A50
    by_cases c6 : t643 < 0
    · rw [if_pos c6] at H
      have c6b0 : decide (t643 < 0) = true := decide_eq_true c6
      clear c6
      go_enter Try.func9, Try.ntmps9
      go_wp2_with (first | ((with_reducible refine gate_dst (N := 2) rfl ?_); refine box_event ?hg (N := 2) ?hd (cs := #[.slice A0_0 l0_0.length c0_0, .slice A0_1 l0_1.length c0_1]) (t := 24) ?hr ?_; (case hd => rfl); (case hg => rfl); (case hr => first | (go_simp; done) | (go_simp; rfl)); intro gb642 hg w7 hbox hb; have n0_ := Aside0.mk (below_step (HB.out) hb); have n1_ := Aside0.mk (hbox); have n2_ := Aside0.mk ((by rw [hg]; exact (below_size (HB.out)) : w.heap.size ≤ gb642)); have n3_ := Aside0.mk ((by rw [hg]; exact (below_size (HB.out)) : w.heap.size ≤ gb642)); clear HB; have HB := n0_; have BK642 := n1_; have GW642 := n2_; have GE642 := n3_; clear n0_ n1_ n2_ n3_; clear hb hbox hg; have hcz8_0 : w7.cell? ⟨gb642, 0, none⟩ = some (.slice A0_0 l0_0.length c0_0) := (blk_cell BK642.out 0).trans rfl; have hcz8_1 : w7.cell? ⟨gb642, 1, none⟩ = some (.slice A0_1 l0_1.length c0_1) := (blk_cell BK642.out 1).trans rfl; have hfz8_0 := blk_frozen BK642.out 0; have hfz8_1 := blk_frozen BK642.out 1) | ((with_reducible refine gate_callee (f := 15) rfl ?_); refine goesL_ (some 22) rfl rfl Try.func15 (by kernel_rfl) rfl #[.agg #[.slice A0_0 l0_0.length c0_0, .slice A0_1 l0_1.length c0_1], .int .i64 1048576] rfl (by (try simp only [List.map_toArray, List.map_cons, List.map_nil]); first | done | rfl | (simp only [List.length_drop, List.length_take]; rfl)) ?_; (with_reducible refine (laws_szSurface.calls _ _ l0_0 _ _ l0_1 1048576 t643 _ ?side1 ?side2 ?side3 ?side4 A5.out).mono ?_); (case side1 => repeat (first | exact (Kd.C_below HR0_0.out HB.out) | (with_reducible refine Kd.C_alloc ?_ _) | (with_reducible refine Kd.C_drewN ?_ _) | (with_reducible refine Kd.C_drew ?_))); (case side2 => exact HC0_0.out); (case side3 => repeat (first | exact (Kd.C_below HR0_1.out HB.out) | (with_reducible refine Kd.C_alloc ?_ _) | (with_reducible refine Kd.C_drewN ?_ _) | (with_reducible refine Kd.C_drew ?_))); (case side4 => exact HC0_1.out); rintro e w9 ⟨rfl, hb⟩; refine ⟨_, rfl, ?_⟩; have n0_ := Aside0.mk (blk_below (g := gb642) (o := .cells #[.slice A0_0 l0_0.length c0_0, .slice A0_1 l0_1.length c0_1] 24 (0, 0)) (BK642.out) hb); have n1_ := Aside0.mk (below_step (HB.out) hb); clear BK642; clear HB; have BK642 := n0_; have HB := n1_; clear n0_ n1_; (try clear hb); (try clear hb2); (try clear hk); (try clear hi)))
      go_ret
      exact ⟨by first | rfl | (simp [errW_none, errW_some] <;> rfl) | (simp [*, errW_none, errW_some] <;> rfl), HB.out⟩
    · rw [if_neg c6] at H
      have c6b0 : decide (t643 < 0) = false := decide_eq_false c6
      clear c6
      replace H := Option.bind_eq_some_iff.mp H
      obtain ⟨⟨t644, t647⟩, A100, H⟩ := H
      replace H : ((laws_toIntS.f k l1).bind fun t650 => ((spec_RenameSurface.f k t644 t647 t650).bind fun bt653 => ((laws_toSurface.f k l0_0 l0_1).bind fun bt661 => ((laws_toIntS.f k l1).bind fun t668 => ((impl_RenameSurface.f k bt661.1 bt661.2 t668).bind fun bt671 => ((laws_eqSurface.f k bt671.1 bt671.2.1 bt653.1 bt653.2.1).bind fun t679 => (if t679 = true then (laws_FnExactRenameSurface.j0 k l1 bt653.2.2 t668 bt671.2.2 (bt671.2.2 != bt653.2.2) l0_0 l0_1 bt653.1 bt653.2.1 bt661.1 bt661.2 bt671.1 bt671.2.1) else (laws_FnExactRenameSurface.j0 k l1 bt653.2.2 t668 bt671.2.2 true l0_0 l0_1 bt653.1 bt653.2.1 bt661.1 bt661.2 bt671.1 bt671.2.1)))))))) = some true := H
      have A10 := Aside0.mk A100
      clear A100
      replace H := Option.bind_eq_some_iff.mp H
      obtain ⟨t650, A110, H⟩ := H
      replace H : ((spec_RenameSurface.f k t644 t647 t650).bind fun bt653 => ((laws_toSurface.f k l0_0 l0_1).bind fun bt661 => ((laws_toIntS.f k l1).bind fun t668 => ((impl_RenameSurface.f k bt661.1 bt661.2 t668).bind fun bt671 => ((laws_eqSurface.f k bt671.1 bt671.2.1 bt653.1 bt653.2.1).bind fun t679 => (if t679 = true then (laws_FnExactRenameSurface.j0 k l1 bt653.2.2 t668 bt671.2.2 (bt671.2.2 != bt653.2.2) l0_0 l0_1 bt653.1 bt653.2.1 bt661.1 bt661.2 bt671.1 bt671.2.1) else (laws_FnExactRenameSurface.j0 k l1 bt653.2.2 t668 bt671.2.2 true l0_0 l0_1 bt653.1 bt653.2.1 bt661.1 bt661.2 bt671.1 bt671.2.1))))))) = some true := H
      have A11 := Aside0.mk A110
      clear A110
      replace H := Option.bind_eq_some_iff.mp H
      obtain ⟨⟨t653, t656, t659⟩, A120, H⟩ := H
      replace H : ((laws_toSurface.f k l0_0 l0_1).bind fun bt661 => ((laws_toIntS.f k l1).bind fun t668 => ((impl_RenameSurface.f k bt661.1 bt661.2 t668).bind fun bt671 => ((laws_eqSurface.f k bt671.1 bt671.2.1 t653 t656).bind fun t679 => (if t679 = true then (laws_FnExactRenameSurface.j0 k l1 t659 t668 bt671.2.2 (bt671.2.2 != t659) l0_0 l0_1 t653 t656 bt661.1 bt661.2 bt671.1 bt671.2.1) else (laws_FnExactRenameSurface.j0 k l1 t659 t668 bt671.2.2 true l0_0 l0_1 t653 t656 bt661.1 bt661.2 bt671.1 bt671.2.1)))))) = some true := H
      have A12 := Aside0.mk A120
      clear A120
      replace H := Option.bind_eq_some_iff.mp H
      obtain ⟨⟨t661, t664⟩, A130, H⟩ := H
      replace H : ((laws_toIntS.f k l1).bind fun t668 => ((impl_RenameSurface.f k t661 t664 t668).bind fun bt671 => ((laws_eqSurface.f k bt671.1 bt671.2.1 t653 t656).bind fun t679 => (if t679 = true then (laws_FnExactRenameSurface.j0 k l1 t659 t668 bt671.2.2 (bt671.2.2 != t659) l0_0 l0_1 t653 t656 t661 t664 bt671.1 bt671.2.1) else (laws_FnExactRenameSurface.j0 k l1 t659 t668 bt671.2.2 true l0_0 l0_1 t653 t656 t661 t664 bt671.1 bt671.2.1))))) = some true := H
      have A13 := Aside0.mk A130
      clear A130
      replace H := Option.bind_eq_some_iff.mp H
      obtain ⟨t668, A140, H⟩ := H
      replace H : ((impl_RenameSurface.f k t661 t664 t668).bind fun bt671 => ((laws_eqSurface.f k bt671.1 bt671.2.1 t653 t656).bind fun t679 => (if t679 = true then (laws_FnExactRenameSurface.j0 k l1 t659 t668 bt671.2.2 (bt671.2.2 != t659) l0_0 l0_1 t653 t656 t661 t664 bt671.1 bt671.2.1) else (laws_FnExactRenameSurface.j0 k l1 t659 t668 bt671.2.2 true l0_0 l0_1 t653 t656 t661 t664 bt671.1 bt671.2.1)))) = some true := H
      have A14 := Aside0.mk A140
      clear A140
      replace H := Option.bind_eq_some_iff.mp H
      obtain ⟨⟨t671, t674, t677⟩, A150, H⟩ := H
      replace H : ((laws_eqSurface.f k t671 t674 t653 t656).bind fun t679 => (if t679 = true then (laws_FnExactRenameSurface.j0 k l1 t659 t668 t677 (t677 != t659) l0_0 l0_1 t653 t656 t661 t664 t671 t674) else (laws_FnExactRenameSurface.j0 k l1 t659 t668 t677 true l0_0 l0_1 t653 t656 t661 t664 t671 t674))) = some true := H
      have A15 := Aside0.mk A150
      clear A150
      have HC16 := Aside0.mk H
      clear H
      go_enter Try.func9, Try.ntmps9
      go_upto_region 11 with (first | ((with_reducible refine gate_dst (N := 2) rfl ?_); refine box_event ?hg (N := 2) ?hd (cs := #[.slice A0_0 l0_0.length c0_0, .slice A0_1 l0_1.length c0_1]) (t := 24) ?hr ?_; (case hd => rfl); (case hg => rfl); (case hr => first | (go_simp; done) | (go_simp; rfl)); intro gb642 hg w17 hbox hb; have n0_ := Aside0.mk (below_step (by repeat (first | (with_reducible first | exact HB.out | apply below_alloc | apply pw_below_drewN | apply below_drew1) | exact HB.out)) hb); have n1_ := Aside0.mk (hbox); have n2_ := Aside0.mk ((by rw [hg]; exact (below_size (by repeat (first | (with_reducible first | exact HB.out | apply below_alloc | apply pw_below_drewN | apply below_drew1) | exact HB.out))) : w.heap.size ≤ gb642)); have n3_ := Aside0.mk ((by rw [hg]; exact (below_size (by repeat (first | (with_reducible first | exact HB.out | apply below_alloc | apply pw_below_drewN | apply below_drew1) | exact HB.out))) : w.heap.size ≤ gb642)); clear HB; have HB := n0_; have BK642 := n1_; have GW642 := n2_; have GE642 := n3_; clear n0_ n1_ n2_ n3_; clear hb hbox hg; have hcz18_0 : w17.cell? ⟨gb642, 0, none⟩ = some (.slice A0_0 l0_0.length c0_0) := (blk_cell BK642.out 0).trans rfl; have hcz18_1 : w17.cell? ⟨gb642, 1, none⟩ = some (.slice A0_1 l0_1.length c0_1) := (blk_cell BK642.out 1).trans rfl; have hfz18_0 := blk_frozen BK642.out 0; have hfz18_1 := blk_frozen BK642.out 1) | ((with_reducible refine gate_callee (f := 15) rfl ?_); refine goesL_ (some 22) rfl rfl Try.func15 (by kernel_rfl) rfl #[.agg #[.slice A0_0 l0_0.length c0_0, .slice A0_1 l0_1.length c0_1], .int .i64 1048576] rfl (by (try simp only [List.map_toArray, List.map_cons, List.map_nil]); first | done | rfl | (simp only [List.length_drop, List.length_take]; rfl)) ?_; (with_reducible refine (laws_szSurface.calls _ _ l0_0 _ _ l0_1 1048576 t643 _ ?side1 ?side2 ?side3 ?side4 A5.out).mono ?_); (case side1 => repeat (first | exact (Kd.C_below HR0_0.out HB.out) | (with_reducible refine Kd.C_alloc ?_ _) | (with_reducible refine Kd.C_drewN ?_ _) | (with_reducible refine Kd.C_drew ?_))); (case side2 => exact HC0_0.out); (case side3 => repeat (first | exact (Kd.C_below HR0_1.out HB.out) | (with_reducible refine Kd.C_alloc ?_ _) | (with_reducible refine Kd.C_drewN ?_ _) | (with_reducible refine Kd.C_drew ?_))); (case side4 => exact HC0_1.out); rintro e w19 ⟨rfl, hb⟩; refine ⟨_, rfl, ?_⟩; have n0_ := Aside0.mk (blk_below (g := gb642) (o := .cells #[.slice A0_0 l0_0.length c0_0, .slice A0_1 l0_1.length c0_1] 24 (0, 0)) (by (with_reducible repeat (first | refine blk_drewN ?_ _ | refine blk_drew ?_ | refine blk_alloc ?_ _)); exact BK642.out) hb); have n1_ := Aside0.mk (below_step (by repeat (first | (with_reducible first | exact HB.out | apply below_alloc | apply pw_below_drewN | apply below_drew1 | refine below_set ?_ GE642.out) | exact HB.out)) hb); clear BK642; clear HB; have BK642 := n0_; have HB := n1_; clear n0_ n1_; (try clear hb); (try clear hb2); (try clear hk); (try clear hi); have hcz20_0 : w19.cell? ⟨gb642, 0, none⟩ = some (.slice A0_0 l0_0.length c0_0) := (blk_cell BK642.out 0).trans rfl; have hcz20_1 : w19.cell? ⟨gb642, 1, none⟩ = some (.slice A0_1 l0_1.length c0_1) := (blk_cell BK642.out 1).trans rfl; have hfz20_0 := blk_frozen BK642.out 0; have hfz20_1 := blk_frozen BK642.out 1) | ((with_reducible refine gate_callee (f := 17) rfl ?_); refine goesL_ (some 27) rfl rfl Try.func17 (by kernel_rfl) rfl #[.agg #[.slice A0_0 l0_0.length c0_0, .slice A0_1 l0_1.length c0_1]] rfl (by (try simp only [List.map_toArray, List.map_cons, List.map_nil]); first | done | rfl | (simp only [List.length_drop, List.length_take]; rfl)) ?_; (with_reducible refine (laws_toSurface.calls k _ _ l0_0 _ _ l0_1 t644 t647 _ ?side1 ?side2 ?side3 ?side4 A10.out).mono ?_); (case side1 => repeat (first | exact (Kd.C_below HR0_0.out HB.out) | (with_reducible refine Kd.C_alloc ?_ _) | (with_reducible refine Kd.C_drewN ?_ _) | (with_reducible refine Kd.C_drew ?_))); (case side2 => exact HC0_0.out); (case side3 => repeat (first | exact (Kd.C_below HR0_1.out HB.out) | (with_reducible refine Kd.C_alloc ?_ _) | (with_reducible refine Kd.C_drewN ?_ _) | (with_reducible refine Kd.C_drew ?_))); (case side4 => exact HC0_1.out); rintro e w21 ⟨v645, v648, rfl, ho0, ho1, hb⟩; refine ⟨_, rfl, ?_⟩; have n0_ := Aside0.mk (Kd.R_lower ho0 (below_size (by repeat (first | (with_reducible first | exact HB.out | apply below_alloc | apply pw_below_drewN | apply below_drew1 | refine below_set ?_ GE642.out) | exact HB.out)))); have n1_ := Aside0.mk (Kd.R_lower ho1 (below_size (by repeat (first | (with_reducible first | exact HB.out | apply below_alloc | apply pw_below_drewN | apply below_drew1 | refine below_set ?_ GE642.out) | exact HB.out)))); have n2_ := Aside0.mk (blk_below (g := gb642) (o := .cells #[.slice A0_0 l0_0.length c0_0, .slice A0_1 l0_1.length c0_1] 24 (0, 0)) (by (with_reducible repeat (first | refine blk_drewN ?_ _ | refine blk_drew ?_ | refine blk_alloc ?_ _)); exact BK642.out) hb); have n3_ := Aside0.mk (below_step (by repeat (first | (with_reducible first | exact HB.out | apply below_alloc | apply pw_below_drewN | apply below_drew1 | refine below_set ?_ GE642.out) | exact HB.out)) hb); clear BK642; clear HB; have HO646 := n0_; have HO649 := n1_; have BK642 := n2_; have HB := n3_; clear n0_ n1_ n2_ n3_; (try clear hb); (try clear hb2); (try clear hk); (try clear hi); (try clear ho0); (try clear ho1)) | ((with_reducible refine gate_callee (f := 21) rfl ?_); refine goesL_ (some 29) rfl rfl Try.func21 (by kernel_rfl) rfl #[.slice A1 l1.length c1] rfl (by (try simp only [List.map_toArray, List.map_cons, List.map_nil]); first | done | rfl | (simp only [List.length_drop, List.length_take]; rfl)) ?_; (with_reducible refine (laws_toIntS.calls k _ _ l1 t650 _ ?side1 ?side2 A11.out).mono ?_); (case side1 => repeat (first | exact (Kd.C_below HR1.out HB.out) | (with_reducible refine Kd.C_alloc ?_ _) | (with_reducible refine Kd.C_drewN ?_ _) | (with_reducible refine Kd.C_drew ?_))); (case side2 => exact HC1.out); rintro e w22 ⟨v651, rfl, ho0, hb⟩; refine ⟨_, rfl, ?_⟩; have n0_ := Aside0.mk (Kd.R_elder' (by (with_reducible repeat (first | apply Kd.R_alloc | apply Kd.R_drewN | apply Kd.R_drew)); exact HO646.out) (Kd.R_base ho0) hb); have n1_ := Aside0.mk (Kd.R_elder' (by (with_reducible repeat (first | apply Kd.R_alloc | apply Kd.R_drewN | apply Kd.R_drew)); exact HO649.out) (Kd.R_base ho0) hb); have n2_ := Aside0.mk (Kd.R_lower (Kd.R_new' (Kd.R_new' ho0 (Kd.R_lt (by (with_reducible repeat (first | apply Kd.R_alloc | apply Kd.R_drewN | apply Kd.R_drew)); exact HO646.out))) (Kd.R_lt (by (with_reducible repeat (first | apply Kd.R_alloc | apply Kd.R_drewN | apply Kd.R_drew)); exact HO649.out))) (below_size (by repeat (first | (with_reducible first | exact HB.out | apply below_alloc | apply pw_below_drewN | apply below_drew1 | refine below_set ?_ GE642.out) | exact HB.out)))); have n3_ := Aside0.mk (blk_below (g := gb642) (o := .cells #[.slice A0_0 l0_0.length c0_0, .slice A0_1 l0_1.length c0_1] 24 (0, 0)) (by (with_reducible repeat (first | refine blk_drewN ?_ _ | refine blk_drew ?_ | refine blk_alloc ?_ _)); exact BK642.out) hb); have n4_ := Aside0.mk (below_step (by repeat (first | (with_reducible first | exact HB.out | apply below_alloc | apply pw_below_drewN | apply below_drew1 | refine below_set ?_ GE642.out) | exact HB.out)) hb); clear HO646; clear HO649; clear BK642; clear HB; have HO646 := n0_; have HO649 := n1_; have HO652 := n2_; have BK642 := n3_; have HB := n4_; clear n0_ n1_ n2_ n3_ n4_; (try clear hb); (try clear hb2); (try clear hk); (try clear hi); (try clear ho0); obtain ⟨Ao23, co23, eo23⟩ := Kd.R_slice HO646.out; subst eo23; obtain ⟨Ao24, co24, eo24⟩ := Kd.R_slice HO649.out; subst eo24; obtain ⟨Ao25, co25, eo25⟩ := Kd.R_slice HO652.out; subst eo25) | ((with_reducible refine gate_callee (f := 44) rfl ?_); refine goesL_ (some 30) rfl rfl Try.func44 (by kernel_rfl) rfl #[.agg #[.slice Ao23 t644.length co23, .slice Ao24 t647.length co24], .slice Ao25 t650.length co25] rfl (by (try simp only [List.map_toArray, List.map_cons, List.map_nil]); first | done | rfl | (simp only [List.length_drop, List.length_take]; rfl)) ?_; (with_reducible refine (spec_RenameSurface.calls k _ _ t644 _ _ t647 _ _ t650 t653 t656 t659 _ ?side1 ?side2 ?side3 ?side4 ?side5 ?side6 A12.out).mono ?_); (case side1 => repeat (first | exact (Kd.R_reads' HO646.out).2.2 | (with_reducible refine Kd.C_alloc ?_ _) | (with_reducible refine Kd.C_drewN ?_ _) | (with_reducible refine Kd.C_drew ?_))); (case side2 => exact (Kd.R_reads' HO646.out).2.1); (case side3 => repeat (first | exact (Kd.R_reads' HO649.out).2.2 | (with_reducible refine Kd.C_alloc ?_ _) | (with_reducible refine Kd.C_drewN ?_ _) | (with_reducible refine Kd.C_drew ?_))); (case side4 => exact (Kd.R_reads' HO649.out).2.1); (case side5 => repeat (first | exact (Kd.R_reads' HO652.out).2.2 | (with_reducible refine Kd.C_alloc ?_ _) | (with_reducible refine Kd.C_drewN ?_ _) | (with_reducible refine Kd.C_drew ?_))); (case side6 => exact (Kd.R_reads' HO652.out).2.1); rintro e w26 ⟨v654, v657, rfl, ho0, ho1, hb⟩; refine ⟨_, rfl, ?_⟩; have n0_ := Aside0.mk (Kd.R_mono (Kd.R_told (Kd.R_told (Kd.R_old (by (with_reducible repeat (first | apply Kd.R_alloc | apply Kd.R_drewN | apply Kd.R_drew)); exact HO646.out) hb) (Kd.R_base ho0)) (Kd.R_base ho1)) (fun _ h_ => h_.1)); have n1_ := Aside0.mk (Kd.R_mono (Kd.R_told (Kd.R_told (Kd.R_old (by (with_reducible repeat (first | apply Kd.R_alloc | apply Kd.R_drewN | apply Kd.R_drew)); exact HO649.out) hb) (Kd.R_base ho0)) (Kd.R_base ho1)) (fun _ h_ => h_.1)); have n2_ := Aside0.mk (Kd.R_mono (Kd.R_told (Kd.R_told (Kd.R_old (by (with_reducible repeat (first | apply Kd.R_alloc | apply Kd.R_drewN | apply Kd.R_drew)); exact HO652.out) hb) (Kd.R_base ho0)) (Kd.R_base ho1)) (fun _ h_ => h_.1)); have n3_ := Aside0.mk (Kd.R_lower (Kd.R_new' (Kd.R_new' (Kd.R_new' ho0 (Kd.R_lt (by (with_reducible repeat (first | apply Kd.R_alloc | apply Kd.R_drewN | apply Kd.R_drew)); exact HO646.out))) (Kd.R_lt (by (with_reducible repeat (first | apply Kd.R_alloc | apply Kd.R_drewN | apply Kd.R_drew)); exact HO649.out))) (Kd.R_lt (by (with_reducible repeat (first | apply Kd.R_alloc | apply Kd.R_drewN | apply Kd.R_drew)); exact HO652.out))) (below_size (by repeat (first | (with_reducible first | exact HB.out | apply below_alloc | apply pw_below_drewN | apply below_drew1 | refine below_set ?_ GE642.out) | exact HB.out)))); have n4_ := Aside0.mk (Kd.R_lower (Kd.R_new' (Kd.R_new' (Kd.R_new' ho1 (Kd.R_lt (by (with_reducible repeat (first | apply Kd.R_alloc | apply Kd.R_drewN | apply Kd.R_drew)); exact HO646.out))) (Kd.R_lt (by (with_reducible repeat (first | apply Kd.R_alloc | apply Kd.R_drewN | apply Kd.R_drew)); exact HO649.out))) (Kd.R_lt (by (with_reducible repeat (first | apply Kd.R_alloc | apply Kd.R_drewN | apply Kd.R_drew)); exact HO652.out))) (below_size (by repeat (first | (with_reducible first | exact HB.out | apply below_alloc | apply pw_below_drewN | apply below_drew1 | refine below_set ?_ GE642.out) | exact HB.out)))); have n5_ := Aside0.mk (blk_below (g := gb642) (o := .cells #[.slice A0_0 l0_0.length c0_0, .slice A0_1 l0_1.length c0_1] 24 (0, 0)) (by (with_reducible repeat (first | refine blk_drewN ?_ _ | refine blk_drew ?_ | refine blk_alloc ?_ _)); exact BK642.out) hb); have n6_ := Aside0.mk (below_step (by repeat (first | (with_reducible first | exact HB.out | apply below_alloc | apply pw_below_drewN | apply below_drew1 | refine below_set ?_ GE642.out) | exact HB.out)) hb); clear HO646; clear HO649; clear HO652; clear BK642; clear HB; have HO646 := n0_; have HO649 := n1_; have HO652 := n2_; have HO655 := n3_; have HO658 := n4_; have BK642 := n5_; have HB := n6_; clear n0_ n1_ n2_ n3_ n4_ n5_ n6_; (try clear hb); (try clear hb2); (try clear hk); (try clear hi); (try clear ho0); (try clear ho1)) | ((with_reducible refine gate_dst (N := 6) rfl ?_); refine box_event ?hg (N := 6) ?hd (cs := #[.slice none 0 0, .slice none 0 0]) (t := 27) ?hr ?_; (case hd => rfl); (case hg => rfl); (case hr => first | (go_simp; done) | (go_simp; rfl)); intro gb660 hg w27 hbox hb; have n0_ := Aside0.mk (Kd.R_below (by (with_reducible repeat (first | apply Kd.R_alloc | apply Kd.R_drewN | apply Kd.R_drew)); exact HO646.out) hb); have n1_ := Aside0.mk (Kd.R_below (by (with_reducible repeat (first | apply Kd.R_alloc | apply Kd.R_drewN | apply Kd.R_drew)); exact HO649.out) hb); have n2_ := Aside0.mk (Kd.R_below (by (with_reducible repeat (first | apply Kd.R_alloc | apply Kd.R_drewN | apply Kd.R_drew)); exact HO652.out) hb); have n3_ := Aside0.mk (Kd.R_below (by (with_reducible repeat (first | apply Kd.R_alloc | apply Kd.R_drewN | apply Kd.R_drew)); exact HO655.out) hb); have n4_ := Aside0.mk (Kd.R_below (by (with_reducible repeat (first | apply Kd.R_alloc | apply Kd.R_drewN | apply Kd.R_drew)); exact HO658.out) hb); have n5_ := Aside0.mk (blk_below (g := gb642) (o := .cells #[.slice A0_0 l0_0.length c0_0, .slice A0_1 l0_1.length c0_1] 24 (0, 0)) (by (with_reducible repeat (first | refine blk_drewN ?_ _ | refine blk_drew ?_ | refine blk_alloc ?_ _)); exact BK642.out) hb); have n6_ := Aside0.mk (below_step (by repeat (first | (with_reducible first | exact HB.out | apply below_alloc | apply pw_below_drewN | apply below_drew1 | refine below_set ?_ GE642.out) | exact HB.out)) hb); have n7_ := Aside0.mk (hbox); have n8_ := Aside0.mk ((by rw [hg]; exact (below_size (by repeat (first | (with_reducible first | exact HB.out | apply below_alloc | apply pw_below_drewN | apply below_drew1 | refine below_set ?_ GE642.out) | exact HB.out))) : w.heap.size ≤ gb660)); have n9_ := Aside0.mk ((by rw [hg]; exact (below_size (by repeat (first | (with_reducible first | exact HB.out | apply below_alloc | apply pw_below_drewN | apply below_drew1 | refine below_set ?_ GE642.out) | exact HB.out))) : w.heap.size ≤ gb660)); have n10_ := Aside0.mk ((by rw [hg]; exact Nat.ne_of_lt (blk_lt (g := gb642) (o := .cells #[.slice A0_0 l0_0.length c0_0, .slice A0_1 l0_1.length c0_1] 24 (0, 0)) (by (with_reducible repeat (first | refine blk_drewN ?_ _ | refine blk_drew ?_ | refine blk_alloc ?_ _)); exact BK642.out)) : gb642 ≠ gb660)); have n11_ := Aside0.mk ((by rw [hg]; exact Nat.ne_of_gt (blk_lt (g := gb642) (o := .cells #[.slice A0_0 l0_0.length c0_0, .slice A0_1 l0_1.length c0_1] 24 (0, 0)) (by (with_reducible repeat (first | refine blk_drewN ?_ _ | refine blk_drew ?_ | refine blk_alloc ?_ _)); exact BK642.out)) : gb660 ≠ gb642)); clear HO646; clear HO649; clear HO652; clear HO655; clear HO658; clear BK642; clear HB; have HO646 := n0_; have HO649 := n1_; have HO652 := n2_; have HO655 := n3_; have HO658 := n4_; have BK642 := n5_; have HB := n6_; have BK660 := n7_; have GW660 := n8_; have GE660 := n9_; have NB642_660 := n10_; have NB660_642 := n11_; clear n0_ n1_ n2_ n3_ n4_ n5_ n6_ n7_ n8_ n9_ n10_ n11_; clear hb hbox hg; obtain ⟨Ao28, co28, eo28⟩ := Kd.R_slice HO655.out; subst eo28; have hnb29 := NB660_642.out; have hnc29 := NB642_660.out; have hcz30_0 : w27.cell? ⟨gb660, 0, none⟩ = some (.slice none 0 0) := (blk_cell BK660.out 0).trans rfl; have hcz30_1 : w27.cell? ⟨gb660, 1, none⟩ = some (.slice none 0 0) := (blk_cell BK660.out 1).trans rfl; have hfz30_0 := blk_frozen BK660.out 0; have hfz30_1 := blk_frozen BK660.out 1; obtain ⟨Ao31, co31, eo31⟩ := Kd.R_slice HO658.out; subst eo31; have hcz32_0 : w27.cell? ⟨gb642, 0, none⟩ = some (.slice A0_0 l0_0.length c0_0) := (blk_cell BK642.out 0).trans rfl; have hcz32_1 : w27.cell? ⟨gb642, 1, none⟩ = some (.slice A0_1 l0_1.length c0_1) := (blk_cell BK642.out 1).trans rfl; have hfz32_0 := blk_frozen BK642.out 0; have hfz32_1 := blk_frozen BK642.out 1) | ((with_reducible refine gate_callee (f := 17) rfl ?_); refine goesL_ (some 34) rfl rfl Try.func17 (by kernel_rfl) rfl #[.agg #[.slice A0_0 l0_0.length c0_0, .slice A0_1 l0_1.length c0_1]] rfl (by (try simp only [List.map_toArray, List.map_cons, List.map_nil]); first | done | rfl | (simp only [List.length_drop, List.length_take]; rfl)) ?_; (with_reducible refine (laws_toSurface.calls k _ _ l0_0 _ _ l0_1 t661 t664 _ ?side1 ?side2 ?side3 ?side4 A13.out).mono ?_); (case side1 => exact Kd.C_below HR0_0.out (by repeat (first | (with_reducible first | exact HB.out | apply below_alloc | apply pw_below_drewN | apply below_drew1 | refine below_set ?_ GE642.out | refine below_set ?_ GE660.out) | exact HB.out))); (case side2 => exact HC0_0.out); (case side3 => exact Kd.C_below HR0_1.out (by repeat (first | (with_reducible first | exact HB.out | apply below_alloc | apply pw_below_drewN | apply below_drew1 | refine below_set ?_ GE642.out | refine below_set ?_ GE660.out) | exact HB.out))); (case side4 => exact HC0_1.out); rintro e w33 ⟨v662, v665, rfl, ho0, ho1, hb⟩; refine ⟨_, rfl, ?_⟩; have n0_ := Aside0.mk (Kd.R_mono (Kd.R_told (Kd.R_told (Kd.R_old (by (with_reducible repeat (first | apply Kd.R_alloc | apply Kd.R_drewN | apply Kd.R_drew)); exact (Kd.R_mono (Kd.R_far (p := ⟨gb660, 1, none⟩) (Kd.R_far (p := ⟨gb660, 0, none⟩) (Kd.R_types HO646.out BK660.out (by decide)) (fun _ hk => hk.2) (.slice Ao28 t653.length co28)) (fun _ hk => hk.2) (.slice Ao31 t656.length co31)) (fun _ h_ => h_.1))) hb) (Kd.R_base ho0)) (Kd.R_base ho1)) (fun _ h_ => h_.1)); have n1_ := Aside0.mk (Kd.R_mono (Kd.R_told (Kd.R_told (Kd.R_old (by (with_reducible repeat (first | apply Kd.R_alloc | apply Kd.R_drewN | apply Kd.R_drew)); exact (Kd.R_mono (Kd.R_far (p := ⟨gb660, 1, none⟩) (Kd.R_far (p := ⟨gb660, 0, none⟩) (Kd.R_types HO649.out BK660.out (by decide)) (fun _ hk => hk.2) (.slice Ao28 t653.length co28)) (fun _ hk => hk.2) (.slice Ao31 t656.length co31)) (fun _ h_ => h_.1))) hb) (Kd.R_base ho0)) (Kd.R_base ho1)) (fun _ h_ => h_.1)); have n2_ := Aside0.mk (Kd.R_mono (Kd.R_told (Kd.R_told (Kd.R_old (by (with_reducible repeat (first | apply Kd.R_alloc | apply Kd.R_drewN | apply Kd.R_drew)); exact (Kd.R_mono (Kd.R_far (p := ⟨gb660, 1, none⟩) (Kd.R_far (p := ⟨gb660, 0, none⟩) (Kd.R_types HO652.out BK660.out (by decide)) (fun _ hk => hk.2) (.slice Ao28 t653.length co28)) (fun _ hk => hk.2) (.slice Ao31 t656.length co31)) (fun _ h_ => h_.1))) hb) (Kd.R_base ho0)) (Kd.R_base ho1)) (fun _ h_ => h_.1)); have n3_ := Aside0.mk (Kd.R_mono (Kd.R_told (Kd.R_told (Kd.R_old (by (with_reducible repeat (first | apply Kd.R_alloc | apply Kd.R_drewN | apply Kd.R_drew)); exact (Kd.R_mono (Kd.R_far (p := ⟨gb660, 1, none⟩) (Kd.R_far (p := ⟨gb660, 0, none⟩) (Kd.R_types HO655.out BK660.out (by decide)) (fun _ hk => hk.2) (.slice Ao28 t653.length co28)) (fun _ hk => hk.2) (.slice Ao31 t656.length co31)) (fun _ h_ => h_.1))) hb) (Kd.R_base ho0)) (Kd.R_base ho1)) (fun _ h_ => h_.1)); have n4_ := Aside0.mk (Kd.R_mono (Kd.R_told (Kd.R_told (Kd.R_old (by (with_reducible repeat (first | apply Kd.R_alloc | apply Kd.R_drewN | apply Kd.R_drew)); exact (Kd.R_mono (Kd.R_far (p := ⟨gb660, 1, none⟩) (Kd.R_far (p := ⟨gb660, 0, none⟩) (Kd.R_types HO658.out BK660.out (by decide)) (fun _ hk => hk.2) (.slice Ao28 t653.length co28)) (fun _ hk => hk.2) (.slice Ao31 t656.length co31)) (fun _ h_ => h_.1))) hb) (Kd.R_base ho0)) (Kd.R_base ho1)) (fun _ h_ => h_.1)); have n5_ := Aside0.mk (Kd.R_lower (Kd.R_new' (Kd.R_new' (Kd.R_new' (Kd.R_new' (Kd.R_new' ho0 (Kd.R_lt (by (with_reducible repeat (first | apply Kd.R_alloc | apply Kd.R_drewN | apply Kd.R_drew)); exact (Kd.R_mono (Kd.R_far (p := ⟨gb660, 1, none⟩) (Kd.R_far (p := ⟨gb660, 0, none⟩) (Kd.R_types HO646.out BK660.out (by decide)) (fun _ hk => hk.2) (.slice Ao28 t653.length co28)) (fun _ hk => hk.2) (.slice Ao31 t656.length co31)) (fun _ h_ => h_.1))))) (Kd.R_lt (by (with_reducible repeat (first | apply Kd.R_alloc | apply Kd.R_drewN | apply Kd.R_drew)); exact (Kd.R_mono (Kd.R_far (p := ⟨gb660, 1, none⟩) (Kd.R_far (p := ⟨gb660, 0, none⟩) (Kd.R_types HO649.out BK660.out (by decide)) (fun _ hk => hk.2) (.slice Ao28 t653.length co28)) (fun _ hk => hk.2) (.slice Ao31 t656.length co31)) (fun _ h_ => h_.1))))) (Kd.R_lt (by (with_reducible repeat (first | apply Kd.R_alloc | apply Kd.R_drewN | apply Kd.R_drew)); exact (Kd.R_mono (Kd.R_far (p := ⟨gb660, 1, none⟩) (Kd.R_far (p := ⟨gb660, 0, none⟩) (Kd.R_types HO652.out BK660.out (by decide)) (fun _ hk => hk.2) (.slice Ao28 t653.length co28)) (fun _ hk => hk.2) (.slice Ao31 t656.length co31)) (fun _ h_ => h_.1))))) (Kd.R_lt (by (with_reducible repeat (first | apply Kd.R_alloc | apply Kd.R_drewN | apply Kd.R_drew)); exact (Kd.R_mono (Kd.R_far (p := ⟨gb660, 1, none⟩) (Kd.R_far (p := ⟨gb660, 0, none⟩) (Kd.R_types HO655.out BK660.out (by decide)) (fun _ hk => hk.2) (.slice Ao28 t653.length co28)) (fun _ hk => hk.2) (.slice Ao31 t656.length co31)) (fun _ h_ => h_.1))))) (Kd.R_lt (by (with_reducible repeat (first | apply Kd.R_alloc | apply Kd.R_drewN | apply Kd.R_drew)); exact (Kd.R_mono (Kd.R_far (p := ⟨gb660, 1, none⟩) (Kd.R_far (p := ⟨gb660, 0, none⟩) (Kd.R_types HO658.out BK660.out (by decide)) (fun _ hk => hk.2) (.slice Ao28 t653.length co28)) (fun _ hk => hk.2) (.slice Ao31 t656.length co31)) (fun _ h_ => h_.1))))) (below_size (by repeat (first | (with_reducible first | exact HB.out | apply below_alloc | apply pw_below_drewN | apply below_drew1 | refine below_set ?_ GE642.out | refine below_set ?_ GE660.out) | exact HB.out)))); have n6_ := Aside0.mk (Kd.R_lower (Kd.R_new' (Kd.R_new' (Kd.R_new' (Kd.R_new' (Kd.R_new' ho1 (Kd.R_lt (by (with_reducible repeat (first | apply Kd.R_alloc | apply Kd.R_drewN | apply Kd.R_drew)); exact (Kd.R_mono (Kd.R_far (p := ⟨gb660, 1, none⟩) (Kd.R_far (p := ⟨gb660, 0, none⟩) (Kd.R_types HO646.out BK660.out (by decide)) (fun _ hk => hk.2) (.slice Ao28 t653.length co28)) (fun _ hk => hk.2) (.slice Ao31 t656.length co31)) (fun _ h_ => h_.1))))) (Kd.R_lt (by (with_reducible repeat (first | apply Kd.R_alloc | apply Kd.R_drewN | apply Kd.R_drew)); exact (Kd.R_mono (Kd.R_far (p := ⟨gb660, 1, none⟩) (Kd.R_far (p := ⟨gb660, 0, none⟩) (Kd.R_types HO649.out BK660.out (by decide)) (fun _ hk => hk.2) (.slice Ao28 t653.length co28)) (fun _ hk => hk.2) (.slice Ao31 t656.length co31)) (fun _ h_ => h_.1))))) (Kd.R_lt (by (with_reducible repeat (first | apply Kd.R_alloc | apply Kd.R_drewN | apply Kd.R_drew)); exact (Kd.R_mono (Kd.R_far (p := ⟨gb660, 1, none⟩) (Kd.R_far (p := ⟨gb660, 0, none⟩) (Kd.R_types HO652.out BK660.out (by decide)) (fun _ hk => hk.2) (.slice Ao28 t653.length co28)) (fun _ hk => hk.2) (.slice Ao31 t656.length co31)) (fun _ h_ => h_.1))))) (Kd.R_lt (by (with_reducible repeat (first | apply Kd.R_alloc | apply Kd.R_drewN | apply Kd.R_drew)); exact (Kd.R_mono (Kd.R_far (p := ⟨gb660, 1, none⟩) (Kd.R_far (p := ⟨gb660, 0, none⟩) (Kd.R_types HO655.out BK660.out (by decide)) (fun _ hk => hk.2) (.slice Ao28 t653.length co28)) (fun _ hk => hk.2) (.slice Ao31 t656.length co31)) (fun _ h_ => h_.1))))) (Kd.R_lt (by (with_reducible repeat (first | apply Kd.R_alloc | apply Kd.R_drewN | apply Kd.R_drew)); exact (Kd.R_mono (Kd.R_far (p := ⟨gb660, 1, none⟩) (Kd.R_far (p := ⟨gb660, 0, none⟩) (Kd.R_types HO658.out BK660.out (by decide)) (fun _ hk => hk.2) (.slice Ao28 t653.length co28)) (fun _ hk => hk.2) (.slice Ao31 t656.length co31)) (fun _ h_ => h_.1))))) (below_size (by repeat (first | (with_reducible first | exact HB.out | apply below_alloc | apply pw_below_drewN | apply below_drew1 | refine below_set ?_ GE642.out | refine below_set ?_ GE660.out) | exact HB.out)))); have n7_ := Aside0.mk (blk_below (g := gb642) (o := .cells #[.slice A0_0 l0_0.length c0_0, .slice A0_1 l0_1.length c0_1] 24 (0, 0)) (by (with_reducible repeat (first | refine blk_drewN ?_ _ | refine blk_drew ?_ | refine blk_alloc ?_ _)); refine blk_far ?_ NB642_660.out _; (with_reducible repeat (first | refine blk_drewN ?_ _ | refine blk_drew ?_ | refine blk_alloc ?_ _)); refine blk_far ?_ NB642_660.out _; (with_reducible repeat (first | refine blk_drewN ?_ _ | refine blk_drew ?_ | refine blk_alloc ?_ _)); exact BK642.out) hb); have n8_ := Aside0.mk (blk_below (g := gb660) (o := .cells #[.slice Ao28 t653.length co28, .slice Ao31 t656.length co31] 27 (0, 0)) (by (with_reducible repeat (first | refine blk_drewN ?_ _ | refine blk_drew ?_ | refine blk_alloc ?_ _)); refine blk_put (cs := #[.slice Ao28 t653.length co28, .slice none 0 0]) ?_ 1 _ rfl; (with_reducible repeat (first | refine blk_drewN ?_ _ | refine blk_drew ?_ | refine blk_alloc ?_ _)); refine blk_put (cs := #[.slice none 0 0, .slice none 0 0]) ?_ 0 _ rfl; (with_reducible repeat (first | refine blk_drewN ?_ _ | refine blk_drew ?_ | refine blk_alloc ?_ _)); exact BK660.out) hb); have n9_ := Aside0.mk (below_step (by repeat (first | (with_reducible first | exact HB.out | apply below_alloc | apply pw_below_drewN | apply below_drew1 | refine below_set ?_ GE642.out | refine below_set ?_ GE660.out) | exact HB.out)) hb); clear HO646; clear HO649; clear HO652; clear HO655; clear HO658; clear BK642; clear BK660; clear HB; have HO646 := n0_; have HO649 := n1_; have HO652 := n2_; have HO655 := n3_; have HO658 := n4_; have HO663 := n5_; have HO666 := n6_; have BK642 := n7_; have BK660 := n8_; have HB := n9_; clear n0_ n1_ n2_ n3_ n4_ n5_ n6_ n7_ n8_ n9_; (try clear hb); (try clear hb2); (try clear hk); (try clear hi); (try clear ho0); (try clear ho1)) | ((with_reducible refine gate_dst (N := 8) rfl ?_); refine box_event ?hg (N := 8) ?hd (cs := #[.slice none 0 0, .slice none 0 0]) (t := 27) ?hr ?_; (case hd => rfl); (case hg => rfl); (case hr => first | (go_simp; done) | (go_simp; rfl)); intro gb667 hg w34 hbox hb; have n0_ := Aside0.mk (Kd.R_below (by (with_reducible repeat (first | apply Kd.R_alloc | apply Kd.R_drewN | apply Kd.R_drew)); exact HO646.out) hb); have n1_ := Aside0.mk (Kd.R_below (by (with_reducible repeat (first | apply Kd.R_alloc | apply Kd.R_drewN | apply Kd.R_drew)); exact HO649.out) hb); have n2_ := Aside0.mk (Kd.R_below (by (with_reducible repeat (first | apply Kd.R_alloc | apply Kd.R_drewN | apply Kd.R_drew)); exact HO652.out) hb); have n3_ := Aside0.mk (Kd.R_below (by (with_reducible repeat (first | apply Kd.R_alloc | apply Kd.R_drewN | apply Kd.R_drew)); exact HO655.out) hb); have n4_ := Aside0.mk (Kd.R_below (by (with_reducible repeat (first | apply Kd.R_alloc | apply Kd.R_drewN | apply Kd.R_drew)); exact HO658.out) hb); have n5_ := Aside0.mk (Kd.R_below (by (with_reducible repeat (first | apply Kd.R_alloc | apply Kd.R_drewN | apply Kd.R_drew)); exact HO663.out) hb); have n6_ := Aside0.mk (Kd.R_below (by (with_reducible repeat (first | apply Kd.R_alloc | apply Kd.R_drewN | apply Kd.R_drew)); exact HO666.out) hb); have n7_ := Aside0.mk (blk_below (g := gb642) (o := .cells #[.slice A0_0 l0_0.length c0_0, .slice A0_1 l0_1.length c0_1] 24 (0, 0)) (by (with_reducible repeat (first | refine blk_drewN ?_ _ | refine blk_drew ?_ | refine blk_alloc ?_ _)); exact BK642.out) hb); have n8_ := Aside0.mk (blk_below (g := gb660) (o := .cells #[.slice Ao28 t653.length co28, .slice Ao31 t656.length co31] 27 (0, 0)) (by (with_reducible repeat (first | refine blk_drewN ?_ _ | refine blk_drew ?_ | refine blk_alloc ?_ _)); exact BK660.out) hb); have n9_ := Aside0.mk (below_step (by repeat (first | (with_reducible first | exact HB.out | apply below_alloc | apply pw_below_drewN | apply below_drew1 | refine below_set ?_ GE642.out | refine below_set ?_ GE660.out) | exact HB.out)) hb); have n10_ := Aside0.mk (hbox); have n11_ := Aside0.mk ((by rw [hg]; exact (below_size (by repeat (first | (with_reducible first | exact HB.out | apply below_alloc | apply pw_below_drewN | apply below_drew1 | refine below_set ?_ GE642.out | refine below_set ?_ GE660.out) | exact HB.out))) : w.heap.size ≤ gb667)); have n12_ := Aside0.mk ((by rw [hg]; exact (below_size (by repeat (first | (with_reducible first | exact HB.out | apply below_alloc | apply pw_below_drewN | apply below_drew1 | refine below_set ?_ GE642.out | refine below_set ?_ GE660.out) | exact HB.out))) : w.heap.size ≤ gb667)); have n13_ := Aside0.mk ((by rw [hg]; exact Nat.ne_of_lt (blk_lt (g := gb642) (o := .cells #[.slice A0_0 l0_0.length c0_0, .slice A0_1 l0_1.length c0_1] 24 (0, 0)) (by (with_reducible repeat (first | refine blk_drewN ?_ _ | refine blk_drew ?_ | refine blk_alloc ?_ _)); exact BK642.out)) : gb642 ≠ gb667)); have n14_ := Aside0.mk ((by rw [hg]; exact Nat.ne_of_gt (blk_lt (g := gb642) (o := .cells #[.slice A0_0 l0_0.length c0_0, .slice A0_1 l0_1.length c0_1] 24 (0, 0)) (by (with_reducible repeat (first | refine blk_drewN ?_ _ | refine blk_drew ?_ | refine blk_alloc ?_ _)); exact BK642.out)) : gb667 ≠ gb642)); have n15_ := Aside0.mk ((by rw [hg]; exact Nat.ne_of_lt (blk_lt (g := gb660) (o := .cells #[.slice Ao28 t653.length co28, .slice Ao31 t656.length co31] 27 (0, 0)) (by (with_reducible repeat (first | refine blk_drewN ?_ _ | refine blk_drew ?_ | refine blk_alloc ?_ _)); exact BK660.out)) : gb660 ≠ gb667)); have n16_ := Aside0.mk ((by rw [hg]; exact Nat.ne_of_gt (blk_lt (g := gb660) (o := .cells #[.slice Ao28 t653.length co28, .slice Ao31 t656.length co31] 27 (0, 0)) (by (with_reducible repeat (first | refine blk_drewN ?_ _ | refine blk_drew ?_ | refine blk_alloc ?_ _)); exact BK660.out)) : gb667 ≠ gb660)); clear HO646; clear HO649; clear HO652; clear HO655; clear HO658; clear HO663; clear HO666; clear BK642; clear BK660; clear HB; have HO646 := n0_; have HO649 := n1_; have HO652 := n2_; have HO655 := n3_; have HO658 := n4_; have HO663 := n5_; have HO666 := n6_; have BK642 := n7_; have BK660 := n8_; have HB := n9_; have BK667 := n10_; have GW667 := n11_; have GE667 := n12_; have NB642_667 := n13_; have NB667_642 := n14_; have NB660_667 := n15_; have NB667_660 := n16_; clear n0_ n1_ n2_ n3_ n4_ n5_ n6_ n7_ n8_ n9_ n10_ n11_ n12_ n13_ n14_ n15_ n16_; clear hb hbox hg; obtain ⟨Ao35, co35, eo35⟩ := Kd.R_slice HO663.out; subst eo35; have hnb36 := NB667_642.out; have hnc36 := NB642_667.out; have hnb37 := NB667_660.out; have hnc37 := NB660_667.out; have hcz38_0 : w34.cell? ⟨gb667, 0, none⟩ = some (.slice none 0 0) := (blk_cell BK667.out 0).trans rfl; have hcz38_1 : w34.cell? ⟨gb667, 1, none⟩ = some (.slice none 0 0) := (blk_cell BK667.out 1).trans rfl; have hfz38_0 := blk_frozen BK667.out 0; have hfz38_1 := blk_frozen BK667.out 1; obtain ⟨Ao39, co39, eo39⟩ := Kd.R_slice HO666.out; subst eo39) | ((with_reducible refine gate_callee (f := 21) rfl ?_); refine goesL_ (some 36) rfl rfl Try.func21 (by kernel_rfl) rfl #[.slice A1 l1.length c1] rfl (by (try simp only [List.map_toArray, List.map_cons, List.map_nil]); first | done | rfl | (simp only [List.length_drop, List.length_take]; rfl)) ?_; (with_reducible refine (laws_toIntS.calls k _ _ l1 t668 _ ?side1 ?side2 A14.out).mono ?_); (case side1 => exact Kd.C_below HR1.out (by repeat (first | (with_reducible first | exact HB.out | apply below_alloc | apply pw_below_drewN | apply below_drew1 | refine below_set ?_ GE642.out | refine below_set ?_ GE660.out | refine below_set ?_ GE667.out) | exact HB.out))); (case side2 => exact HC1.out); rintro e w40 ⟨v669, rfl, ho0, hb⟩; refine ⟨_, rfl, ?_⟩; have n0_ := Aside0.mk (Kd.R_elder' (by (with_reducible repeat (first | apply Kd.R_alloc | apply Kd.R_drewN | apply Kd.R_drew)); exact (Kd.R_mono (Kd.R_far (p := ⟨gb667, 1, none⟩) (Kd.R_far (p := ⟨gb667, 0, none⟩) (Kd.R_types HO646.out BK667.out (by decide)) (fun _ hk => hk.2) (.slice Ao35 t661.length co35)) (fun _ hk => hk.2) (.slice Ao39 t664.length co39)) (fun _ h_ => h_.1))) (Kd.R_base ho0) hb); have n1_ := Aside0.mk (Kd.R_elder' (by (with_reducible repeat (first | apply Kd.R_alloc | apply Kd.R_drewN | apply Kd.R_drew)); exact (Kd.R_mono (Kd.R_far (p := ⟨gb667, 1, none⟩) (Kd.R_far (p := ⟨gb667, 0, none⟩) (Kd.R_types HO649.out BK667.out (by decide)) (fun _ hk => hk.2) (.slice Ao35 t661.length co35)) (fun _ hk => hk.2) (.slice Ao39 t664.length co39)) (fun _ h_ => h_.1))) (Kd.R_base ho0) hb); have n2_ := Aside0.mk (Kd.R_elder' (by (with_reducible repeat (first | apply Kd.R_alloc | apply Kd.R_drewN | apply Kd.R_drew)); exact (Kd.R_mono (Kd.R_far (p := ⟨gb667, 1, none⟩) (Kd.R_far (p := ⟨gb667, 0, none⟩) (Kd.R_types HO652.out BK667.out (by decide)) (fun _ hk => hk.2) (.slice Ao35 t661.length co35)) (fun _ hk => hk.2) (.slice Ao39 t664.length co39)) (fun _ h_ => h_.1))) (Kd.R_base ho0) hb); have n3_ := Aside0.mk (Kd.R_elder' (by (with_reducible repeat (first | apply Kd.R_alloc | apply Kd.R_drewN | apply Kd.R_drew)); exact (Kd.R_mono (Kd.R_far (p := ⟨gb667, 1, none⟩) (Kd.R_far (p := ⟨gb667, 0, none⟩) (Kd.R_types HO655.out BK667.out (by decide)) (fun _ hk => hk.2) (.slice Ao35 t661.length co35)) (fun _ hk => hk.2) (.slice Ao39 t664.length co39)) (fun _ h_ => h_.1))) (Kd.R_base ho0) hb); have n4_ := Aside0.mk (Kd.R_elder' (by (with_reducible repeat (first | apply Kd.R_alloc | apply Kd.R_drewN | apply Kd.R_drew)); exact (Kd.R_mono (Kd.R_far (p := ⟨gb667, 1, none⟩) (Kd.R_far (p := ⟨gb667, 0, none⟩) (Kd.R_types HO658.out BK667.out (by decide)) (fun _ hk => hk.2) (.slice Ao35 t661.length co35)) (fun _ hk => hk.2) (.slice Ao39 t664.length co39)) (fun _ h_ => h_.1))) (Kd.R_base ho0) hb); have n5_ := Aside0.mk (Kd.R_elder' (by (with_reducible repeat (first | apply Kd.R_alloc | apply Kd.R_drewN | apply Kd.R_drew)); exact (Kd.R_mono (Kd.R_far (p := ⟨gb667, 1, none⟩) (Kd.R_far (p := ⟨gb667, 0, none⟩) (Kd.R_types HO663.out BK667.out (by decide)) (fun _ hk => hk.2) (.slice Ao35 t661.length co35)) (fun _ hk => hk.2) (.slice Ao39 t664.length co39)) (fun _ h_ => h_.1))) (Kd.R_base ho0) hb); have n6_ := Aside0.mk (Kd.R_elder' (by (with_reducible repeat (first | apply Kd.R_alloc | apply Kd.R_drewN | apply Kd.R_drew)); exact (Kd.R_mono (Kd.R_far (p := ⟨gb667, 1, none⟩) (Kd.R_far (p := ⟨gb667, 0, none⟩) (Kd.R_types HO666.out BK667.out (by decide)) (fun _ hk => hk.2) (.slice Ao35 t661.length co35)) (fun _ hk => hk.2) (.slice Ao39 t664.length co39)) (fun _ h_ => h_.1))) (Kd.R_base ho0) hb); have n7_ := Aside0.mk (Kd.R_lower (Kd.R_new' (Kd.R_new' (Kd.R_new' (Kd.R_new' (Kd.R_new' (Kd.R_new' (Kd.R_new' ho0 (Kd.R_lt (by (with_reducible repeat (first | apply Kd.R_alloc | apply Kd.R_drewN | apply Kd.R_drew)); exact (Kd.R_mono (Kd.R_far (p := ⟨gb667, 1, none⟩) (Kd.R_far (p := ⟨gb667, 0, none⟩) (Kd.R_types HO646.out BK667.out (by decide)) (fun _ hk => hk.2) (.slice Ao35 t661.length co35)) (fun _ hk => hk.2) (.slice Ao39 t664.length co39)) (fun _ h_ => h_.1))))) (Kd.R_lt (by (with_reducible repeat (first | apply Kd.R_alloc | apply Kd.R_drewN | apply Kd.R_drew)); exact (Kd.R_mono (Kd.R_far (p := ⟨gb667, 1, none⟩) (Kd.R_far (p := ⟨gb667, 0, none⟩) (Kd.R_types HO649.out BK667.out (by decide)) (fun _ hk => hk.2) (.slice Ao35 t661.length co35)) (fun _ hk => hk.2) (.slice Ao39 t664.length co39)) (fun _ h_ => h_.1))))) (Kd.R_lt (by (with_reducible repeat (first | apply Kd.R_alloc | apply Kd.R_drewN | apply Kd.R_drew)); exact (Kd.R_mono (Kd.R_far (p := ⟨gb667, 1, none⟩) (Kd.R_far (p := ⟨gb667, 0, none⟩) (Kd.R_types HO652.out BK667.out (by decide)) (fun _ hk => hk.2) (.slice Ao35 t661.length co35)) (fun _ hk => hk.2) (.slice Ao39 t664.length co39)) (fun _ h_ => h_.1))))) (Kd.R_lt (by (with_reducible repeat (first | apply Kd.R_alloc | apply Kd.R_drewN | apply Kd.R_drew)); exact (Kd.R_mono (Kd.R_far (p := ⟨gb667, 1, none⟩) (Kd.R_far (p := ⟨gb667, 0, none⟩) (Kd.R_types HO655.out BK667.out (by decide)) (fun _ hk => hk.2) (.slice Ao35 t661.length co35)) (fun _ hk => hk.2) (.slice Ao39 t664.length co39)) (fun _ h_ => h_.1))))) (Kd.R_lt (by (with_reducible repeat (first | apply Kd.R_alloc | apply Kd.R_drewN | apply Kd.R_drew)); exact (Kd.R_mono (Kd.R_far (p := ⟨gb667, 1, none⟩) (Kd.R_far (p := ⟨gb667, 0, none⟩) (Kd.R_types HO658.out BK667.out (by decide)) (fun _ hk => hk.2) (.slice Ao35 t661.length co35)) (fun _ hk => hk.2) (.slice Ao39 t664.length co39)) (fun _ h_ => h_.1))))) (Kd.R_lt (by (with_reducible repeat (first | apply Kd.R_alloc | apply Kd.R_drewN | apply Kd.R_drew)); exact (Kd.R_mono (Kd.R_far (p := ⟨gb667, 1, none⟩) (Kd.R_far (p := ⟨gb667, 0, none⟩) (Kd.R_types HO663.out BK667.out (by decide)) (fun _ hk => hk.2) (.slice Ao35 t661.length co35)) (fun _ hk => hk.2) (.slice Ao39 t664.length co39)) (fun _ h_ => h_.1))))) (Kd.R_lt (by (with_reducible repeat (first | apply Kd.R_alloc | apply Kd.R_drewN | apply Kd.R_drew)); exact (Kd.R_mono (Kd.R_far (p := ⟨gb667, 1, none⟩) (Kd.R_far (p := ⟨gb667, 0, none⟩) (Kd.R_types HO666.out BK667.out (by decide)) (fun _ hk => hk.2) (.slice Ao35 t661.length co35)) (fun _ hk => hk.2) (.slice Ao39 t664.length co39)) (fun _ h_ => h_.1))))) (below_size (by repeat (first | (with_reducible first | exact HB.out | apply below_alloc | apply pw_below_drewN | apply below_drew1 | refine below_set ?_ GE642.out | refine below_set ?_ GE660.out | refine below_set ?_ GE667.out) | exact HB.out)))); have n8_ := Aside0.mk (blk_below (g := gb642) (o := .cells #[.slice A0_0 l0_0.length c0_0, .slice A0_1 l0_1.length c0_1] 24 (0, 0)) (by (with_reducible repeat (first | refine blk_drewN ?_ _ | refine blk_drew ?_ | refine blk_alloc ?_ _)); refine blk_far ?_ NB642_667.out _; (with_reducible repeat (first | refine blk_drewN ?_ _ | refine blk_drew ?_ | refine blk_alloc ?_ _)); refine blk_far ?_ NB642_667.out _; (with_reducible repeat (first | refine blk_drewN ?_ _ | refine blk_drew ?_ | refine blk_alloc ?_ _)); exact BK642.out) hb); have n9_ := Aside0.mk (blk_below (g := gb660) (o := .cells #[.slice Ao28 t653.length co28, .slice Ao31 t656.length co31] 27 (0, 0)) (by (with_reducible repeat (first | refine blk_drewN ?_ _ | refine blk_drew ?_ | refine blk_alloc ?_ _)); refine blk_far ?_ NB660_667.out _; (with_reducible repeat (first | refine blk_drewN ?_ _ | refine blk_drew ?_ | refine blk_alloc ?_ _)); refine blk_far ?_ NB660_667.out _; (with_reducible repeat (first | refine blk_drewN ?_ _ | refine blk_drew ?_ | refine blk_alloc ?_ _)); exact BK660.out) hb); have n10_ := Aside0.mk (blk_below (g := gb667) (o := .cells #[.slice Ao35 t661.length co35, .slice Ao39 t664.length co39] 27 (0, 0)) (by (with_reducible repeat (first | refine blk_drewN ?_ _ | refine blk_drew ?_ | refine blk_alloc ?_ _)); refine blk_put (cs := #[.slice Ao35 t661.length co35, .slice none 0 0]) ?_ 1 _ rfl; (with_reducible repeat (first | refine blk_drewN ?_ _ | refine blk_drew ?_ | refine blk_alloc ?_ _)); refine blk_put (cs := #[.slice none 0 0, .slice none 0 0]) ?_ 0 _ rfl; (with_reducible repeat (first | refine blk_drewN ?_ _ | refine blk_drew ?_ | refine blk_alloc ?_ _)); exact BK667.out) hb); have n11_ := Aside0.mk (below_step (by repeat (first | (with_reducible first | exact HB.out | apply below_alloc | apply pw_below_drewN | apply below_drew1 | refine below_set ?_ GE642.out | refine below_set ?_ GE660.out | refine below_set ?_ GE667.out) | exact HB.out)) hb); clear HO646; clear HO649; clear HO652; clear HO655; clear HO658; clear HO663; clear HO666; clear BK642; clear BK660; clear BK667; clear HB; have HO646 := n0_; have HO649 := n1_; have HO652 := n2_; have HO655 := n3_; have HO658 := n4_; have HO663 := n5_; have HO666 := n6_; have HO670 := n7_; have BK642 := n8_; have BK660 := n9_; have BK667 := n10_; have HB := n11_; clear n0_ n1_ n2_ n3_ n4_ n5_ n6_ n7_ n8_ n9_ n10_ n11_; (try clear hb); (try clear hb2); (try clear hk); (try clear hi); (try clear ho0); have hcz41_0 : w40.cell? ⟨gb667, 0, none⟩ = some (.slice Ao35 t661.length co35) := (blk_cell BK667.out 0).trans rfl; have hcz41_1 : w40.cell? ⟨gb667, 1, none⟩ = some (.slice Ao39 t664.length co39) := (blk_cell BK667.out 1).trans rfl; have hfz41_0 := blk_frozen BK667.out 0; have hfz41_1 := blk_frozen BK667.out 1; obtain ⟨Ao42, co42, eo42⟩ := Kd.R_slice HO670.out; subst eo42) | ((with_reducible refine gate_callee (f := 45) rfl ?_); refine goesL_ (some 40) rfl rfl Try.func45 (by kernel_rfl) rfl #[.agg #[.slice Ao35 t661.length co35, .slice Ao39 t664.length co39], .slice Ao42 t668.length co42] rfl (by (try simp only [List.map_toArray, List.map_cons, List.map_nil]); first | done | rfl | (simp only [List.length_drop, List.length_take]; rfl)) ?_; (with_reducible refine (impl_RenameSurface.calls k _ _ t661 _ _ t664 _ _ t668 t671 t674 t677 _ ?side1 ?side2 ?side3 ?side4 ?side5 ?side6 A15.out).mono ?_); (case side1 => repeat (first | exact (Kd.R_reads' HO663.out).2.2 | (with_reducible refine Kd.C_alloc ?_ _) | (with_reducible refine Kd.C_drewN ?_ _) | (with_reducible refine Kd.C_drew ?_))); (case side2 => exact (Kd.R_reads' HO663.out).2.1); (case side3 => repeat (first | exact (Kd.R_reads' HO666.out).2.2 | (with_reducible refine Kd.C_alloc ?_ _) | (with_reducible refine Kd.C_drewN ?_ _) | (with_reducible refine Kd.C_drew ?_))); (case side4 => exact (Kd.R_reads' HO666.out).2.1); (case side5 => repeat (first | exact (Kd.R_reads' HO670.out).2.2 | (with_reducible refine Kd.C_alloc ?_ _) | (with_reducible refine Kd.C_drewN ?_ _) | (with_reducible refine Kd.C_drew ?_))); (case side6 => exact (Kd.R_reads' HO670.out).2.1); rintro e w43 ⟨v672, v675, rfl, ho0, ho1, hb⟩; refine ⟨_, rfl, ?_⟩; have n0_ := Aside0.mk (Kd.R_mono (Kd.R_told (Kd.R_told (Kd.R_old (by (with_reducible repeat (first | apply Kd.R_alloc | apply Kd.R_drewN | apply Kd.R_drew)); exact HO646.out) hb) (Kd.R_base ho0)) (Kd.R_base ho1)) (fun _ h_ => h_.1)); have n1_ := Aside0.mk (Kd.R_mono (Kd.R_told (Kd.R_told (Kd.R_old (by (with_reducible repeat (first | apply Kd.R_alloc | apply Kd.R_drewN | apply Kd.R_drew)); exact HO649.out) hb) (Kd.R_base ho0)) (Kd.R_base ho1)) (fun _ h_ => h_.1)); have n2_ := Aside0.mk (Kd.R_mono (Kd.R_told (Kd.R_told (Kd.R_old (by (with_reducible repeat (first | apply Kd.R_alloc | apply Kd.R_drewN | apply Kd.R_drew)); exact HO652.out) hb) (Kd.R_base ho0)) (Kd.R_base ho1)) (fun _ h_ => h_.1)); have n3_ := Aside0.mk (Kd.R_mono (Kd.R_told (Kd.R_told (Kd.R_old (by (with_reducible repeat (first | apply Kd.R_alloc | apply Kd.R_drewN | apply Kd.R_drew)); exact HO655.out) hb) (Kd.R_base ho0)) (Kd.R_base ho1)) (fun _ h_ => h_.1)); have n4_ := Aside0.mk (Kd.R_mono (Kd.R_told (Kd.R_told (Kd.R_old (by (with_reducible repeat (first | apply Kd.R_alloc | apply Kd.R_drewN | apply Kd.R_drew)); exact HO658.out) hb) (Kd.R_base ho0)) (Kd.R_base ho1)) (fun _ h_ => h_.1)); have n5_ := Aside0.mk (Kd.R_mono (Kd.R_told (Kd.R_told (Kd.R_old (by (with_reducible repeat (first | apply Kd.R_alloc | apply Kd.R_drewN | apply Kd.R_drew)); exact HO663.out) hb) (Kd.R_base ho0)) (Kd.R_base ho1)) (fun _ h_ => h_.1)); have n6_ := Aside0.mk (Kd.R_mono (Kd.R_told (Kd.R_told (Kd.R_old (by (with_reducible repeat (first | apply Kd.R_alloc | apply Kd.R_drewN | apply Kd.R_drew)); exact HO666.out) hb) (Kd.R_base ho0)) (Kd.R_base ho1)) (fun _ h_ => h_.1)); have n7_ := Aside0.mk (Kd.R_mono (Kd.R_told (Kd.R_told (Kd.R_old (by (with_reducible repeat (first | apply Kd.R_alloc | apply Kd.R_drewN | apply Kd.R_drew)); exact HO670.out) hb) (Kd.R_base ho0)) (Kd.R_base ho1)) (fun _ h_ => h_.1)); have n8_ := Aside0.mk (Kd.R_lower (Kd.R_new' (Kd.R_new' (Kd.R_new' (Kd.R_new' (Kd.R_new' (Kd.R_new' (Kd.R_new' (Kd.R_new' ho0 (Kd.R_lt (by (with_reducible repeat (first | apply Kd.R_alloc | apply Kd.R_drewN | apply Kd.R_drew)); exact HO646.out))) (Kd.R_lt (by (with_reducible repeat (first | apply Kd.R_alloc | apply Kd.R_drewN | apply Kd.R_drew)); exact HO649.out))) (Kd.R_lt (by (with_reducible repeat (first | apply Kd.R_alloc | apply Kd.R_drewN | apply Kd.R_drew)); exact HO652.out))) (Kd.R_lt (by (with_reducible repeat (first | apply Kd.R_alloc | apply Kd.R_drewN | apply Kd.R_drew)); exact HO655.out))) (Kd.R_lt (by (with_reducible repeat (first | apply Kd.R_alloc | apply Kd.R_drewN | apply Kd.R_drew)); exact HO658.out))) (Kd.R_lt (by (with_reducible repeat (first | apply Kd.R_alloc | apply Kd.R_drewN | apply Kd.R_drew)); exact HO663.out))) (Kd.R_lt (by (with_reducible repeat (first | apply Kd.R_alloc | apply Kd.R_drewN | apply Kd.R_drew)); exact HO666.out))) (Kd.R_lt (by (with_reducible repeat (first | apply Kd.R_alloc | apply Kd.R_drewN | apply Kd.R_drew)); exact HO670.out))) (below_size (by repeat (first | (with_reducible first | exact HB.out | apply below_alloc | apply pw_below_drewN | apply below_drew1 | refine below_set ?_ GE642.out | refine below_set ?_ GE660.out | refine below_set ?_ GE667.out) | exact HB.out)))); have n9_ := Aside0.mk (Kd.R_lower (Kd.R_new' (Kd.R_new' (Kd.R_new' (Kd.R_new' (Kd.R_new' (Kd.R_new' (Kd.R_new' (Kd.R_new' ho1 (Kd.R_lt (by (with_reducible repeat (first | apply Kd.R_alloc | apply Kd.R_drewN | apply Kd.R_drew)); exact HO646.out))) (Kd.R_lt (by (with_reducible repeat (first | apply Kd.R_alloc | apply Kd.R_drewN | apply Kd.R_drew)); exact HO649.out))) (Kd.R_lt (by (with_reducible repeat (first | apply Kd.R_alloc | apply Kd.R_drewN | apply Kd.R_drew)); exact HO652.out))) (Kd.R_lt (by (with_reducible repeat (first | apply Kd.R_alloc | apply Kd.R_drewN | apply Kd.R_drew)); exact HO655.out))) (Kd.R_lt (by (with_reducible repeat (first | apply Kd.R_alloc | apply Kd.R_drewN | apply Kd.R_drew)); exact HO658.out))) (Kd.R_lt (by (with_reducible repeat (first | apply Kd.R_alloc | apply Kd.R_drewN | apply Kd.R_drew)); exact HO663.out))) (Kd.R_lt (by (with_reducible repeat (first | apply Kd.R_alloc | apply Kd.R_drewN | apply Kd.R_drew)); exact HO666.out))) (Kd.R_lt (by (with_reducible repeat (first | apply Kd.R_alloc | apply Kd.R_drewN | apply Kd.R_drew)); exact HO670.out))) (below_size (by repeat (first | (with_reducible first | exact HB.out | apply below_alloc | apply pw_below_drewN | apply below_drew1 | refine below_set ?_ GE642.out | refine below_set ?_ GE660.out | refine below_set ?_ GE667.out) | exact HB.out)))); have n10_ := Aside0.mk (blk_below (g := gb642) (o := .cells #[.slice A0_0 l0_0.length c0_0, .slice A0_1 l0_1.length c0_1] 24 (0, 0)) (by (with_reducible repeat (first | refine blk_drewN ?_ _ | refine blk_drew ?_ | refine blk_alloc ?_ _)); exact BK642.out) hb); have n11_ := Aside0.mk (blk_below (g := gb660) (o := .cells #[.slice Ao28 t653.length co28, .slice Ao31 t656.length co31] 27 (0, 0)) (by (with_reducible repeat (first | refine blk_drewN ?_ _ | refine blk_drew ?_ | refine blk_alloc ?_ _)); exact BK660.out) hb); have n12_ := Aside0.mk (blk_below (g := gb667) (o := .cells #[.slice Ao35 t661.length co35, .slice Ao39 t664.length co39] 27 (0, 0)) (by (with_reducible repeat (first | refine blk_drewN ?_ _ | refine blk_drew ?_ | refine blk_alloc ?_ _)); exact BK667.out) hb); have n13_ := Aside0.mk (below_step (by repeat (first | (with_reducible first | exact HB.out | apply below_alloc | apply pw_below_drewN | apply below_drew1 | refine below_set ?_ GE642.out | refine below_set ?_ GE660.out | refine below_set ?_ GE667.out) | exact HB.out)) hb); clear HO646; clear HO649; clear HO652; clear HO655; clear HO658; clear HO663; clear HO666; clear HO670; clear BK642; clear BK660; clear BK667; clear HB; have HO646 := n0_; have HO649 := n1_; have HO652 := n2_; have HO655 := n3_; have HO658 := n4_; have HO663 := n5_; have HO666 := n6_; have HO670 := n7_; have HO673 := n8_; have HO676 := n9_; have BK642 := n10_; have BK660 := n11_; have BK667 := n12_; have HB := n13_; clear n0_ n1_ n2_ n3_ n4_ n5_ n6_ n7_ n8_ n9_ n10_ n11_ n12_ n13_; (try clear hb); (try clear hb2); (try clear hk); (try clear hi); (try clear ho0); (try clear ho1)) | ((with_reducible refine gate_dst (N := 10) rfl ?_); refine box_event ?hg (N := 10) ?hd (cs := #[.slice none 0 0, .slice none 0 0]) (t := 27) ?hr ?_; (case hd => rfl); (case hg => rfl); (case hr => first | (go_simp; done) | (go_simp; rfl)); intro gb678 hg w44 hbox hb; have n0_ := Aside0.mk (Kd.R_below (by (with_reducible repeat (first | apply Kd.R_alloc | apply Kd.R_drewN | apply Kd.R_drew)); exact HO646.out) hb); have n1_ := Aside0.mk (Kd.R_below (by (with_reducible repeat (first | apply Kd.R_alloc | apply Kd.R_drewN | apply Kd.R_drew)); exact HO649.out) hb); have n2_ := Aside0.mk (Kd.R_below (by (with_reducible repeat (first | apply Kd.R_alloc | apply Kd.R_drewN | apply Kd.R_drew)); exact HO652.out) hb); have n3_ := Aside0.mk (Kd.R_below (by (with_reducible repeat (first | apply Kd.R_alloc | apply Kd.R_drewN | apply Kd.R_drew)); exact HO655.out) hb); have n4_ := Aside0.mk (Kd.R_below (by (with_reducible repeat (first | apply Kd.R_alloc | apply Kd.R_drewN | apply Kd.R_drew)); exact HO658.out) hb); have n5_ := Aside0.mk (Kd.R_below (by (with_reducible repeat (first | apply Kd.R_alloc | apply Kd.R_drewN | apply Kd.R_drew)); exact HO663.out) hb); have n6_ := Aside0.mk (Kd.R_below (by (with_reducible repeat (first | apply Kd.R_alloc | apply Kd.R_drewN | apply Kd.R_drew)); exact HO666.out) hb); have n7_ := Aside0.mk (Kd.R_below (by (with_reducible repeat (first | apply Kd.R_alloc | apply Kd.R_drewN | apply Kd.R_drew)); exact HO670.out) hb); have n8_ := Aside0.mk (Kd.R_below (by (with_reducible repeat (first | apply Kd.R_alloc | apply Kd.R_drewN | apply Kd.R_drew)); exact HO673.out) hb); have n9_ := Aside0.mk (Kd.R_below (by (with_reducible repeat (first | apply Kd.R_alloc | apply Kd.R_drewN | apply Kd.R_drew)); exact HO676.out) hb); have n10_ := Aside0.mk (blk_below (g := gb642) (o := .cells #[.slice A0_0 l0_0.length c0_0, .slice A0_1 l0_1.length c0_1] 24 (0, 0)) (by (with_reducible repeat (first | refine blk_drewN ?_ _ | refine blk_drew ?_ | refine blk_alloc ?_ _)); exact BK642.out) hb); have n11_ := Aside0.mk (blk_below (g := gb660) (o := .cells #[.slice Ao28 t653.length co28, .slice Ao31 t656.length co31] 27 (0, 0)) (by (with_reducible repeat (first | refine blk_drewN ?_ _ | refine blk_drew ?_ | refine blk_alloc ?_ _)); exact BK660.out) hb); have n12_ := Aside0.mk (blk_below (g := gb667) (o := .cells #[.slice Ao35 t661.length co35, .slice Ao39 t664.length co39] 27 (0, 0)) (by (with_reducible repeat (first | refine blk_drewN ?_ _ | refine blk_drew ?_ | refine blk_alloc ?_ _)); exact BK667.out) hb); have n13_ := Aside0.mk (below_step (by repeat (first | (with_reducible first | exact HB.out | apply below_alloc | apply pw_below_drewN | apply below_drew1 | refine below_set ?_ GE642.out | refine below_set ?_ GE660.out | refine below_set ?_ GE667.out) | exact HB.out)) hb); have n14_ := Aside0.mk (hbox); have n15_ := Aside0.mk ((by rw [hg]; exact (below_size (by repeat (first | (with_reducible first | exact HB.out | apply below_alloc | apply pw_below_drewN | apply below_drew1 | refine below_set ?_ GE642.out | refine below_set ?_ GE660.out | refine below_set ?_ GE667.out) | exact HB.out))) : w.heap.size ≤ gb678)); have n16_ := Aside0.mk ((by rw [hg]; exact (below_size (by repeat (first | (with_reducible first | exact HB.out | apply below_alloc | apply pw_below_drewN | apply below_drew1 | refine below_set ?_ GE642.out | refine below_set ?_ GE660.out | refine below_set ?_ GE667.out) | exact HB.out))) : w.heap.size ≤ gb678)); have n17_ := Aside0.mk ((by rw [hg]; exact Nat.ne_of_lt (blk_lt (g := gb642) (o := .cells #[.slice A0_0 l0_0.length c0_0, .slice A0_1 l0_1.length c0_1] 24 (0, 0)) (by (with_reducible repeat (first | refine blk_drewN ?_ _ | refine blk_drew ?_ | refine blk_alloc ?_ _)); exact BK642.out)) : gb642 ≠ gb678)); have n18_ := Aside0.mk ((by rw [hg]; exact Nat.ne_of_gt (blk_lt (g := gb642) (o := .cells #[.slice A0_0 l0_0.length c0_0, .slice A0_1 l0_1.length c0_1] 24 (0, 0)) (by (with_reducible repeat (first | refine blk_drewN ?_ _ | refine blk_drew ?_ | refine blk_alloc ?_ _)); exact BK642.out)) : gb678 ≠ gb642)); have n19_ := Aside0.mk ((by rw [hg]; exact Nat.ne_of_lt (blk_lt (g := gb660) (o := .cells #[.slice Ao28 t653.length co28, .slice Ao31 t656.length co31] 27 (0, 0)) (by (with_reducible repeat (first | refine blk_drewN ?_ _ | refine blk_drew ?_ | refine blk_alloc ?_ _)); exact BK660.out)) : gb660 ≠ gb678)); have n20_ := Aside0.mk ((by rw [hg]; exact Nat.ne_of_gt (blk_lt (g := gb660) (o := .cells #[.slice Ao28 t653.length co28, .slice Ao31 t656.length co31] 27 (0, 0)) (by (with_reducible repeat (first | refine blk_drewN ?_ _ | refine blk_drew ?_ | refine blk_alloc ?_ _)); exact BK660.out)) : gb678 ≠ gb660)); have n21_ := Aside0.mk ((by rw [hg]; exact Nat.ne_of_lt (blk_lt (g := gb667) (o := .cells #[.slice Ao35 t661.length co35, .slice Ao39 t664.length co39] 27 (0, 0)) (by (with_reducible repeat (first | refine blk_drewN ?_ _ | refine blk_drew ?_ | refine blk_alloc ?_ _)); exact BK667.out)) : gb667 ≠ gb678)); have n22_ := Aside0.mk ((by rw [hg]; exact Nat.ne_of_gt (blk_lt (g := gb667) (o := .cells #[.slice Ao35 t661.length co35, .slice Ao39 t664.length co39] 27 (0, 0)) (by (with_reducible repeat (first | refine blk_drewN ?_ _ | refine blk_drew ?_ | refine blk_alloc ?_ _)); exact BK667.out)) : gb678 ≠ gb667)); clear HO646; clear HO649; clear HO652; clear HO655; clear HO658; clear HO663; clear HO666; clear HO670; clear HO673; clear HO676; clear BK642; clear BK660; clear BK667; clear HB; have HO646 := n0_; have HO649 := n1_; have HO652 := n2_; have HO655 := n3_; have HO658 := n4_; have HO663 := n5_; have HO666 := n6_; have HO670 := n7_; have HO673 := n8_; have HO676 := n9_; have BK642 := n10_; have BK660 := n11_; have BK667 := n12_; have HB := n13_; have BK678 := n14_; have GW678 := n15_; have GE678 := n16_; have NB642_678 := n17_; have NB678_642 := n18_; have NB660_678 := n19_; have NB678_660 := n20_; have NB667_678 := n21_; have NB678_667 := n22_; clear n0_ n1_ n2_ n3_ n4_ n5_ n6_ n7_ n8_ n9_ n10_ n11_ n12_ n13_ n14_ n15_ n16_ n17_ n18_ n19_ n20_ n21_ n22_; clear hb hbox hg; obtain ⟨Ao45, co45, eo45⟩ := Kd.R_slice HO673.out; subst eo45; have hnb46 := NB678_642.out; have hnc46 := NB642_678.out; have hnb47 := NB678_660.out; have hnc47 := NB660_678.out; have hnb48 := NB678_667.out; have hnc48 := NB667_678.out; have hcz49_0 : w44.cell? ⟨gb678, 0, none⟩ = some (.slice none 0 0) := (blk_cell BK678.out 0).trans rfl; have hcz49_1 : w44.cell? ⟨gb678, 1, none⟩ = some (.slice none 0 0) := (blk_cell BK678.out 1).trans rfl; have hfz49_0 := blk_frozen BK678.out 0; have hfz49_1 := blk_frozen BK678.out 1; obtain ⟨Ao50, co50, eo50⟩ := Kd.R_slice HO676.out; subst eo50))
      (try simp only [Act.put, List.setIfInBounds_toArray, List.set_cons_zero, List.set_cons_succ])
      go_cut [51] (fun v51 wc => ∃ (kq : Nat) (x51_15 : Bool), v51 = .bool x51_15 ∧ Aside0 (laws_FnExactRenameSurface.j0 kq l1 t659 t668 t677 x51_15 l0_0 l0_1 t653 t656 t661 t664 t671 t674 = some true) ∧ Aside0 (kq ≤ k) ∧ Aside0 (Kd.R (Kd.int .i64) 3 wc w.heap.size (fun k_ => some k_ ≠ ((.slice Ao28 t653.length co28) : Value).ownBlock ∧ some k_ ≠ ((.slice Ao31 t656.length co31) : Value).ownBlock ∧ some k_ ≠ ((.slice Ao35 t661.length co35) : Value).ownBlock ∧ some k_ ≠ ((.slice Ao39 t664.length co39) : Value).ownBlock ∧ some k_ ≠ ((.slice Ao45 t671.length co45) : Value).ownBlock ∧ some k_ ≠ ((.slice Ao50 t674.length co50) : Value).ownBlock) (.slice Ao42 t668.length co42) t668) ∧ Aside0 (Kd.R (Kd.int .i64) 3 wc w.heap.size (fun k_ => some k_ ≠ ((.slice Ao42 t668.length co42) : Value).ownBlock ∧ some k_ ≠ ((.slice Ao31 t656.length co31) : Value).ownBlock ∧ some k_ ≠ ((.slice Ao35 t661.length co35) : Value).ownBlock ∧ some k_ ≠ ((.slice Ao39 t664.length co39) : Value).ownBlock ∧ some k_ ≠ ((.slice Ao45 t671.length co45) : Value).ownBlock ∧ some k_ ≠ ((.slice Ao50 t674.length co50) : Value).ownBlock) (.slice Ao28 t653.length co28) t653) ∧ Aside0 (Kd.R (Kd.int .i64) 3 wc w.heap.size (fun k_ => some k_ ≠ ((.slice Ao42 t668.length co42) : Value).ownBlock ∧ some k_ ≠ ((.slice Ao28 t653.length co28) : Value).ownBlock ∧ some k_ ≠ ((.slice Ao35 t661.length co35) : Value).ownBlock ∧ some k_ ≠ ((.slice Ao39 t664.length co39) : Value).ownBlock ∧ some k_ ≠ ((.slice Ao45 t671.length co45) : Value).ownBlock ∧ some k_ ≠ ((.slice Ao50 t674.length co50) : Value).ownBlock) (.slice Ao31 t656.length co31) t656) ∧ Aside0 (Kd.R (Kd.int .i64) 3 wc w.heap.size (fun k_ => some k_ ≠ ((.slice Ao42 t668.length co42) : Value).ownBlock ∧ some k_ ≠ ((.slice Ao28 t653.length co28) : Value).ownBlock ∧ some k_ ≠ ((.slice Ao31 t656.length co31) : Value).ownBlock ∧ some k_ ≠ ((.slice Ao39 t664.length co39) : Value).ownBlock ∧ some k_ ≠ ((.slice Ao45 t671.length co45) : Value).ownBlock ∧ some k_ ≠ ((.slice Ao50 t674.length co50) : Value).ownBlock) (.slice Ao35 t661.length co35) t661) ∧ Aside0 (Kd.R (Kd.int .i64) 3 wc w.heap.size (fun k_ => some k_ ≠ ((.slice Ao42 t668.length co42) : Value).ownBlock ∧ some k_ ≠ ((.slice Ao28 t653.length co28) : Value).ownBlock ∧ some k_ ≠ ((.slice Ao31 t656.length co31) : Value).ownBlock ∧ some k_ ≠ ((.slice Ao35 t661.length co35) : Value).ownBlock ∧ some k_ ≠ ((.slice Ao45 t671.length co45) : Value).ownBlock ∧ some k_ ≠ ((.slice Ao50 t674.length co50) : Value).ownBlock) (.slice Ao39 t664.length co39) t664) ∧ Aside0 (Kd.R (Kd.int .i64) 3 wc w.heap.size (fun k_ => some k_ ≠ ((.slice Ao42 t668.length co42) : Value).ownBlock ∧ some k_ ≠ ((.slice Ao28 t653.length co28) : Value).ownBlock ∧ some k_ ≠ ((.slice Ao31 t656.length co31) : Value).ownBlock ∧ some k_ ≠ ((.slice Ao35 t661.length co35) : Value).ownBlock ∧ some k_ ≠ ((.slice Ao39 t664.length co39) : Value).ownBlock ∧ some k_ ≠ ((.slice Ao50 t674.length co50) : Value).ownBlock) (.slice Ao45 t671.length co45) t671) ∧ Aside0 (Kd.R (Kd.int .i64) 3 wc w.heap.size (fun k_ => some k_ ≠ ((.slice Ao42 t668.length co42) : Value).ownBlock ∧ some k_ ≠ ((.slice Ao28 t653.length co28) : Value).ownBlock ∧ some k_ ≠ ((.slice Ao31 t656.length co31) : Value).ownBlock ∧ some k_ ≠ ((.slice Ao35 t661.length co35) : Value).ownBlock ∧ some k_ ≠ ((.slice Ao39 t664.length co39) : Value).ownBlock ∧ some k_ ≠ ((.slice Ao45 t671.length co45) : Value).ownBlock) (.slice Ao50 t674.length co50) t674) ∧ Aside0 (wc.heap[gb642]? = some (.cells #[(.slice A0_0 l0_0.length c0_0), (.slice A0_1 l0_1.length c0_1)] 24 (0, 0))) ∧ Aside0 (wc.heap[gb660]? = some (.cells #[(.slice Ao28 t653.length co28), (.slice Ao31 t656.length co31)] 27 (0, 0))) ∧ Aside0 (wc.heap[gb667]? = some (.cells #[(.slice Ao35 t661.length co35), (.slice Ao39 t664.length co39)] 27 (0, 0))) ∧ Aside0 (wc.heap[gb678]? = some (.cells #[(.slice Ao45 t671.length co45), (.slice Ao50 t674.length co50)] 27 (0, 0))) ∧ Aside0 (Below w.heap.size w wc))
      case first =>
        have H := HC16.out
        clear HC16
        replace H := Option.bind_eq_some_iff.mp H
        obtain ⟨t679, A510, H⟩ := H
        replace H : (if t679 = true then (laws_FnExactRenameSurface.j0 k l1 t659 t668 t677 (t677 != t659) l0_0 l0_1 t653 t656 t661 t664 t671 t674) else (laws_FnExactRenameSurface.j0 k l1 t659 t668 t677 true l0_0 l0_1 t653 t656 t661 t664 t671 t674)) = some true := H
        have A51 := Aside0.mk A510
        clear A510
        by_cases c52 : t679 = true
        · subst c52
          have H1 : (laws_FnExactRenameSurface.j0 k l1 t659 t668 t677 (t677 != t659) l0_0 l0_1 t653 t656 t661 t664 t671 t674) = some true := by rw [if_pos rfl] at H; exact H
          clear H
          have H := H1
          clear H1
          have H' := Aside0.mk H
          clear H
          have hnb53 := NB678_642.out
          have hnc53 := NB642_678.out
          have hnb54 := NB678_660.out
          have hnc54 := NB660_678.out
          have hnb55 := NB678_667.out
          have hnc55 := NB667_678.out
          have hcz56_0 : w44.cell? ⟨gb678, 0, none⟩ = some (.slice none 0 0) := (blk_cell BK678.out 0).trans rfl
          have hcz56_1 : w44.cell? ⟨gb678, 1, none⟩ = some (.slice none 0 0) := (blk_cell BK678.out 1).trans rfl
          have hfz56_0 := blk_frozen BK678.out 0
          have hfz56_1 := blk_frozen BK678.out 1
          have hnb57 := NB660_642.out
          have hnc57 := NB642_660.out
          have hnb58 := NB660_667.out
          have hnc58 := NB667_660.out
          have hcz59_0 : w44.cell? ⟨gb660, 0, none⟩ = some (.slice Ao28 t653.length co28) := (blk_cell BK660.out 0).trans rfl
          have hcz59_1 : w44.cell? ⟨gb660, 1, none⟩ = some (.slice Ao31 t656.length co31) := (blk_cell BK660.out 1).trans rfl
          have hfz59_0 := blk_frozen BK660.out 0
          have hfz59_1 := blk_frozen BK660.out 1
          go_wp2_with (first | ((with_reducible refine gate_callee (f := 19) rfl ?_); refine goesL_ (some 45) rfl rfl Try.func19 (by kernel_rfl) rfl #[.agg #[.slice Ao45 t671.length co45, .slice Ao50 t674.length co50], .agg #[.slice Ao28 t653.length co28, .slice Ao31 t656.length co31]] rfl (by (try simp only [List.map_toArray, List.map_cons, List.map_nil]); first | done | rfl | (simp only [List.length_drop, List.length_take]; rfl)) ?_; (with_reducible refine (laws_eqSurface.calls k _ _ t671 _ _ t674 _ _ t653 _ _ t656 true _ ?side1 ?side2 ?side3 ?side4 ?side5 ?side6 ?side7 ?side8 A51.out).mono ?_); (case side1 => refine (Kd.R_reads' (e := 3) (base := w.heap.size) (ok := fun k_ => ((((((((some k_ ≠ (.slice Ao50 t674.length co50 : Value).ownBlock ∧ some k_ ≠ (.slice Ao23 t644.length co23 : Value).ownBlock) ∧ some k_ ≠ (.slice Ao24 t647.length co24 : Value).ownBlock) ∧ some k_ ≠ (.slice Ao25 t650.length co25 : Value).ownBlock) ∧ some k_ ≠ (.slice Ao28 t653.length co28 : Value).ownBlock) ∧ some k_ ≠ (.slice Ao31 t656.length co31 : Value).ownBlock) ∧ some k_ ≠ (.slice Ao35 t661.length co35 : Value).ownBlock) ∧ some k_ ≠ (.slice Ao39 t664.length co39 : Value).ownBlock) ∧ some k_ ≠ (.slice Ao42 t668.length co42 : Value).ownBlock)) (n := t671.length) (c := co45) ?_).2.2; exact (by (with_reducible repeat (first | apply Kd.R_alloc | apply Kd.R_drewN | apply Kd.R_drew)); exact (Kd.R_mono (Kd.R_far (p := ⟨gb678, 1, none⟩) (Kd.R_far (p := ⟨gb678, 0, none⟩) (Kd.R_types HO673.out BK678.out (by decide)) (fun _ hk => hk.2) (.slice Ao45 t671.length co45)) (fun _ hk => hk.2) (.slice Ao50 t674.length co50)) (fun _ h_ => h_.1)))); (case side2 => exact (Kd.R_reads' HO673.out).2.1); (case side3 => refine (Kd.R_reads' (e := 3) (base := w.heap.size) (ok := fun k_ => ((((((((some k_ ≠ (.slice Ao45 t671.length co45 : Value).ownBlock ∧ some k_ ≠ (.slice Ao23 t644.length co23 : Value).ownBlock) ∧ some k_ ≠ (.slice Ao24 t647.length co24 : Value).ownBlock) ∧ some k_ ≠ (.slice Ao25 t650.length co25 : Value).ownBlock) ∧ some k_ ≠ (.slice Ao28 t653.length co28 : Value).ownBlock) ∧ some k_ ≠ (.slice Ao31 t656.length co31 : Value).ownBlock) ∧ some k_ ≠ (.slice Ao35 t661.length co35 : Value).ownBlock) ∧ some k_ ≠ (.slice Ao39 t664.length co39 : Value).ownBlock) ∧ some k_ ≠ (.slice Ao42 t668.length co42 : Value).ownBlock)) (n := t674.length) (c := co50) ?_).2.2; exact (by (with_reducible repeat (first | apply Kd.R_alloc | apply Kd.R_drewN | apply Kd.R_drew)); exact (Kd.R_mono (Kd.R_far (p := ⟨gb678, 1, none⟩) (Kd.R_far (p := ⟨gb678, 0, none⟩) (Kd.R_types HO676.out BK678.out (by decide)) (fun _ hk => hk.2) (.slice Ao45 t671.length co45)) (fun _ hk => hk.2) (.slice Ao50 t674.length co50)) (fun _ h_ => h_.1)))); (case side4 => exact (Kd.R_reads' HO676.out).2.1); (case side5 => refine (Kd.R_reads' (e := 3) (base := w.heap.size) (ok := fun k_ => ((((((((some k_ ≠ (.slice Ao31 t656.length co31 : Value).ownBlock ∧ some k_ ≠ (.slice Ao23 t644.length co23 : Value).ownBlock) ∧ some k_ ≠ (.slice Ao24 t647.length co24 : Value).ownBlock) ∧ some k_ ≠ (.slice Ao25 t650.length co25 : Value).ownBlock) ∧ some k_ ≠ (.slice Ao35 t661.length co35 : Value).ownBlock) ∧ some k_ ≠ (.slice Ao39 t664.length co39 : Value).ownBlock) ∧ some k_ ≠ (.slice Ao42 t668.length co42 : Value).ownBlock) ∧ some k_ ≠ (.slice Ao45 t671.length co45 : Value).ownBlock) ∧ some k_ ≠ (.slice Ao50 t674.length co50 : Value).ownBlock)) (n := t653.length) (c := co28) ?_).2.2; exact (by (with_reducible repeat (first | apply Kd.R_alloc | apply Kd.R_drewN | apply Kd.R_drew)); exact (Kd.R_mono (Kd.R_far (p := ⟨gb678, 1, none⟩) (Kd.R_far (p := ⟨gb678, 0, none⟩) (Kd.R_types HO655.out BK678.out (by decide)) (fun _ hk => hk.2) (.slice Ao45 t671.length co45)) (fun _ hk => hk.2) (.slice Ao50 t674.length co50)) (fun _ h_ => h_.1)))); (case side6 => exact (Kd.R_reads' HO655.out).2.1); (case side7 => refine (Kd.R_reads' (e := 3) (base := w.heap.size) (ok := fun k_ => ((((((((some k_ ≠ (.slice Ao28 t653.length co28 : Value).ownBlock ∧ some k_ ≠ (.slice Ao23 t644.length co23 : Value).ownBlock) ∧ some k_ ≠ (.slice Ao24 t647.length co24 : Value).ownBlock) ∧ some k_ ≠ (.slice Ao25 t650.length co25 : Value).ownBlock) ∧ some k_ ≠ (.slice Ao35 t661.length co35 : Value).ownBlock) ∧ some k_ ≠ (.slice Ao39 t664.length co39 : Value).ownBlock) ∧ some k_ ≠ (.slice Ao42 t668.length co42 : Value).ownBlock) ∧ some k_ ≠ (.slice Ao45 t671.length co45 : Value).ownBlock) ∧ some k_ ≠ (.slice Ao50 t674.length co50 : Value).ownBlock)) (n := t656.length) (c := co31) ?_).2.2; exact (by (with_reducible repeat (first | apply Kd.R_alloc | apply Kd.R_drewN | apply Kd.R_drew)); exact (Kd.R_mono (Kd.R_far (p := ⟨gb678, 1, none⟩) (Kd.R_far (p := ⟨gb678, 0, none⟩) (Kd.R_types HO658.out BK678.out (by decide)) (fun _ hk => hk.2) (.slice Ao45 t671.length co45)) (fun _ hk => hk.2) (.slice Ao50 t674.length co50)) (fun _ h_ => h_.1)))); (case side8 => exact (Kd.R_reads' HO658.out).2.1); rintro e w60 ⟨rfl, hb⟩; refine ⟨_, rfl, ?_⟩; have n0_ := Aside0.mk (Kd.R_below (by (with_reducible repeat (first | apply Kd.R_alloc | apply Kd.R_drewN | apply Kd.R_drew)); exact (Kd.R_mono (Kd.R_far (p := ⟨gb678, 1, none⟩) (Kd.R_far (p := ⟨gb678, 0, none⟩) (Kd.R_types HO646.out BK678.out (by decide)) (fun _ hk => hk.2) (.slice Ao45 t671.length co45)) (fun _ hk => hk.2) (.slice Ao50 t674.length co50)) (fun _ h_ => h_.1))) hb); have n1_ := Aside0.mk (Kd.R_below (by (with_reducible repeat (first | apply Kd.R_alloc | apply Kd.R_drewN | apply Kd.R_drew)); exact (Kd.R_mono (Kd.R_far (p := ⟨gb678, 1, none⟩) (Kd.R_far (p := ⟨gb678, 0, none⟩) (Kd.R_types HO649.out BK678.out (by decide)) (fun _ hk => hk.2) (.slice Ao45 t671.length co45)) (fun _ hk => hk.2) (.slice Ao50 t674.length co50)) (fun _ h_ => h_.1))) hb); have n2_ := Aside0.mk (Kd.R_below (by (with_reducible repeat (first | apply Kd.R_alloc | apply Kd.R_drewN | apply Kd.R_drew)); exact (Kd.R_mono (Kd.R_far (p := ⟨gb678, 1, none⟩) (Kd.R_far (p := ⟨gb678, 0, none⟩) (Kd.R_types HO652.out BK678.out (by decide)) (fun _ hk => hk.2) (.slice Ao45 t671.length co45)) (fun _ hk => hk.2) (.slice Ao50 t674.length co50)) (fun _ h_ => h_.1))) hb); have n3_ := Aside0.mk (Kd.R_below (by (with_reducible repeat (first | apply Kd.R_alloc | apply Kd.R_drewN | apply Kd.R_drew)); exact (Kd.R_mono (Kd.R_far (p := ⟨gb678, 1, none⟩) (Kd.R_far (p := ⟨gb678, 0, none⟩) (Kd.R_types HO655.out BK678.out (by decide)) (fun _ hk => hk.2) (.slice Ao45 t671.length co45)) (fun _ hk => hk.2) (.slice Ao50 t674.length co50)) (fun _ h_ => h_.1))) hb); have n4_ := Aside0.mk (Kd.R_below (by (with_reducible repeat (first | apply Kd.R_alloc | apply Kd.R_drewN | apply Kd.R_drew)); exact (Kd.R_mono (Kd.R_far (p := ⟨gb678, 1, none⟩) (Kd.R_far (p := ⟨gb678, 0, none⟩) (Kd.R_types HO658.out BK678.out (by decide)) (fun _ hk => hk.2) (.slice Ao45 t671.length co45)) (fun _ hk => hk.2) (.slice Ao50 t674.length co50)) (fun _ h_ => h_.1))) hb); have n5_ := Aside0.mk (Kd.R_below (by (with_reducible repeat (first | apply Kd.R_alloc | apply Kd.R_drewN | apply Kd.R_drew)); exact (Kd.R_mono (Kd.R_far (p := ⟨gb678, 1, none⟩) (Kd.R_far (p := ⟨gb678, 0, none⟩) (Kd.R_types HO663.out BK678.out (by decide)) (fun _ hk => hk.2) (.slice Ao45 t671.length co45)) (fun _ hk => hk.2) (.slice Ao50 t674.length co50)) (fun _ h_ => h_.1))) hb); have n6_ := Aside0.mk (Kd.R_below (by (with_reducible repeat (first | apply Kd.R_alloc | apply Kd.R_drewN | apply Kd.R_drew)); exact (Kd.R_mono (Kd.R_far (p := ⟨gb678, 1, none⟩) (Kd.R_far (p := ⟨gb678, 0, none⟩) (Kd.R_types HO666.out BK678.out (by decide)) (fun _ hk => hk.2) (.slice Ao45 t671.length co45)) (fun _ hk => hk.2) (.slice Ao50 t674.length co50)) (fun _ h_ => h_.1))) hb); have n7_ := Aside0.mk (Kd.R_below (by (with_reducible repeat (first | apply Kd.R_alloc | apply Kd.R_drewN | apply Kd.R_drew)); exact (Kd.R_mono (Kd.R_far (p := ⟨gb678, 1, none⟩) (Kd.R_far (p := ⟨gb678, 0, none⟩) (Kd.R_types HO670.out BK678.out (by decide)) (fun _ hk => hk.2) (.slice Ao45 t671.length co45)) (fun _ hk => hk.2) (.slice Ao50 t674.length co50)) (fun _ h_ => h_.1))) hb); have n8_ := Aside0.mk (Kd.R_below (by (with_reducible repeat (first | apply Kd.R_alloc | apply Kd.R_drewN | apply Kd.R_drew)); exact (Kd.R_mono (Kd.R_far (p := ⟨gb678, 1, none⟩) (Kd.R_far (p := ⟨gb678, 0, none⟩) (Kd.R_types HO673.out BK678.out (by decide)) (fun _ hk => hk.2) (.slice Ao45 t671.length co45)) (fun _ hk => hk.2) (.slice Ao50 t674.length co50)) (fun _ h_ => h_.1))) hb); have n9_ := Aside0.mk (Kd.R_below (by (with_reducible repeat (first | apply Kd.R_alloc | apply Kd.R_drewN | apply Kd.R_drew)); exact (Kd.R_mono (Kd.R_far (p := ⟨gb678, 1, none⟩) (Kd.R_far (p := ⟨gb678, 0, none⟩) (Kd.R_types HO676.out BK678.out (by decide)) (fun _ hk => hk.2) (.slice Ao45 t671.length co45)) (fun _ hk => hk.2) (.slice Ao50 t674.length co50)) (fun _ h_ => h_.1))) hb); have n10_ := Aside0.mk (blk_below (g := gb642) (o := .cells #[.slice A0_0 l0_0.length c0_0, .slice A0_1 l0_1.length c0_1] 24 (0, 0)) (by (with_reducible repeat (first | refine blk_drewN ?_ _ | refine blk_drew ?_ | refine blk_alloc ?_ _)); refine blk_far ?_ NB642_678.out _; (with_reducible repeat (first | refine blk_drewN ?_ _ | refine blk_drew ?_ | refine blk_alloc ?_ _)); refine blk_far ?_ NB642_678.out _; (with_reducible repeat (first | refine blk_drewN ?_ _ | refine blk_drew ?_ | refine blk_alloc ?_ _)); exact BK642.out) hb); have n11_ := Aside0.mk (blk_below (g := gb660) (o := .cells #[.slice Ao28 t653.length co28, .slice Ao31 t656.length co31] 27 (0, 0)) (by (with_reducible repeat (first | refine blk_drewN ?_ _ | refine blk_drew ?_ | refine blk_alloc ?_ _)); refine blk_far ?_ NB660_678.out _; (with_reducible repeat (first | refine blk_drewN ?_ _ | refine blk_drew ?_ | refine blk_alloc ?_ _)); refine blk_far ?_ NB660_678.out _; (with_reducible repeat (first | refine blk_drewN ?_ _ | refine blk_drew ?_ | refine blk_alloc ?_ _)); exact BK660.out) hb); have n12_ := Aside0.mk (blk_below (g := gb667) (o := .cells #[.slice Ao35 t661.length co35, .slice Ao39 t664.length co39] 27 (0, 0)) (by (with_reducible repeat (first | refine blk_drewN ?_ _ | refine blk_drew ?_ | refine blk_alloc ?_ _)); refine blk_far ?_ NB667_678.out _; (with_reducible repeat (first | refine blk_drewN ?_ _ | refine blk_drew ?_ | refine blk_alloc ?_ _)); refine blk_far ?_ NB667_678.out _; (with_reducible repeat (first | refine blk_drewN ?_ _ | refine blk_drew ?_ | refine blk_alloc ?_ _)); exact BK667.out) hb); have n13_ := Aside0.mk (blk_below (g := gb678) (o := .cells #[.slice Ao45 t671.length co45, .slice Ao50 t674.length co50] 27 (0, 0)) (by (with_reducible repeat (first | refine blk_drewN ?_ _ | refine blk_drew ?_ | refine blk_alloc ?_ _)); refine blk_put (cs := #[.slice Ao45 t671.length co45, .slice none 0 0]) ?_ 1 _ rfl; (with_reducible repeat (first | refine blk_drewN ?_ _ | refine blk_drew ?_ | refine blk_alloc ?_ _)); refine blk_put (cs := #[.slice none 0 0, .slice none 0 0]) ?_ 0 _ rfl; (with_reducible repeat (first | refine blk_drewN ?_ _ | refine blk_drew ?_ | refine blk_alloc ?_ _)); exact BK678.out) hb); have n14_ := Aside0.mk (below_step (by repeat (first | (with_reducible first | exact HB.out | apply below_alloc | apply pw_below_drewN | apply below_drew1 | refine below_set ?_ GE642.out | refine below_set ?_ GE660.out | refine below_set ?_ GE667.out | refine below_set ?_ GE678.out) | exact HB.out)) hb); clear HO646; clear HO649; clear HO652; clear HO655; clear HO658; clear HO663; clear HO666; clear HO670; clear HO673; clear HO676; clear BK642; clear BK660; clear BK667; clear BK678; clear HB; have HO646 := n0_; have HO649 := n1_; have HO652 := n2_; have HO655 := n3_; have HO658 := n4_; have HO663 := n5_; have HO666 := n6_; have HO670 := n7_; have HO673 := n8_; have HO676 := n9_; have BK642 := n10_; have BK660 := n11_; have BK667 := n12_; have BK678 := n13_; have HB := n14_; clear n0_ n1_ n2_ n3_ n4_ n5_ n6_ n7_ n8_ n9_ n10_ n11_ n12_ n13_ n14_; (try clear hb); (try clear hb2); (try clear hk); (try clear hi)))
          go_meet
          case rel => exact ⟨_, ((t677 != t659)), (by first | rfl | (simp; done) | (simp [*]; done)), H', ⟨by first | omega | exact Nat.le_refl _⟩, ⟨Kd.R_mono HO670.out (fun _ hk => ⟨hk.1.1.1.1.1.2, ⟨hk.1.1.1.1.2, ⟨hk.1.1.1.2, ⟨hk.1.1.2, ⟨hk.1.2, hk.2⟩⟩⟩⟩⟩)⟩, ⟨Kd.R_mono HO655.out (fun _ hk => ⟨hk.1.1.2, ⟨hk.1.1.1.1.1.1.1.1, ⟨hk.1.1.1.1.2, ⟨hk.1.1.1.2, ⟨hk.1.2, hk.2⟩⟩⟩⟩⟩)⟩, ⟨Kd.R_mono HO658.out (fun _ hk => ⟨hk.1.1.2, ⟨hk.1.1.1.1.1.1.1.1, ⟨hk.1.1.1.1.2, ⟨hk.1.1.1.2, ⟨hk.1.2, hk.2⟩⟩⟩⟩⟩)⟩, ⟨Kd.R_mono HO663.out (fun _ hk => ⟨hk.1.1.2, ⟨hk.1.1.1.1.2, ⟨hk.1.1.1.2, ⟨hk.1.1.1.1.1.1.1.1, ⟨hk.1.2, hk.2⟩⟩⟩⟩⟩)⟩, ⟨Kd.R_mono HO666.out (fun _ hk => ⟨hk.1.1.2, ⟨hk.1.1.1.1.2, ⟨hk.1.1.1.2, ⟨hk.1.1.1.1.1.1.1.1, ⟨hk.1.2, hk.2⟩⟩⟩⟩⟩)⟩, ⟨Kd.R_mono HO673.out (fun _ hk => ⟨hk.2, ⟨hk.1.1.1.1.2, ⟨hk.1.1.1.2, ⟨hk.1.1.2, ⟨hk.1.2, hk.1.1.1.1.1.1.1.1⟩⟩⟩⟩⟩)⟩, ⟨Kd.R_mono HO676.out (fun _ hk => ⟨hk.2, ⟨hk.1.1.1.1.2, ⟨hk.1.1.1.2, ⟨hk.1.1.2, ⟨hk.1.2, hk.1.1.1.1.1.1.1.1⟩⟩⟩⟩⟩)⟩, ⟨BK642.out⟩, ⟨BK660.out⟩, ⟨BK667.out⟩, ⟨BK678.out⟩, ⟨HB.out⟩⟩
        · replace c52 := Bool.eq_false_iff.mpr c52
          subst c52
          have H1 : (laws_FnExactRenameSurface.j0 k l1 t659 t668 t677 true l0_0 l0_1 t653 t656 t661 t664 t671 t674) = some true := by rw [if_neg (show ¬ (false = true) by decide)] at H; exact H
          clear H
          have H := H1
          clear H1
          cases k with
          | zero => rw [laws_FnExactRenameSurface.j0] at H; exact absurd H (by simp)
          | succ k_ => rw [laws_FnExactRenameSurface.j0, if_pos rfl] at H; exact absurd H (by simp)
      case rest =>
        clear HC16
        try clear c1
        try clear c2
        try clear p2
        try clear c3
        try clear c3b0
        try clear c3b1
        try clear c4
        try clear c5
        try clear c6
        try clear c6b0
        try clear c9
        try clear c15
        try clear c17
        try clear c19
        try clear c21
        try clear c29
        try clear c36
        try clear c37
        try clear c44
        try clear c45
        try clear c46
        try clear c47
        try clear c48
        try clear c52
        try clear c53
        try clear c54
        try clear c55
        try clear c57
        try clear c58
        try clear c61
        try clear c62
        try clear c63
        try clear c65
        try clear c66
        try clear hcz18_0
        try clear hcz18_1
        try clear hcz20_0
        try clear hcz20_1
        try clear hcz30_0
        try clear hcz30_1
        try clear hcz32_0
        try clear hcz32_1
        try clear hcz38_0
        try clear hcz38_1
        try clear hcz41_0
        try clear hcz41_1
        try clear hcz49_0
        try clear hcz49_1
        try clear hcz56_0
        try clear hcz56_1
        try clear hcz59_0
        try clear hcz59_1
        try clear hcz64_0
        try clear hcz64_1
        try clear hcz67_0
        try clear hcz67_1
        try clear hcz8_0
        try clear hcz8_1
        try clear hfz18_0
        try clear hfz18_1
        try clear hfz20_0
        try clear hfz20_1
        try clear hfz30_0
        try clear hfz30_1
        try clear hfz32_0
        try clear hfz32_1
        try clear hfz38_0
        try clear hfz38_1
        try clear hfz41_0
        try clear hfz41_1
        try clear hfz49_0
        try clear hfz49_1
        try clear hfz56_0
        try clear hfz56_1
        try clear hfz59_0
        try clear hfz59_1
        try clear hfz64_0
        try clear hfz64_1
        try clear hfz67_0
        try clear hfz67_1
        try clear hfz8_0
        try clear hfz8_1
        obtain ⟨kq, x51_15, rfl, HA, HJ15, HO_9, HO_661000, HO_661001, HO_668000, HO_668001, HO_679000, HO_679001, BK642, BK660, BK667, BK678, HB⟩ := hcut
        cases kq with
        | zero => exact absurd HA.out (by simp [laws_FnExactRenameSurface.j0])
        | succ kj15 =>
          have H := HA.out
          clear HA
          simp only [laws_FnExactRenameSurface.j0] at H
          by_cases c69 : x51_15 = true
          · subst c69
            have H1 : (some false) = some true := by rw [if_pos rfl] at H; exact H
            clear H
            have H := H1
            clear H1
            exact absurd H (by simp)
          · replace c69 := Bool.eq_false_iff.mpr c69
            subst c69
            have H1 : ((laws_toSurface.f kj15 l0_0 l0_1).bind fun bt680 => ((laws_eqSurface.f kj15 t661 t664 bt680.1 bt680.2).bind fun t686 => (if t686 = true then ((laws_toIntS.f kj15 l1).bind fun t687 => ((laws_eqIntS.f kj15 t668 t687).bind fun t690 => (if t690 = true then ((laws_markSurface.f kj15 t661 t664 1).bind fun bt691 => ((laws_markIntS.f kj15 t668 bt691.1).bind fun bt694 => (if bt694.1 < 0 then (laws_FnExactRenameSurface.j1 kj15 l1 t659 true l0_0 l0_1 t653 t656 t671 t674) else ((laws_eqSurface.f kj15 t671 t674 t653 t656).bind fun t696 => (if t696 = true then (laws_FnExactRenameSurface.j1 kj15 l1 t659 (t677 != t659) l0_0 l0_1 t653 t656 t671 t674) else (laws_FnExactRenameSurface.j1 kj15 l1 t659 true l0_0 l0_1 t653 t656 t671 t674)))))) else (some false)))) else (some false)))) = some true := by rw [if_neg (show ¬ (false = true) by decide)] at H; exact H
            clear H
            have H := H1
            clear H1
            replace H := Option.bind_eq_some_iff.mp H
            obtain ⟨⟨t680, t683⟩, A700, H⟩ := H
            replace H : ((laws_eqSurface.f kj15 t661 t664 t680 t683).bind fun t686 => (if t686 = true then ((laws_toIntS.f kj15 l1).bind fun t687 => ((laws_eqIntS.f kj15 t668 t687).bind fun t690 => (if t690 = true then ((laws_markSurface.f kj15 t661 t664 1).bind fun bt691 => ((laws_markIntS.f kj15 t668 bt691.1).bind fun bt694 => (if bt694.1 < 0 then (laws_FnExactRenameSurface.j1 kj15 l1 t659 true l0_0 l0_1 t653 t656 t671 t674) else ((laws_eqSurface.f kj15 t671 t674 t653 t656).bind fun t696 => (if t696 = true then (laws_FnExactRenameSurface.j1 kj15 l1 t659 (t677 != t659) l0_0 l0_1 t653 t656 t671 t674) else (laws_FnExactRenameSurface.j1 kj15 l1 t659 true l0_0 l0_1 t653 t656 t671 t674)))))) else (some false)))) else (some false))) = some true := H
            have A70 := Aside0.mk A700
            clear A700
            replace H := Option.bind_eq_some_iff.mp H
            obtain ⟨t686, A710, H⟩ := H
            replace H : (if t686 = true then ((laws_toIntS.f kj15 l1).bind fun t687 => ((laws_eqIntS.f kj15 t668 t687).bind fun t690 => (if t690 = true then ((laws_markSurface.f kj15 t661 t664 1).bind fun bt691 => ((laws_markIntS.f kj15 t668 bt691.1).bind fun bt694 => (if bt694.1 < 0 then (laws_FnExactRenameSurface.j1 kj15 l1 t659 true l0_0 l0_1 t653 t656 t671 t674) else ((laws_eqSurface.f kj15 t671 t674 t653 t656).bind fun t696 => (if t696 = true then (laws_FnExactRenameSurface.j1 kj15 l1 t659 (t677 != t659) l0_0 l0_1 t653 t656 t671 t674) else (laws_FnExactRenameSurface.j1 kj15 l1 t659 true l0_0 l0_1 t653 t656 t671 t674)))))) else (some false)))) else (some false)) = some true := H
            have A71 := Aside0.mk A710
            clear A710
            by_cases c72 : t686 = true
            · subst c72
              have H1 : ((laws_toIntS.f kj15 l1).bind fun t687 => ((laws_eqIntS.f kj15 t668 t687).bind fun t690 => (if t690 = true then ((laws_markSurface.f kj15 t661 t664 1).bind fun bt691 => ((laws_markIntS.f kj15 t668 bt691.1).bind fun bt694 => (if bt694.1 < 0 then (laws_FnExactRenameSurface.j1 kj15 l1 t659 true l0_0 l0_1 t653 t656 t671 t674) else ((laws_eqSurface.f kj15 t671 t674 t653 t656).bind fun t696 => (if t696 = true then (laws_FnExactRenameSurface.j1 kj15 l1 t659 (t677 != t659) l0_0 l0_1 t653 t656 t671 t674) else (laws_FnExactRenameSurface.j1 kj15 l1 t659 true l0_0 l0_1 t653 t656 t671 t674)))))) else (some false)))) = some true := by rw [if_pos rfl] at H; exact H
              clear H
              have H := H1
              clear H1
              replace H := Option.bind_eq_some_iff.mp H
              obtain ⟨t687, A730, H⟩ := H
              replace H : ((laws_eqIntS.f kj15 t668 t687).bind fun t690 => (if t690 = true then ((laws_markSurface.f kj15 t661 t664 1).bind fun bt691 => ((laws_markIntS.f kj15 t668 bt691.1).bind fun bt694 => (if bt694.1 < 0 then (laws_FnExactRenameSurface.j1 kj15 l1 t659 true l0_0 l0_1 t653 t656 t671 t674) else ((laws_eqSurface.f kj15 t671 t674 t653 t656).bind fun t696 => (if t696 = true then (laws_FnExactRenameSurface.j1 kj15 l1 t659 (t677 != t659) l0_0 l0_1 t653 t656 t671 t674) else (laws_FnExactRenameSurface.j1 kj15 l1 t659 true l0_0 l0_1 t653 t656 t671 t674)))))) else (some false))) = some true := H
              have A73 := Aside0.mk A730
              clear A730
              replace H := Option.bind_eq_some_iff.mp H
              obtain ⟨t690, A740, H⟩ := H
              replace H : (if t690 = true then ((laws_markSurface.f kj15 t661 t664 1).bind fun bt691 => ((laws_markIntS.f kj15 t668 bt691.1).bind fun bt694 => (if bt694.1 < 0 then (laws_FnExactRenameSurface.j1 kj15 l1 t659 true l0_0 l0_1 t653 t656 t671 t674) else ((laws_eqSurface.f kj15 t671 t674 t653 t656).bind fun t696 => (if t696 = true then (laws_FnExactRenameSurface.j1 kj15 l1 t659 (t677 != t659) l0_0 l0_1 t653 t656 t671 t674) else (laws_FnExactRenameSurface.j1 kj15 l1 t659 true l0_0 l0_1 t653 t656 t671 t674)))))) else (some false)) = some true := H
              have A74 := Aside0.mk A740
              clear A740
              by_cases c75 : t690 = true
              · subst c75
                have H1 : ((laws_markSurface.f kj15 t661 t664 1).bind fun bt691 => ((laws_markIntS.f kj15 t668 bt691.1).bind fun bt694 => (if bt694.1 < 0 then (laws_FnExactRenameSurface.j1 kj15 l1 t659 true l0_0 l0_1 t653 t656 t671 t674) else ((laws_eqSurface.f kj15 t671 t674 t653 t656).bind fun t696 => (if t696 = true then (laws_FnExactRenameSurface.j1 kj15 l1 t659 (t677 != t659) l0_0 l0_1 t653 t656 t671 t674) else (laws_FnExactRenameSurface.j1 kj15 l1 t659 true l0_0 l0_1 t653 t656 t671 t674)))))) = some true := by rw [if_pos rfl] at H; exact H
                clear H
                have H := H1
                clear H1
                replace H := Option.bind_eq_some_iff.mp H
                obtain ⟨⟨t691, t692, t693⟩, A760, H⟩ := H
                replace H : ((laws_markIntS.f kj15 t668 t691).bind fun bt694 => (if bt694.1 < 0 then (laws_FnExactRenameSurface.j1 kj15 l1 t659 true l0_0 l0_1 t653 t656 t671 t674) else ((laws_eqSurface.f kj15 t671 t674 t653 t656).bind fun t696 => (if t696 = true then (laws_FnExactRenameSurface.j1 kj15 l1 t659 (t677 != t659) l0_0 l0_1 t653 t656 t671 t674) else (laws_FnExactRenameSurface.j1 kj15 l1 t659 true l0_0 l0_1 t653 t656 t671 t674))))) = some true := H
                have A76 := Aside0.mk A760
                clear A760
                replace H := Option.bind_eq_some_iff.mp H
                obtain ⟨⟨t694, t695⟩, A770, H⟩ := H
                replace H : (if t694 < 0 then (laws_FnExactRenameSurface.j1 kj15 l1 t659 true l0_0 l0_1 t653 t656 t671 t674) else ((laws_eqSurface.f kj15 t671 t674 t653 t656).bind fun t696 => (if t696 = true then (laws_FnExactRenameSurface.j1 kj15 l1 t659 (t677 != t659) l0_0 l0_1 t653 t656 t671 t674) else (laws_FnExactRenameSurface.j1 kj15 l1 t659 true l0_0 l0_1 t653 t656 t671 t674)))) = some true := H
                have A77 := Aside0.mk A770
                clear A770
                have HC78 := Aside0.mk H
                clear H
                try go_wp2
                have n0_ := Aside0.mk (Kd.R_drew HO_9.out)
                have n1_ := Aside0.mk (Kd.R_drew HO_661000.out)
                have n2_ := Aside0.mk (Kd.R_drew HO_661001.out)
                have n3_ := Aside0.mk (Kd.R_drew HO_668000.out)
                have n4_ := Aside0.mk (Kd.R_drew HO_668001.out)
                have n5_ := Aside0.mk (Kd.R_drew HO_679000.out)
                have n6_ := Aside0.mk (Kd.R_drew HO_679001.out)
                have n7_ := Aside0.mk (blk_drew BK642.out)
                have n8_ := Aside0.mk (blk_drew BK660.out)
                have n9_ := Aside0.mk (blk_drew BK667.out)
                have n10_ := Aside0.mk (blk_drew BK678.out)
                have n11_ := Aside0.mk (below_drew1 HB.out)
                clear HO_9 HO_661000 HO_661001 HO_668000 HO_668001 HO_679000 HO_679001 BK642 BK660 BK667 BK678 HB
                have HO_9 := n0_
                have HO_661000 := n1_
                have HO_661001 := n2_
                have HO_668000 := n3_
                have HO_668001 := n4_
                have HO_679000 := n5_
                have HO_679001 := n6_
                have BK642 := n7_
                have BK660 := n8_
                have BK667 := n9_
                have BK678 := n10_
                have HB := n11_
                clear n0_ n1_ n2_ n3_ n4_ n5_ n6_ n7_ n8_ n9_ n10_ n11_
                refine start_ (n := 5) (S := fun w' => w'.cell? ⟨gb667, 0, none⟩ = some (.slice Ao35 t661.length co35) ∧ w'.cell? ⟨gb667, 1, none⟩ = some (.slice Ao39 t664.length co39) ∧ w'.cell? ⟨gb642, 0, none⟩ = some (.slice A0_0 l0_0.length c0_0) ∧ w'.cell? ⟨gb642, 1, none⟩ = some (.slice A0_1 l0_1.length c0_1)) (ds := []) #[false, false, false, false, false] (by kernel_rfl) rfl rfl ⟨(blk_cell BK667.out 0).trans rfl, (blk_cell BK667.out 1).trans rfl, (blk_cell BK642.out 0).trans rfl, (blk_cell BK642.out 1).trans rfl⟩ (fun hHeld => ?_)
                generalize wc.drew = w79 at HO_9 HO_661000 HO_661001 HO_668000 HO_668001 HO_679000 HO_679001 BK642 BK660 BK667 BK678 HB hHeld ⊢
                refine take_ (i := 0) (N := some 52) (v := ?_) (a' := ?_) #[true, false, false, false, false] rfl rfl (by kernel_rfl) (fun _ _ _ h => h) (Or.inl ⟨by rfl, ?_⟩) hHeld ?_ ?_
                rotate_left
                · rintro w' ⟨s0, s1, s2, s3⟩
                  go_simp
                  with_reducible rfl
                rotate_left
                · simp only [Act.put, List.setIfInBounds_toArray, List.set_cons_zero, List.set_cons_succ, i64_w, i32_w]
                  rfl
                refine take_ (i := 1) (N := some 53) (v := ?_) (a' := ?_) #[true, true, false, false, false] rfl rfl (by kernel_rfl) (fun _ _ _ h => h) (Or.inl ⟨by rfl, ?_⟩) hHeld ?_ ?_
                rotate_left
                · rintro w' ⟨s0, s1, s2, s3⟩
                  go_simp
                  with_reducible rfl
                rotate_left
                · simp only [Act.put, List.setIfInBounds_toArray, List.set_cons_zero, List.set_cons_succ, i64_w, i32_w]
                  rfl
                refine one_ (i := 2) (N := some 54) #[true, true, true, false, false] rfl rfl (by kernel_rfl) (by decide) (fun K hK => ?_)
                refine goes_ Try.func17 (by kernel_rfl) rfl #[.agg #[.slice A0_0 l0_0.length c0_0, .slice A0_1 l0_1.length c0_1]] (by rfl) rfl rfl (by (try simp only [List.map_toArray, List.map_cons, List.map_nil]); first | done | rfl | (simp only [List.length_drop, List.length_take]; rfl)) ?_
                with_reducible refine (laws_toSurface.calls kj15 _ _ l0_0 _ _ l0_1 t680 t683 _ ?side1 ?side2 ?side3 ?side4 A70.out).mono ?_
                (case side1 => repeat (first | exact (Kd.C_below HR0_0.out HB.out) | (with_reducible refine Kd.C_alloc ?_ _) | (with_reducible refine Kd.C_drewN ?_ _) | (with_reducible refine Kd.C_drew ?_)))
                (case side2 => exact HC0_0.out)
                (case side3 => repeat (first | exact (Kd.C_below HR0_1.out HB.out) | (with_reducible refine Kd.C_alloc ?_ _) | (with_reducible refine Kd.C_drewN ?_ _) | (with_reducible refine Kd.C_drew ?_)))
                (case side4 => exact HC0_1.out)
                rintro e w80 ⟨v681, v684, rfl, ho0, ho1, hb⟩
                refine ⟨_, rfl, ?_⟩
                have n0_ := Aside0.mk (Kd.R_mono (Kd.R_told (Kd.R_told (Kd.R_old (HO_9.out) hb) (Kd.R_base ho0)) (Kd.R_base ho1)) (fun _ h_ => h_.1))
                have n1_ := Aside0.mk (Kd.R_mono (Kd.R_told (Kd.R_told (Kd.R_old (HO_661000.out) hb) (Kd.R_base ho0)) (Kd.R_base ho1)) (fun _ h_ => h_.1))
                have n2_ := Aside0.mk (Kd.R_mono (Kd.R_told (Kd.R_told (Kd.R_old (HO_661001.out) hb) (Kd.R_base ho0)) (Kd.R_base ho1)) (fun _ h_ => h_.1))
                have n3_ := Aside0.mk (Kd.R_mono (Kd.R_told (Kd.R_told (Kd.R_old (HO_668000.out) hb) (Kd.R_base ho0)) (Kd.R_base ho1)) (fun _ h_ => h_.1))
                have n4_ := Aside0.mk (Kd.R_mono (Kd.R_told (Kd.R_told (Kd.R_old (HO_668001.out) hb) (Kd.R_base ho0)) (Kd.R_base ho1)) (fun _ h_ => h_.1))
                have n5_ := Aside0.mk (Kd.R_mono (Kd.R_told (Kd.R_told (Kd.R_old (HO_679000.out) hb) (Kd.R_base ho0)) (Kd.R_base ho1)) (fun _ h_ => h_.1))
                have n6_ := Aside0.mk (Kd.R_mono (Kd.R_told (Kd.R_told (Kd.R_old (HO_679001.out) hb) (Kd.R_base ho0)) (Kd.R_base ho1)) (fun _ h_ => h_.1))
                have n7_ := Aside0.mk (Kd.R_lower (Kd.R_new' (Kd.R_new' (Kd.R_new' (Kd.R_new' (Kd.R_new' (Kd.R_new' (Kd.R_new' ho0 (Kd.R_lt (HO_9.out))) (Kd.R_lt (HO_661000.out))) (Kd.R_lt (HO_661001.out))) (Kd.R_lt (HO_668000.out))) (Kd.R_lt (HO_668001.out))) (Kd.R_lt (HO_679000.out))) (Kd.R_lt (HO_679001.out))) (below_size (HB.out)))
                have n8_ := Aside0.mk (Kd.R_lower (Kd.R_new' (Kd.R_new' (Kd.R_new' (Kd.R_new' (Kd.R_new' (Kd.R_new' (Kd.R_new' ho1 (Kd.R_lt (HO_9.out))) (Kd.R_lt (HO_661000.out))) (Kd.R_lt (HO_661001.out))) (Kd.R_lt (HO_668000.out))) (Kd.R_lt (HO_668001.out))) (Kd.R_lt (HO_679000.out))) (Kd.R_lt (HO_679001.out))) (below_size (HB.out)))
                have n9_ := Aside0.mk (blk_below (g := gb642) (o := .cells #[.slice A0_0 l0_0.length c0_0, .slice A0_1 l0_1.length c0_1] 24 (0, 0)) (BK642.out) hb)
                have n10_ := Aside0.mk (blk_below (g := gb660) (o := .cells #[.slice Ao28 t653.length co28, .slice Ao31 t656.length co31] 27 (0, 0)) (BK660.out) hb)
                have n11_ := Aside0.mk (blk_below (g := gb667) (o := .cells #[.slice Ao35 t661.length co35, .slice Ao39 t664.length co39] 27 (0, 0)) (BK667.out) hb)
                have n12_ := Aside0.mk (blk_below (g := gb678) (o := .cells #[.slice Ao45 t671.length co45, .slice Ao50 t674.length co50] 27 (0, 0)) (BK678.out) hb)
                have n13_ := Aside0.mk (below_step (HB.out) hb)
                clear HO_9 HO_661000 HO_661001 HO_668000 HO_668001 HO_679000 HO_679001 BK642 BK660 BK667 BK678 HB
                have HO_9 := n0_
                have HO_661000 := n1_
                have HO_661001 := n2_
                have HO_668000 := n3_
                have HO_668001 := n4_
                have HO_679000 := n5_
                have HO_679001 := n6_
                have HO682 := n7_
                have HO685 := n8_
                have BK642 := n9_
                have BK660 := n10_
                have BK667 := n11_
                have BK678 := n12_
                have HB := n13_
                clear n0_ n1_ n2_ n3_ n4_ n5_ n6_ n7_ n8_ n9_ n10_ n11_ n12_ n13_
                (try clear hb)
                (try clear hb2)
                (try clear hk)
                (try clear hi)
                (try clear ho0)
                (try clear ho1)
                obtain ⟨Ao81, co81, eo81⟩ := Kd.R_slice HO682.out
                (first | subst eo81 | (injection eo81 with f1_ f2_ f3_; have f4_ := f1_.symm; have f5_ := f3_.symm; clear f1_ f2_ f3_; subst f4_; subst f5_))
                obtain ⟨Ao82, co82, eo82⟩ := Kd.R_slice HO685.out
                (first | subst eo82 | (injection eo82 with f1_ f2_ f3_; have f4_ := f1_.symm; have f5_ := f3_.symm; clear f1_ f2_ f3_; subst f4_; subst f5_))
                refine hK.out _ _ ⟨(blk_cell BK667.out 0).trans rfl, (blk_cell BK667.out 1).trans rfl, (blk_cell BK642.out 0).trans rfl, (blk_cell BK642.out 1).trans rfl⟩ (fun hHeld => ?_)
                clear hK K
                refine norm_ (a' := ?_) ?_ ?_
                rotate_left
                · show Act.put _ (some 54) _ = _
                  simp only [Act.put, List.setIfInBounds_toArray, List.set_cons_zero, List.set_cons_succ, i64_w, i32_w]
                  rfl
                refine one_ (i := 3) (N := some 55) #[true, true, true, true, false] rfl rfl (by kernel_rfl) (by decide) (fun K hK => ?_)
                refine goes_ Try.func19 (by kernel_rfl) rfl #[.agg #[.slice Ao35 t661.length co35, .slice Ao39 t664.length co39], .agg #[.slice Ao81 t680.length co81, .slice Ao82 t683.length co82]] (by rfl) rfl rfl (by (try simp only [List.map_toArray, List.map_cons, List.map_nil]); first | done | rfl | (simp only [List.length_drop, List.length_take]; rfl)) ?_
                with_reducible refine (laws_eqSurface.calls kj15 _ _ t661 _ _ t664 _ _ t680 _ _ t683 true _ ?side1 ?side2 ?side3 ?side4 ?side5 ?side6 ?side7 ?side8 A71.out).mono ?_
                (case side1 => repeat (first | exact (Kd.R_reads' HO_668000.out).2.2 | (with_reducible refine Kd.C_alloc ?_ _) | (with_reducible refine Kd.C_drewN ?_ _) | (with_reducible refine Kd.C_drew ?_)))
                (case side2 => exact (Kd.R_reads' HO_668000.out).2.1)
                (case side3 => repeat (first | exact (Kd.R_reads' HO_668001.out).2.2 | (with_reducible refine Kd.C_alloc ?_ _) | (with_reducible refine Kd.C_drewN ?_ _) | (with_reducible refine Kd.C_drew ?_)))
                (case side4 => exact (Kd.R_reads' HO_668001.out).2.1)
                (case side5 => repeat (first | exact (Kd.R_reads' HO682.out).2.2 | (with_reducible refine Kd.C_alloc ?_ _) | (with_reducible refine Kd.C_drewN ?_ _) | (with_reducible refine Kd.C_drew ?_)))
                (case side6 => exact (Kd.R_reads' HO682.out).2.1)
                (case side7 => repeat (first | exact (Kd.R_reads' HO685.out).2.2 | (with_reducible refine Kd.C_alloc ?_ _) | (with_reducible refine Kd.C_drewN ?_ _) | (with_reducible refine Kd.C_drew ?_)))
                (case side8 => exact (Kd.R_reads' HO685.out).2.1)
                rintro e w83 ⟨rfl, hb⟩
                refine ⟨_, rfl, ?_⟩
                have n0_ := Aside0.mk (Kd.R_below (HO_9.out) hb)
                have n1_ := Aside0.mk (Kd.R_below (HO_661000.out) hb)
                have n2_ := Aside0.mk (Kd.R_below (HO_661001.out) hb)
                have n3_ := Aside0.mk (Kd.R_below (HO_668000.out) hb)
                have n4_ := Aside0.mk (Kd.R_below (HO_668001.out) hb)
                have n5_ := Aside0.mk (Kd.R_below (HO_679000.out) hb)
                have n6_ := Aside0.mk (Kd.R_below (HO_679001.out) hb)
                have n7_ := Aside0.mk (Kd.R_below (HO682.out) hb)
                have n8_ := Aside0.mk (Kd.R_below (HO685.out) hb)
                have n9_ := Aside0.mk (blk_below (g := gb642) (o := .cells #[.slice A0_0 l0_0.length c0_0, .slice A0_1 l0_1.length c0_1] 24 (0, 0)) (BK642.out) hb)
                have n10_ := Aside0.mk (blk_below (g := gb660) (o := .cells #[.slice Ao28 t653.length co28, .slice Ao31 t656.length co31] 27 (0, 0)) (BK660.out) hb)
                have n11_ := Aside0.mk (blk_below (g := gb667) (o := .cells #[.slice Ao35 t661.length co35, .slice Ao39 t664.length co39] 27 (0, 0)) (BK667.out) hb)
                have n12_ := Aside0.mk (blk_below (g := gb678) (o := .cells #[.slice Ao45 t671.length co45, .slice Ao50 t674.length co50] 27 (0, 0)) (BK678.out) hb)
                have n13_ := Aside0.mk (below_step (HB.out) hb)
                clear HO_9 HO_661000 HO_661001 HO_668000 HO_668001 HO_679000 HO_679001 HO682 HO685 BK642 BK660 BK667 BK678 HB
                have HO_9 := n0_
                have HO_661000 := n1_
                have HO_661001 := n2_
                have HO_668000 := n3_
                have HO_668001 := n4_
                have HO_679000 := n5_
                have HO_679001 := n6_
                have HO682 := n7_
                have HO685 := n8_
                have BK642 := n9_
                have BK660 := n10_
                have BK667 := n11_
                have BK678 := n12_
                have HB := n13_
                clear n0_ n1_ n2_ n3_ n4_ n5_ n6_ n7_ n8_ n9_ n10_ n11_ n12_ n13_
                (try clear hb)
                (try clear hb2)
                (try clear hk)
                (try clear hi)
                refine hK.out _ _ ⟨(blk_cell BK667.out 0).trans rfl, (blk_cell BK667.out 1).trans rfl, (blk_cell BK642.out 0).trans rfl, (blk_cell BK642.out 1).trans rfl⟩ (fun hHeld => ?_)
                clear hK K
                refine norm_ (a' := ?_) ?_ ?_
                rotate_left
                · show Act.put _ (some 55) _ = _
                  simp only [Act.put, List.setIfInBounds_toArray, List.set_cons_zero, List.set_cons_succ, i64_w, i32_w]
                  rfl
                refine pure_ (i := 4) (N := some 56) (v := ?_) (a' := ?_) #[true, true, true, true, true] rfl rfl (by kernel_rfl) (fun _ _ _ h => h) (Or.inl ⟨by rfl, ?_⟩) ?_ ?_
                rotate_left
                · intro w'
                  go_simp
                  with_reducible rfl
                rotate_left
                · simp only [Act.put, List.setIfInBounds_toArray, List.set_cons_zero, List.set_cons_succ, i64_w, i32_w]
                  rfl
                refine done_ (by kernel_rfl) ?_
                go_upto_region 20 with (first | ((with_reducible refine gate_callee (f := 21) rfl ?_); refine goesL_ (some 59) rfl rfl Try.func21 (by kernel_rfl) rfl #[.slice A1 l1.length c1] rfl (by (try simp only [List.map_toArray, List.map_cons, List.map_nil]); first | done | rfl | (simp only [List.length_drop, List.length_take]; rfl)) ?_; (with_reducible refine (laws_toIntS.calls kj15 _ _ l1 t687 _ ?side1 ?side2 A73.out).mono ?_); (case side1 => repeat (first | exact (Kd.C_below HR1.out HB.out) | (with_reducible refine Kd.C_alloc ?_ _) | (with_reducible refine Kd.C_drewN ?_ _) | (with_reducible refine Kd.C_drew ?_))); (case side2 => exact HC1.out); rintro e w84 ⟨v688, rfl, ho0, hb⟩; refine ⟨_, rfl, ?_⟩; have n0_ := Aside0.mk (Kd.R_elder' (HO_9.out) (Kd.R_base ho0) hb); have n1_ := Aside0.mk (Kd.R_elder' (HO_661000.out) (Kd.R_base ho0) hb); have n2_ := Aside0.mk (Kd.R_elder' (HO_661001.out) (Kd.R_base ho0) hb); have n3_ := Aside0.mk (Kd.R_elder' (HO_668000.out) (Kd.R_base ho0) hb); have n4_ := Aside0.mk (Kd.R_elder' (HO_668001.out) (Kd.R_base ho0) hb); have n5_ := Aside0.mk (Kd.R_elder' (HO_679000.out) (Kd.R_base ho0) hb); have n6_ := Aside0.mk (Kd.R_elder' (HO_679001.out) (Kd.R_base ho0) hb); have n7_ := Aside0.mk (Kd.R_elder' (HO682.out) (Kd.R_base ho0) hb); have n8_ := Aside0.mk (Kd.R_elder' (HO685.out) (Kd.R_base ho0) hb); have n9_ := Aside0.mk (Kd.R_lower (Kd.R_new' (Kd.R_new' (Kd.R_new' (Kd.R_new' (Kd.R_new' (Kd.R_new' (Kd.R_new' (Kd.R_new' (Kd.R_new' ho0 (Kd.R_lt (HO_9.out))) (Kd.R_lt (HO_661000.out))) (Kd.R_lt (HO_661001.out))) (Kd.R_lt (HO_668000.out))) (Kd.R_lt (HO_668001.out))) (Kd.R_lt (HO_679000.out))) (Kd.R_lt (HO_679001.out))) (Kd.R_lt (HO682.out))) (Kd.R_lt (HO685.out))) (below_size (HB.out))); have n10_ := Aside0.mk (blk_below (g := gb642) (o := .cells #[.slice A0_0 l0_0.length c0_0, .slice A0_1 l0_1.length c0_1] 24 (0, 0)) (BK642.out) hb); have n11_ := Aside0.mk (blk_below (g := gb660) (o := .cells #[.slice Ao28 t653.length co28, .slice Ao31 t656.length co31] 27 (0, 0)) (BK660.out) hb); have n12_ := Aside0.mk (blk_below (g := gb667) (o := .cells #[.slice Ao35 t661.length co35, .slice Ao39 t664.length co39] 27 (0, 0)) (BK667.out) hb); have n13_ := Aside0.mk (blk_below (g := gb678) (o := .cells #[.slice Ao45 t671.length co45, .slice Ao50 t674.length co50] 27 (0, 0)) (BK678.out) hb); have n14_ := Aside0.mk (below_step (HB.out) hb); clear HO_9; clear HO_661000; clear HO_661001; clear HO_668000; clear HO_668001; clear HO_679000; clear HO_679001; clear HO682; clear HO685; clear BK642; clear BK660; clear BK667; clear BK678; clear HB; have HO_9 := n0_; have HO_661000 := n1_; have HO_661001 := n2_; have HO_668000 := n3_; have HO_668001 := n4_; have HO_679000 := n5_; have HO_679001 := n6_; have HO682 := n7_; have HO685 := n8_; have HO689 := n9_; have BK642 := n10_; have BK660 := n11_; have BK667 := n12_; have BK678 := n13_; have HB := n14_; clear n0_ n1_ n2_ n3_ n4_ n5_ n6_ n7_ n8_ n9_ n10_ n11_ n12_ n13_ n14_; (try clear hb); (try clear hb2); (try clear hk); (try clear hi); (try clear ho0); obtain ⟨Ao85, co85, eo85⟩ := Kd.R_slice HO689.out; subst eo85) | ((with_reducible refine gate_callee (f := 24) rfl ?_); refine goesL_ (some 60) rfl rfl Try.func24 (by kernel_rfl) rfl #[.slice Ao42 t668.length co42, .slice Ao85 t687.length co85] rfl (by (try simp only [List.map_toArray, List.map_cons, List.map_nil]); first | done | rfl | (simp only [List.length_drop, List.length_take]; rfl)) ?_; (with_reducible refine (laws_eqIntS.calls kj15 _ _ t668 _ _ t687 true _ ?side1 ?side2 ?side3 ?side4 A74.out).mono ?_); (case side1 => repeat (first | exact (Kd.R_reads' HO_9.out).2.2 | (with_reducible refine Kd.C_alloc ?_ _) | (with_reducible refine Kd.C_drewN ?_ _) | (with_reducible refine Kd.C_drew ?_))); (case side2 => exact (Kd.R_reads' HO_9.out).2.1); (case side3 => repeat (first | exact (Kd.R_reads' HO689.out).2.2 | (with_reducible refine Kd.C_alloc ?_ _) | (with_reducible refine Kd.C_drewN ?_ _) | (with_reducible refine Kd.C_drew ?_))); (case side4 => exact (Kd.R_reads' HO689.out).2.1); rintro e w' ⟨rfl, ⟨nd, rfl⟩⟩; refine ⟨_, rfl, ?_⟩; have hnb86 := NB667_642.out; have hnc86 := NB642_667.out; have hnb87 := NB667_660.out; have hnc87 := NB660_667.out; have hnb88 := NB667_678.out; have hnc88 := NB678_667.out; have hcz89_0 : w84.cell? ⟨gb667, 0, none⟩ = some (.slice Ao35 t661.length co35) := (blk_cell BK667.out 0).trans rfl; have hcz89_1 : w84.cell? ⟨gb667, 1, none⟩ = some (.slice Ao39 t664.length co39) := (blk_cell BK667.out 1).trans rfl; have hfz89_0 := blk_frozen BK667.out 0; have hfz89_1 := blk_frozen BK667.out 1) | ((with_reducible refine gate_callee (f := 42) rfl ?_); refine goesL_ (some 64) rfl rfl Try.func42 (by kernel_rfl) rfl #[.agg #[.slice Ao35 t661.length co35, .slice Ao39 t664.length co39], .int .i64 1] rfl (by (try simp only [List.map_toArray, List.map_cons, List.map_nil]); first | done | rfl | (simp only [List.length_drop, List.length_take]; rfl)) ?_; (with_reducible refine (laws_markSurface.calls kj15 (fun k_ => some k_ = (.slice Ao35 t661.length co35 : Value).ownBlock) (.slice Ao35 t661.length co35) t661 (fun k_ => some k_ = (.slice Ao39 t664.length co39 : Value).ownBlock) (.slice Ao39 t664.length co39) t664 1 t691 t692 t693 w _ ?side1 ?side2 ?side3 ?side4 ?side5 A76.out).mono ?_); (case side1 => repeat (first | (with_reducible first | exact HB.out | apply below_alloc | apply pw_below_drewN | apply below_drew1 | refine below_set ?_ GE642.out | refine below_set ?_ GE660.out | refine below_set ?_ GE667.out | refine below_set ?_ GE678.out) | exact HB.out)); (case side2 => exact Kd.R_tight rfl HO_668000.out); (case side3 => exact fun k_ e_ => (HO_668000.out.1 k_ e_.symm).1.1.1.2.2.2.1); (case side4 => exact Kd.R_tight rfl HO_668001.out); (case side5 => exact fun k_ e_ => (HO_668001.out.1 k_ e_.symm).1.1.1.2.2.2.1); rintro e w90 ⟨rfl, hy0, hy1, hb, hkp⟩; refine ⟨_, rfl, ?_⟩; have n0_ := Aside0.mk (Kd.R_mono (ok' := fun k_ => some k_ ≠ (.slice Ao28 t653.length co28 : Value).ownBlock ∧ some k_ ≠ (.slice Ao31 t656.length co31 : Value).ownBlock ∧ some k_ ≠ (.slice Ao35 t661.length co35 : Value).ownBlock ∧ some k_ ≠ (.slice Ao39 t664.length co39 : Value).ownBlock ∧ some k_ ≠ (.slice Ao45 t671.length co45 : Value).ownBlock ∧ some k_ ≠ (.slice Ao50 t674.length co50 : Value).ownBlock ∧ some k_ ≠ (.slice Ao81 t680.length co81 : Value).ownBlock ∧ some k_ ≠ (.slice Ao82 t683.length co82 : Value).ownBlock ∧ some k_ ≠ (.slice Ao85 t687.length co85 : Value).ownBlock) (Kd.R_keptB (HO_9.out) hkp (fun k_ hk_ hs_ => Or.elim hs_ (fun e_ => (hk_.1.1.1.2.2.1) e_) (fun e_ => (hk_.1.1.1.2.2.2.1) e_))) (fun k_ hk_ => ⟨hk_.1.1.1.1.1, hk_.1.1.1.1.2.1, hk_.1.1.1.1.2.2.1, hk_.1.1.1.1.2.2.2.1, hk_.1.1.1.1.2.2.2.2.1, hk_.1.1.1.1.2.2.2.2.2, hk_.1.1.1.2, hk_.1.1.2, hk_.1.2⟩)); have n1_ := Aside0.mk (Kd.R_mono (ok' := fun k_ => some k_ ≠ (.slice Ao42 t668.length co42 : Value).ownBlock ∧ some k_ ≠ (.slice Ao31 t656.length co31 : Value).ownBlock ∧ some k_ ≠ (.slice Ao35 t661.length co35 : Value).ownBlock ∧ some k_ ≠ (.slice Ao39 t664.length co39 : Value).ownBlock ∧ some k_ ≠ (.slice Ao45 t671.length co45 : Value).ownBlock ∧ some k_ ≠ (.slice Ao50 t674.length co50 : Value).ownBlock ∧ some k_ ≠ (.slice Ao81 t680.length co81 : Value).ownBlock ∧ some k_ ≠ (.slice Ao82 t683.length co82 : Value).ownBlock ∧ some k_ ≠ (.slice Ao85 t687.length co85 : Value).ownBlock) (Kd.R_keptB (HO_661000.out) hkp (fun k_ hk_ hs_ => Or.elim hs_ (fun e_ => (hk_.1.1.1.2.2.1) e_) (fun e_ => (hk_.1.1.1.2.2.2.1) e_))) (fun k_ hk_ => ⟨hk_.1.1.1.1.1, hk_.1.1.1.1.2.1, hk_.1.1.1.1.2.2.1, hk_.1.1.1.1.2.2.2.1, hk_.1.1.1.1.2.2.2.2.1, hk_.1.1.1.1.2.2.2.2.2, hk_.1.1.1.2, hk_.1.1.2, hk_.1.2⟩)); have n2_ := Aside0.mk (Kd.R_mono (ok' := fun k_ => some k_ ≠ (.slice Ao42 t668.length co42 : Value).ownBlock ∧ some k_ ≠ (.slice Ao28 t653.length co28 : Value).ownBlock ∧ some k_ ≠ (.slice Ao35 t661.length co35 : Value).ownBlock ∧ some k_ ≠ (.slice Ao39 t664.length co39 : Value).ownBlock ∧ some k_ ≠ (.slice Ao45 t671.length co45 : Value).ownBlock ∧ some k_ ≠ (.slice Ao50 t674.length co50 : Value).ownBlock ∧ some k_ ≠ (.slice Ao81 t680.length co81 : Value).ownBlock ∧ some k_ ≠ (.slice Ao82 t683.length co82 : Value).ownBlock ∧ some k_ ≠ (.slice Ao85 t687.length co85 : Value).ownBlock) (Kd.R_keptB (HO_661001.out) hkp (fun k_ hk_ hs_ => Or.elim hs_ (fun e_ => (hk_.1.1.1.2.2.1) e_) (fun e_ => (hk_.1.1.1.2.2.2.1) e_))) (fun k_ hk_ => ⟨hk_.1.1.1.1.1, hk_.1.1.1.1.2.1, hk_.1.1.1.1.2.2.1, hk_.1.1.1.1.2.2.2.1, hk_.1.1.1.1.2.2.2.2.1, hk_.1.1.1.1.2.2.2.2.2, hk_.1.1.1.2, hk_.1.1.2, hk_.1.2⟩)); have n3_ := Aside0.mk (Kd.R_reok rfl hy0 (fun k_ e_ => HO_668000.out.1 k_ e_)); have n4_ := Aside0.mk (Kd.R_reok rfl hy1 (fun k_ e_ => HO_668001.out.1 k_ e_)); have n5_ := Aside0.mk (Kd.R_mono (ok' := fun k_ => some k_ ≠ (.slice Ao42 t668.length co42 : Value).ownBlock ∧ some k_ ≠ (.slice Ao28 t653.length co28 : Value).ownBlock ∧ some k_ ≠ (.slice Ao31 t656.length co31 : Value).ownBlock ∧ some k_ ≠ (.slice Ao35 t661.length co35 : Value).ownBlock ∧ some k_ ≠ (.slice Ao39 t664.length co39 : Value).ownBlock ∧ some k_ ≠ (.slice Ao50 t674.length co50 : Value).ownBlock ∧ some k_ ≠ (.slice Ao81 t680.length co81 : Value).ownBlock ∧ some k_ ≠ (.slice Ao82 t683.length co82 : Value).ownBlock ∧ some k_ ≠ (.slice Ao85 t687.length co85 : Value).ownBlock) (Kd.R_keptB (HO_679000.out) hkp (fun k_ hk_ hs_ => Or.elim hs_ (fun e_ => (hk_.1.1.1.2.2.2.1) e_) (fun e_ => (hk_.1.1.1.2.2.2.2.1) e_))) (fun k_ hk_ => ⟨hk_.1.1.1.1.1, hk_.1.1.1.1.2.1, hk_.1.1.1.1.2.2.1, hk_.1.1.1.1.2.2.2.1, hk_.1.1.1.1.2.2.2.2.1, hk_.1.1.1.1.2.2.2.2.2, hk_.1.1.1.2, hk_.1.1.2, hk_.1.2⟩)); have n6_ := Aside0.mk (Kd.R_mono (ok' := fun k_ => some k_ ≠ (.slice Ao42 t668.length co42 : Value).ownBlock ∧ some k_ ≠ (.slice Ao28 t653.length co28 : Value).ownBlock ∧ some k_ ≠ (.slice Ao31 t656.length co31 : Value).ownBlock ∧ some k_ ≠ (.slice Ao35 t661.length co35 : Value).ownBlock ∧ some k_ ≠ (.slice Ao39 t664.length co39 : Value).ownBlock ∧ some k_ ≠ (.slice Ao45 t671.length co45 : Value).ownBlock ∧ some k_ ≠ (.slice Ao81 t680.length co81 : Value).ownBlock ∧ some k_ ≠ (.slice Ao82 t683.length co82 : Value).ownBlock ∧ some k_ ≠ (.slice Ao85 t687.length co85 : Value).ownBlock) (Kd.R_keptB (HO_679001.out) hkp (fun k_ hk_ hs_ => Or.elim hs_ (fun e_ => (hk_.1.1.1.2.2.2.1) e_) (fun e_ => (hk_.1.1.1.2.2.2.2.1) e_))) (fun k_ hk_ => ⟨hk_.1.1.1.1.1, hk_.1.1.1.1.2.1, hk_.1.1.1.1.2.2.1, hk_.1.1.1.1.2.2.2.1, hk_.1.1.1.1.2.2.2.2.1, hk_.1.1.1.1.2.2.2.2.2, hk_.1.1.1.2, hk_.1.1.2, hk_.1.2⟩)); have n7_ := Aside0.mk (blk_kept (BK642.out) hkp (fun hs_ => Or.elim hs_ (fun e_ => (fun e_ => (Kd.R_ne HO_668000.out BK642.out (by decide)) e_) e_) (fun e_ => (fun e_ => (Kd.R_ne HO_668001.out BK642.out (by decide)) e_) e_))); have n8_ := Aside0.mk (blk_kept (BK660.out) hkp (fun hs_ => Or.elim hs_ (fun e_ => (fun e_ => (Kd.R_ne HO_668000.out BK660.out (by decide)) e_) e_) (fun e_ => (fun e_ => (Kd.R_ne HO_668001.out BK660.out (by decide)) e_) e_))); have n9_ := Aside0.mk (blk_kept (BK667.out) hkp (fun hs_ => Or.elim hs_ (fun e_ => (fun e_ => (Kd.R_ne HO_668000.out BK667.out (by decide)) e_) e_) (fun e_ => (fun e_ => (Kd.R_ne HO_668001.out BK667.out (by decide)) e_) e_))); have n10_ := Aside0.mk (blk_kept (BK678.out) hkp (fun hs_ => Or.elim hs_ (fun e_ => (fun e_ => (Kd.R_ne HO_668000.out BK678.out (by decide)) e_) e_) (fun e_ => (fun e_ => (Kd.R_ne HO_668001.out BK678.out (by decide)) e_) e_))); have n11_ := Aside0.mk (Kd.R_mono (ok' := fun k_ => some k_ ≠ (.slice Ao42 t668.length co42 : Value).ownBlock ∧ some k_ ≠ (.slice Ao28 t653.length co28 : Value).ownBlock ∧ some k_ ≠ (.slice Ao31 t656.length co31 : Value).ownBlock ∧ some k_ ≠ (.slice Ao35 t661.length co35 : Value).ownBlock ∧ some k_ ≠ (.slice Ao39 t664.length co39 : Value).ownBlock ∧ some k_ ≠ (.slice Ao45 t671.length co45 : Value).ownBlock ∧ some k_ ≠ (.slice Ao50 t674.length co50 : Value).ownBlock ∧ some k_ ≠ (.slice Ao82 t683.length co82 : Value).ownBlock ∧ some k_ ≠ (.slice Ao85 t687.length co85 : Value).ownBlock) (Kd.R_keptB (HO682.out) hkp (fun k_ hk_ hs_ => Or.elim hs_ (fun e_ => (hk_.1.1.1.1.2) e_) (fun e_ => (hk_.1.1.1.2) e_))) (fun k_ hk_ => ⟨hk_.1.1.1.1.1.1.1.1.2, hk_.1.1.1.1.1.1.1.2, hk_.1.1.1.1.1.1.2, hk_.1.1.1.1.1.2, hk_.1.1.1.1.2, hk_.1.1.1.2, hk_.1.1.2, hk_.1.1.1.1.1.1.1.1.1, hk_.1.2⟩)); have n12_ := Aside0.mk (Kd.R_mono (ok' := fun k_ => some k_ ≠ (.slice Ao42 t668.length co42 : Value).ownBlock ∧ some k_ ≠ (.slice Ao28 t653.length co28 : Value).ownBlock ∧ some k_ ≠ (.slice Ao31 t656.length co31 : Value).ownBlock ∧ some k_ ≠ (.slice Ao35 t661.length co35 : Value).ownBlock ∧ some k_ ≠ (.slice Ao39 t664.length co39 : Value).ownBlock ∧ some k_ ≠ (.slice Ao45 t671.length co45 : Value).ownBlock ∧ some k_ ≠ (.slice Ao50 t674.length co50 : Value).ownBlock ∧ some k_ ≠ (.slice Ao81 t680.length co81 : Value).ownBlock ∧ some k_ ≠ (.slice Ao85 t687.length co85 : Value).ownBlock) (Kd.R_keptB (HO685.out) hkp (fun k_ hk_ hs_ => Or.elim hs_ (fun e_ => (hk_.1.1.1.1.2) e_) (fun e_ => (hk_.1.1.1.2) e_))) (fun k_ hk_ => ⟨hk_.1.1.1.1.1.1.1.1.2, hk_.1.1.1.1.1.1.1.2, hk_.1.1.1.1.1.1.2, hk_.1.1.1.1.1.2, hk_.1.1.1.1.2, hk_.1.1.1.2, hk_.1.1.2, hk_.1.1.1.1.1.1.1.1.1, hk_.1.2⟩)); have n13_ := Aside0.mk (Kd.R_mono (ok' := fun k_ => some k_ ≠ (.slice Ao42 t668.length co42 : Value).ownBlock ∧ some k_ ≠ (.slice Ao28 t653.length co28 : Value).ownBlock ∧ some k_ ≠ (.slice Ao31 t656.length co31 : Value).ownBlock ∧ some k_ ≠ (.slice Ao35 t661.length co35 : Value).ownBlock ∧ some k_ ≠ (.slice Ao39 t664.length co39 : Value).ownBlock ∧ some k_ ≠ (.slice Ao45 t671.length co45 : Value).ownBlock ∧ some k_ ≠ (.slice Ao50 t674.length co50 : Value).ownBlock ∧ some k_ ≠ (.slice Ao81 t680.length co81 : Value).ownBlock ∧ some k_ ≠ (.slice Ao82 t683.length co82 : Value).ownBlock) (Kd.R_keptB (HO689.out) hkp (fun k_ hk_ hs_ => Or.elim hs_ (fun e_ => (hk_.1.1.1.1.1.2) e_) (fun e_ => (hk_.1.1.1.1.2) e_))) (fun k_ hk_ => ⟨hk_.1.1.1.1.1.1.1.1.1.2, hk_.1.1.1.1.1.1.1.1.2, hk_.1.1.1.1.1.1.1.2, hk_.1.1.1.1.1.1.2, hk_.1.1.1.1.1.2, hk_.1.1.1.1.2, hk_.1.1.1.2, hk_.1.1.2, hk_.1.2⟩)); have n14_ := Aside0.mk (hb); clear HO_9; clear HO_661000; clear HO_661001; clear HO_668000; clear HO_668001; clear HO_679000; clear HO_679001; clear BK642; clear BK660; clear BK667; clear BK678; clear HO682; clear HO685; clear HO689; clear HB; have HO_9 := n0_; have HO_661000 := n1_; have HO_661001 := n2_; have HO_668000 := n3_; have HO_668001 := n4_; have HO_679000 := n5_; have HO_679001 := n6_; have BK642 := n7_; have BK660 := n8_; have BK667 := n9_; have BK678 := n10_; have HO682 := n11_; have HO685 := n12_; have HO689 := n13_; have HB := n14_; clear n0_ n1_ n2_ n3_ n4_ n5_ n6_ n7_ n8_ n9_ n10_ n11_ n12_ n13_ n14_; (try clear hb); (try clear hkp); (try clear hy0); (try clear hy1)) | ((with_reducible refine gate_callee (f := 25) rfl ?_); refine goesL_ (some 67) rfl rfl Try.func25 (by kernel_rfl) rfl #[.slice Ao42 t668.length co42, .int .i64 t691] rfl (by (try simp only [List.map_toArray, List.map_cons, List.map_nil]); first | done | rfl | (simp only [List.length_drop, List.length_take]; rfl)) ?_; (with_reducible refine (laws_markIntS.calls kj15 (fun k_ => some k_ = (.slice Ao42 t668.length co42 : Value).ownBlock) (.slice Ao42 t668.length co42) t668 t691 t694 t695 w _ ?side1 ?side2 A77.out).mono ?_); (case side1 => repeat (first | (with_reducible first | exact HB.out | apply below_alloc | apply pw_below_drewN | apply below_drew1 | refine below_set ?_ GE642.out | refine below_set ?_ GE660.out | refine below_set ?_ GE667.out | refine below_set ?_ GE678.out) | exact HB.out)); (case side2 => exact Kd.R_tight rfl HO_9.out); rintro e w91 ⟨rfl, hy0, hb, hkp⟩; refine ⟨_, rfl, ?_⟩; have n0_ := Aside0.mk (Kd.R_reok rfl hy0 (fun k_ e_ => HO_9.out.1 k_ e_)); have n1_ := Aside0.mk (Kd.R_mono (ok' := fun k_ => some k_ ≠ (.slice Ao42 t668.length co42 : Value).ownBlock ∧ some k_ ≠ (.slice Ao31 t656.length co31 : Value).ownBlock ∧ some k_ ≠ (.slice Ao35 t661.length co35 : Value).ownBlock ∧ some k_ ≠ (.slice Ao39 t664.length co39 : Value).ownBlock ∧ some k_ ≠ (.slice Ao45 t671.length co45 : Value).ownBlock ∧ some k_ ≠ (.slice Ao50 t674.length co50 : Value).ownBlock ∧ some k_ ≠ (.slice Ao81 t680.length co81 : Value).ownBlock ∧ some k_ ≠ (.slice Ao82 t683.length co82 : Value).ownBlock ∧ some k_ ≠ (.slice Ao85 t687.length co85 : Value).ownBlock) (Kd.R_keptB (HO_661000.out) hkp (fun k_ hk_ hs_ => (hk_.1) hs_)) (fun k_ hk_ => ⟨hk_.1.1, hk_.1.2.1, hk_.1.2.2.1, hk_.1.2.2.2.1, hk_.1.2.2.2.2.1, hk_.1.2.2.2.2.2.1, hk_.1.2.2.2.2.2.2.1, hk_.1.2.2.2.2.2.2.2.1, hk_.1.2.2.2.2.2.2.2.2⟩)); have n2_ := Aside0.mk (Kd.R_mono (ok' := fun k_ => some k_ ≠ (.slice Ao42 t668.length co42 : Value).ownBlock ∧ some k_ ≠ (.slice Ao28 t653.length co28 : Value).ownBlock ∧ some k_ ≠ (.slice Ao35 t661.length co35 : Value).ownBlock ∧ some k_ ≠ (.slice Ao39 t664.length co39 : Value).ownBlock ∧ some k_ ≠ (.slice Ao45 t671.length co45 : Value).ownBlock ∧ some k_ ≠ (.slice Ao50 t674.length co50 : Value).ownBlock ∧ some k_ ≠ (.slice Ao81 t680.length co81 : Value).ownBlock ∧ some k_ ≠ (.slice Ao82 t683.length co82 : Value).ownBlock ∧ some k_ ≠ (.slice Ao85 t687.length co85 : Value).ownBlock) (Kd.R_keptB (HO_661001.out) hkp (fun k_ hk_ hs_ => (hk_.1) hs_)) (fun k_ hk_ => ⟨hk_.1.1, hk_.1.2.1, hk_.1.2.2.1, hk_.1.2.2.2.1, hk_.1.2.2.2.2.1, hk_.1.2.2.2.2.2.1, hk_.1.2.2.2.2.2.2.1, hk_.1.2.2.2.2.2.2.2.1, hk_.1.2.2.2.2.2.2.2.2⟩)); have n3_ := Aside0.mk (Kd.R_mono (ok' := fun k_ => some k_ ≠ (.slice Ao42 t668.length co42 : Value).ownBlock ∧ some k_ ≠ (.slice Ao28 t653.length co28 : Value).ownBlock ∧ some k_ ≠ (.slice Ao31 t656.length co31 : Value).ownBlock ∧ some k_ ≠ (.slice Ao39 t664.length co39 : Value).ownBlock ∧ some k_ ≠ (.slice Ao45 t671.length co45 : Value).ownBlock ∧ some k_ ≠ (.slice Ao50 t674.length co50 : Value).ownBlock ∧ some k_ ≠ (.slice Ao81 t680.length co81 : Value).ownBlock ∧ some k_ ≠ (.slice Ao82 t683.length co82 : Value).ownBlock ∧ some k_ ≠ (.slice Ao85 t687.length co85 : Value).ownBlock) (Kd.R_keptB (HO_668000.out) hkp (fun k_ hk_ hs_ => (hk_.1.1.1.1) hs_)) (fun k_ hk_ => ⟨hk_.1.1.1.1.1, hk_.1.1.1.1.2.1, hk_.1.1.1.1.2.2.1, hk_.1.1.1.1.2.2.2.1, hk_.1.1.1.1.2.2.2.2.1, hk_.1.1.1.1.2.2.2.2.2, hk_.1.1.1.2, hk_.1.1.2, hk_.1.2⟩)); have n4_ := Aside0.mk (Kd.R_mono (ok' := fun k_ => some k_ ≠ (.slice Ao42 t668.length co42 : Value).ownBlock ∧ some k_ ≠ (.slice Ao28 t653.length co28 : Value).ownBlock ∧ some k_ ≠ (.slice Ao31 t656.length co31 : Value).ownBlock ∧ some k_ ≠ (.slice Ao35 t661.length co35 : Value).ownBlock ∧ some k_ ≠ (.slice Ao45 t671.length co45 : Value).ownBlock ∧ some k_ ≠ (.slice Ao50 t674.length co50 : Value).ownBlock ∧ some k_ ≠ (.slice Ao81 t680.length co81 : Value).ownBlock ∧ some k_ ≠ (.slice Ao82 t683.length co82 : Value).ownBlock ∧ some k_ ≠ (.slice Ao85 t687.length co85 : Value).ownBlock) (Kd.R_keptB (HO_668001.out) hkp (fun k_ hk_ hs_ => (hk_.1.1.1.1) hs_)) (fun k_ hk_ => ⟨hk_.1.1.1.1.1, hk_.1.1.1.1.2.1, hk_.1.1.1.1.2.2.1, hk_.1.1.1.1.2.2.2.1, hk_.1.1.1.1.2.2.2.2.1, hk_.1.1.1.1.2.2.2.2.2, hk_.1.1.1.2, hk_.1.1.2, hk_.1.2⟩)); have n5_ := Aside0.mk (Kd.R_mono (ok' := fun k_ => some k_ ≠ (.slice Ao42 t668.length co42 : Value).ownBlock ∧ some k_ ≠ (.slice Ao28 t653.length co28 : Value).ownBlock ∧ some k_ ≠ (.slice Ao31 t656.length co31 : Value).ownBlock ∧ some k_ ≠ (.slice Ao35 t661.length co35 : Value).ownBlock ∧ some k_ ≠ (.slice Ao39 t664.length co39 : Value).ownBlock ∧ some k_ ≠ (.slice Ao50 t674.length co50 : Value).ownBlock ∧ some k_ ≠ (.slice Ao81 t680.length co81 : Value).ownBlock ∧ some k_ ≠ (.slice Ao82 t683.length co82 : Value).ownBlock ∧ some k_ ≠ (.slice Ao85 t687.length co85 : Value).ownBlock) (Kd.R_keptB (HO_679000.out) hkp (fun k_ hk_ hs_ => (hk_.1) hs_)) (fun k_ hk_ => ⟨hk_.1.1, hk_.1.2.1, hk_.1.2.2.1, hk_.1.2.2.2.1, hk_.1.2.2.2.2.1, hk_.1.2.2.2.2.2.1, hk_.1.2.2.2.2.2.2.1, hk_.1.2.2.2.2.2.2.2.1, hk_.1.2.2.2.2.2.2.2.2⟩)); have n6_ := Aside0.mk (Kd.R_mono (ok' := fun k_ => some k_ ≠ (.slice Ao42 t668.length co42 : Value).ownBlock ∧ some k_ ≠ (.slice Ao28 t653.length co28 : Value).ownBlock ∧ some k_ ≠ (.slice Ao31 t656.length co31 : Value).ownBlock ∧ some k_ ≠ (.slice Ao35 t661.length co35 : Value).ownBlock ∧ some k_ ≠ (.slice Ao39 t664.length co39 : Value).ownBlock ∧ some k_ ≠ (.slice Ao45 t671.length co45 : Value).ownBlock ∧ some k_ ≠ (.slice Ao81 t680.length co81 : Value).ownBlock ∧ some k_ ≠ (.slice Ao82 t683.length co82 : Value).ownBlock ∧ some k_ ≠ (.slice Ao85 t687.length co85 : Value).ownBlock) (Kd.R_keptB (HO_679001.out) hkp (fun k_ hk_ hs_ => (hk_.1) hs_)) (fun k_ hk_ => ⟨hk_.1.1, hk_.1.2.1, hk_.1.2.2.1, hk_.1.2.2.2.1, hk_.1.2.2.2.2.1, hk_.1.2.2.2.2.2.1, hk_.1.2.2.2.2.2.2.1, hk_.1.2.2.2.2.2.2.2.1, hk_.1.2.2.2.2.2.2.2.2⟩)); have n7_ := Aside0.mk (blk_kept (BK642.out) hkp (fun hs_ => (fun e_ => (Kd.R_ne HO_9.out BK642.out (by decide)) e_) hs_)); have n8_ := Aside0.mk (blk_kept (BK660.out) hkp (fun hs_ => (fun e_ => (Kd.R_ne HO_9.out BK660.out (by decide)) e_) hs_)); have n9_ := Aside0.mk (blk_kept (BK667.out) hkp (fun hs_ => (fun e_ => (Kd.R_ne HO_9.out BK667.out (by decide)) e_) hs_)); have n10_ := Aside0.mk (blk_kept (BK678.out) hkp (fun hs_ => (fun e_ => (Kd.R_ne HO_9.out BK678.out (by decide)) e_) hs_)); have n11_ := Aside0.mk (Kd.R_mono (ok' := fun k_ => some k_ ≠ (.slice Ao42 t668.length co42 : Value).ownBlock ∧ some k_ ≠ (.slice Ao28 t653.length co28 : Value).ownBlock ∧ some k_ ≠ (.slice Ao31 t656.length co31 : Value).ownBlock ∧ some k_ ≠ (.slice Ao35 t661.length co35 : Value).ownBlock ∧ some k_ ≠ (.slice Ao39 t664.length co39 : Value).ownBlock ∧ some k_ ≠ (.slice Ao45 t671.length co45 : Value).ownBlock ∧ some k_ ≠ (.slice Ao50 t674.length co50 : Value).ownBlock ∧ some k_ ≠ (.slice Ao82 t683.length co82 : Value).ownBlock ∧ some k_ ≠ (.slice Ao85 t687.length co85 : Value).ownBlock) (Kd.R_keptB (HO682.out) hkp (fun k_ hk_ hs_ => (hk_.1) hs_)) (fun k_ hk_ => ⟨hk_.1.1, hk_.1.2.1, hk_.1.2.2.1, hk_.1.2.2.2.1, hk_.1.2.2.2.2.1, hk_.1.2.2.2.2.2.1, hk_.1.2.2.2.2.2.2.1, hk_.1.2.2.2.2.2.2.2.1, hk_.1.2.2.2.2.2.2.2.2⟩)); have n12_ := Aside0.mk (Kd.R_mono (ok' := fun k_ => some k_ ≠ (.slice Ao42 t668.length co42 : Value).ownBlock ∧ some k_ ≠ (.slice Ao28 t653.length co28 : Value).ownBlock ∧ some k_ ≠ (.slice Ao31 t656.length co31 : Value).ownBlock ∧ some k_ ≠ (.slice Ao35 t661.length co35 : Value).ownBlock ∧ some k_ ≠ (.slice Ao39 t664.length co39 : Value).ownBlock ∧ some k_ ≠ (.slice Ao45 t671.length co45 : Value).ownBlock ∧ some k_ ≠ (.slice Ao50 t674.length co50 : Value).ownBlock ∧ some k_ ≠ (.slice Ao81 t680.length co81 : Value).ownBlock ∧ some k_ ≠ (.slice Ao85 t687.length co85 : Value).ownBlock) (Kd.R_keptB (HO685.out) hkp (fun k_ hk_ hs_ => (hk_.1) hs_)) (fun k_ hk_ => ⟨hk_.1.1, hk_.1.2.1, hk_.1.2.2.1, hk_.1.2.2.2.1, hk_.1.2.2.2.2.1, hk_.1.2.2.2.2.2.1, hk_.1.2.2.2.2.2.2.1, hk_.1.2.2.2.2.2.2.2.1, hk_.1.2.2.2.2.2.2.2.2⟩)); have n13_ := Aside0.mk (Kd.R_mono (ok' := fun k_ => some k_ ≠ (.slice Ao42 t668.length co42 : Value).ownBlock ∧ some k_ ≠ (.slice Ao28 t653.length co28 : Value).ownBlock ∧ some k_ ≠ (.slice Ao31 t656.length co31 : Value).ownBlock ∧ some k_ ≠ (.slice Ao35 t661.length co35 : Value).ownBlock ∧ some k_ ≠ (.slice Ao39 t664.length co39 : Value).ownBlock ∧ some k_ ≠ (.slice Ao45 t671.length co45 : Value).ownBlock ∧ some k_ ≠ (.slice Ao50 t674.length co50 : Value).ownBlock ∧ some k_ ≠ (.slice Ao81 t680.length co81 : Value).ownBlock ∧ some k_ ≠ (.slice Ao82 t683.length co82 : Value).ownBlock) (Kd.R_keptB (HO689.out) hkp (fun k_ hk_ hs_ => (hk_.1) hs_)) (fun k_ hk_ => ⟨hk_.1.1, hk_.1.2.1, hk_.1.2.2.1, hk_.1.2.2.2.1, hk_.1.2.2.2.2.1, hk_.1.2.2.2.2.2.1, hk_.1.2.2.2.2.2.2.1, hk_.1.2.2.2.2.2.2.2.1, hk_.1.2.2.2.2.2.2.2.2⟩)); have n14_ := Aside0.mk (hb); clear HO_9; clear HO_661000; clear HO_661001; clear HO_668000; clear HO_668001; clear HO_679000; clear HO_679001; clear BK642; clear BK660; clear BK667; clear BK678; clear HO682; clear HO685; clear HO689; clear HB; have HO_9 := n0_; have HO_661000 := n1_; have HO_661001 := n2_; have HO_668000 := n3_; have HO_668001 := n4_; have HO_679000 := n5_; have HO_679001 := n6_; have BK642 := n7_; have BK660 := n8_; have BK667 := n9_; have BK678 := n10_; have HO682 := n11_; have HO685 := n12_; have HO689 := n13_; have HB := n14_; clear n0_ n1_ n2_ n3_ n4_ n5_ n6_ n7_ n8_ n9_ n10_ n11_ n12_ n13_ n14_; (try clear hb); (try clear hkp); (try clear hy0)))
                (try simp only [Act.put, List.setIfInBounds_toArray, List.set_cons_zero, List.set_cons_succ])
                go_cut [80] (fun v80 wc => ∃ (kq : Nat) (x80_77 : Bool), v80 = .bool x80_77 ∧ Aside0 (laws_FnExactRenameSurface.j1 kq l1 t659 x80_77 l0_0 l0_1 t653 t656 t671 t674 = some true) ∧ Aside0 (kq ≤ kj15) ∧ Aside0 (Kd.R (Kd.int .i64) 3 wc w.heap.size (fun k_ => some k_ ≠ ((.slice Ao31 t656.length co31) : Value).ownBlock ∧ some k_ ≠ ((.slice Ao35 t661.length co35) : Value).ownBlock ∧ some k_ ≠ ((.slice Ao39 t664.length co39) : Value).ownBlock ∧ some k_ ≠ ((.slice Ao45 t671.length co45) : Value).ownBlock ∧ some k_ ≠ ((.slice Ao50 t674.length co50) : Value).ownBlock) (.slice Ao28 t653.length co28) t653) ∧ Aside0 (Kd.R (Kd.int .i64) 3 wc w.heap.size (fun k_ => some k_ ≠ ((.slice Ao28 t653.length co28) : Value).ownBlock ∧ some k_ ≠ ((.slice Ao35 t661.length co35) : Value).ownBlock ∧ some k_ ≠ ((.slice Ao39 t664.length co39) : Value).ownBlock ∧ some k_ ≠ ((.slice Ao45 t671.length co45) : Value).ownBlock ∧ some k_ ≠ ((.slice Ao50 t674.length co50) : Value).ownBlock) (.slice Ao31 t656.length co31) t656) ∧ Aside0 (Kd.R (Kd.int .i64) 3 wc w.heap.size (fun k_ => some k_ ≠ ((.slice Ao28 t653.length co28) : Value).ownBlock ∧ some k_ ≠ ((.slice Ao31 t656.length co31) : Value).ownBlock ∧ some k_ ≠ ((.slice Ao39 t664.length co39) : Value).ownBlock ∧ some k_ ≠ ((.slice Ao45 t671.length co45) : Value).ownBlock ∧ some k_ ≠ ((.slice Ao50 t674.length co50) : Value).ownBlock) (.slice Ao35 t661.length co35) t692) ∧ Aside0 (Kd.R (Kd.int .i64) 3 wc w.heap.size (fun k_ => some k_ ≠ ((.slice Ao28 t653.length co28) : Value).ownBlock ∧ some k_ ≠ ((.slice Ao31 t656.length co31) : Value).ownBlock ∧ some k_ ≠ ((.slice Ao35 t661.length co35) : Value).ownBlock ∧ some k_ ≠ ((.slice Ao45 t671.length co45) : Value).ownBlock ∧ some k_ ≠ ((.slice Ao50 t674.length co50) : Value).ownBlock) (.slice Ao39 t664.length co39) t693) ∧ Aside0 (Kd.R (Kd.int .i64) 3 wc w.heap.size (fun k_ => some k_ ≠ ((.slice Ao28 t653.length co28) : Value).ownBlock ∧ some k_ ≠ ((.slice Ao31 t656.length co31) : Value).ownBlock ∧ some k_ ≠ ((.slice Ao35 t661.length co35) : Value).ownBlock ∧ some k_ ≠ ((.slice Ao39 t664.length co39) : Value).ownBlock ∧ some k_ ≠ ((.slice Ao50 t674.length co50) : Value).ownBlock) (.slice Ao45 t671.length co45) t671) ∧ Aside0 (Kd.R (Kd.int .i64) 3 wc w.heap.size (fun k_ => some k_ ≠ ((.slice Ao28 t653.length co28) : Value).ownBlock ∧ some k_ ≠ ((.slice Ao31 t656.length co31) : Value).ownBlock ∧ some k_ ≠ ((.slice Ao35 t661.length co35) : Value).ownBlock ∧ some k_ ≠ ((.slice Ao39 t664.length co39) : Value).ownBlock ∧ some k_ ≠ ((.slice Ao45 t671.length co45) : Value).ownBlock) (.slice Ao50 t674.length co50) t674) ∧ Aside0 (wc.heap[gb642]? = some (.cells #[(.slice A0_0 l0_0.length c0_0), (.slice A0_1 l0_1.length c0_1)] 24 (0, 0))) ∧ Aside0 (wc.heap[gb660]? = some (.cells #[(.slice Ao28 t653.length co28), (.slice Ao31 t656.length co31)] 27 (0, 0))) ∧ Aside0 (wc.heap[gb667]? = some (.cells #[(.slice Ao35 t661.length co35), (.slice Ao39 t664.length co39)] 27 (0, 0))) ∧ Aside0 (wc.heap[gb678]? = some (.cells #[(.slice Ao45 t671.length co45), (.slice Ao50 t674.length co50)] 27 (0, 0))) ∧ Aside0 (Below w.heap.size w wc))
                case first =>
                  have H := HC78.out
                  clear HC78
                  by_cases c92 : t694 < 0
                  · rw [if_pos c92] at H
                    have c92b0 : decide (t694 < 0) = true := decide_eq_true c92
                    clear c92
                    (first | rw [c92b0] | (simp only [i64_w, i32_w]; rw [c92b0]) | skip)
                    cases kj15 with
                    | zero => rw [laws_FnExactRenameSurface.j1] at H; exact absurd H (by simp)
                    | succ k_ => rw [laws_FnExactRenameSurface.j1, if_pos rfl] at H; exact absurd H (by simp)
                  · rw [if_neg c92] at H
                    have c92b0 : decide (t694 < 0) = false := decide_eq_false c92
                    clear c92
                    (first | rw [c92b0] | (simp only [i64_w, i32_w]; rw [c92b0]) | skip)
                    replace H := Option.bind_eq_some_iff.mp H
                    obtain ⟨t696, A930, H⟩ := H
                    replace H : (if t696 = true then (laws_FnExactRenameSurface.j1 kj15 l1 t659 (t677 != t659) l0_0 l0_1 t653 t656 t671 t674) else (laws_FnExactRenameSurface.j1 kj15 l1 t659 true l0_0 l0_1 t653 t656 t671 t674)) = some true := H
                    have A93 := Aside0.mk A930
                    clear A930
                    by_cases c94 : t696 = true
                    · subst c94
                      have H1 : (laws_FnExactRenameSurface.j1 kj15 l1 t659 (t677 != t659) l0_0 l0_1 t653 t656 t671 t674) = some true := by rw [if_pos rfl] at H; exact H
                      clear H
                      have H := H1
                      clear H1
                      have H' := Aside0.mk H
                      clear H
                      have hnb95 := NB678_642.out
                      have hnc95 := NB642_678.out
                      have hnb96 := NB678_660.out
                      have hnc96 := NB660_678.out
                      have hnb97 := NB678_667.out
                      have hnc97 := NB667_678.out
                      have hcz98_0 : w91.cell? ⟨gb678, 0, none⟩ = some (.slice Ao45 t671.length co45) := (blk_cell BK678.out 0).trans rfl
                      have hcz98_1 : w91.cell? ⟨gb678, 1, none⟩ = some (.slice Ao50 t674.length co50) := (blk_cell BK678.out 1).trans rfl
                      have hfz98_0 := blk_frozen BK678.out 0
                      have hfz98_1 := blk_frozen BK678.out 1
                      have hnb99 := NB660_642.out
                      have hnc99 := NB642_660.out
                      have hnb100 := NB660_667.out
                      have hnc100 := NB667_660.out
                      have hcz101_0 : w91.cell? ⟨gb660, 0, none⟩ = some (.slice Ao28 t653.length co28) := (blk_cell BK660.out 0).trans rfl
                      have hcz101_1 : w91.cell? ⟨gb660, 1, none⟩ = some (.slice Ao31 t656.length co31) := (blk_cell BK660.out 1).trans rfl
                      have hfz101_0 := blk_frozen BK660.out 0
                      have hfz101_1 := blk_frozen BK660.out 1
                      go_wp2_with (first | (go_at_call 19; (with_reducible refine (laws_eqSurface.calls kj15 _ _ t671 _ _ t674 _ _ t653 _ _ t656 true _ ?side1 ?side2 ?side3 ?side4 ?side5 ?side6 ?side7 ?side8 A93.out).mono ?_); (case side1 => repeat (first | exact (Kd.R_reads' HO_679000.out).2.2 | (with_reducible refine Kd.C_alloc ?_ _) | (with_reducible refine Kd.C_drewN ?_ _) | (with_reducible refine Kd.C_drew ?_))); (case side2 => exact (Kd.R_reads' HO_679000.out).2.1); (case side3 => repeat (first | exact (Kd.R_reads' HO_679001.out).2.2 | (with_reducible refine Kd.C_alloc ?_ _) | (with_reducible refine Kd.C_drewN ?_ _) | (with_reducible refine Kd.C_drew ?_))); (case side4 => exact (Kd.R_reads' HO_679001.out).2.1); (case side5 => repeat (first | exact (Kd.R_reads' HO_661000.out).2.2 | (with_reducible refine Kd.C_alloc ?_ _) | (with_reducible refine Kd.C_drewN ?_ _) | (with_reducible refine Kd.C_drew ?_))); (case side6 => exact (Kd.R_reads' HO_661000.out).2.1); (case side7 => repeat (first | exact (Kd.R_reads' HO_661001.out).2.2 | (with_reducible refine Kd.C_alloc ?_ _) | (with_reducible refine Kd.C_drewN ?_ _) | (with_reducible refine Kd.C_drew ?_))); (case side8 => exact (Kd.R_reads' HO_661001.out).2.1); rintro e w102 ⟨rfl, hb⟩; have n0_ := Aside0.mk (Kd.R_below (HO_9.out) hb); have n1_ := Aside0.mk (Kd.R_below (HO_661000.out) hb); have n2_ := Aside0.mk (Kd.R_below (HO_661001.out) hb); have n3_ := Aside0.mk (Kd.R_below (HO_668000.out) hb); have n4_ := Aside0.mk (Kd.R_below (HO_668001.out) hb); have n5_ := Aside0.mk (Kd.R_below (HO_679000.out) hb); have n6_ := Aside0.mk (Kd.R_below (HO_679001.out) hb); have n7_ := Aside0.mk (Kd.R_below (HO682.out) hb); have n8_ := Aside0.mk (Kd.R_below (HO685.out) hb); have n9_ := Aside0.mk (Kd.R_below (HO689.out) hb); have n10_ := Aside0.mk (blk_below (g := gb642) (o := .cells #[.slice A0_0 l0_0.length c0_0, .slice A0_1 l0_1.length c0_1] 24 (0, 0)) (BK642.out) hb); have n11_ := Aside0.mk (blk_below (g := gb660) (o := .cells #[.slice Ao28 t653.length co28, .slice Ao31 t656.length co31] 27 (0, 0)) (BK660.out) hb); have n12_ := Aside0.mk (blk_below (g := gb667) (o := .cells #[.slice Ao35 t661.length co35, .slice Ao39 t664.length co39] 27 (0, 0)) (BK667.out) hb); have n13_ := Aside0.mk (blk_below (g := gb678) (o := .cells #[.slice Ao45 t671.length co45, .slice Ao50 t674.length co50] 27 (0, 0)) (BK678.out) hb); have n14_ := Aside0.mk (below_step (HB.out) hb); clear HO_9; clear HO_661000; clear HO_661001; clear HO_668000; clear HO_668001; clear HO_679000; clear HO_679001; clear HO682; clear HO685; clear HO689; clear BK642; clear BK660; clear BK667; clear BK678; clear HB; have HO_9 := n0_; have HO_661000 := n1_; have HO_661001 := n2_; have HO_668000 := n3_; have HO_668001 := n4_; have HO_679000 := n5_; have HO_679001 := n6_; have HO682 := n7_; have HO685 := n8_; have HO689 := n9_; have BK642 := n10_; have BK660 := n11_; have BK667 := n12_; have BK678 := n13_; have HB := n14_; clear n0_ n1_ n2_ n3_ n4_ n5_ n6_ n7_ n8_ n9_ n10_ n11_ n12_ n13_ n14_; (try clear hb); (try clear hb2); (try clear hk); (try clear hi)))
                      go_meet
                      case rel => exact ⟨_, ((t677 != t659)), (by first | rfl | (simp; done) | (simp [*]; done)), H', ⟨by have := HJ15.out; first | omega | exact Nat.le_refl _⟩, ⟨Kd.R_mono HO_661000.out (fun _ hk => ⟨hk.2.1, ⟨hk.2.2.1, ⟨hk.2.2.2.1, ⟨hk.2.2.2.2.1, hk.2.2.2.2.2.1⟩⟩⟩⟩)⟩, ⟨Kd.R_mono HO_661001.out (fun _ hk => ⟨hk.2.1, ⟨hk.2.2.1, ⟨hk.2.2.2.1, ⟨hk.2.2.2.2.1, hk.2.2.2.2.2.1⟩⟩⟩⟩)⟩, ⟨Kd.R_mono HO_668000.out (fun _ hk => ⟨hk.2.1, ⟨hk.2.2.1, ⟨hk.2.2.2.1, ⟨hk.2.2.2.2.1, hk.2.2.2.2.2.1⟩⟩⟩⟩)⟩, ⟨Kd.R_mono HO_668001.out (fun _ hk => ⟨hk.2.1, ⟨hk.2.2.1, ⟨hk.2.2.2.1, ⟨hk.2.2.2.2.1, hk.2.2.2.2.2.1⟩⟩⟩⟩)⟩, ⟨Kd.R_mono HO_679000.out (fun _ hk => ⟨hk.2.1, ⟨hk.2.2.1, ⟨hk.2.2.2.1, ⟨hk.2.2.2.2.1, hk.2.2.2.2.2.1⟩⟩⟩⟩)⟩, ⟨Kd.R_mono HO_679001.out (fun _ hk => ⟨hk.2.1, ⟨hk.2.2.1, ⟨hk.2.2.2.1, ⟨hk.2.2.2.2.1, hk.2.2.2.2.2.1⟩⟩⟩⟩)⟩, ⟨BK642.out⟩, ⟨BK660.out⟩, ⟨BK667.out⟩, ⟨BK678.out⟩, ⟨HB.out⟩⟩
                    · replace c94 := Bool.eq_false_iff.mpr c94
                      subst c94
                      have H1 : (laws_FnExactRenameSurface.j1 kj15 l1 t659 true l0_0 l0_1 t653 t656 t671 t674) = some true := by rw [if_neg (show ¬ (false = true) by decide)] at H; exact H
                      clear H
                      have H := H1
                      clear H1
                      cases kj15 with
                      | zero => rw [laws_FnExactRenameSurface.j1] at H; exact absurd H (by simp)
                      | succ k_ => rw [laws_FnExactRenameSurface.j1, if_pos rfl] at H; exact absurd H (by simp)
                case rest =>
                  clear HC78
                  try clear c1
                  try clear c2
                  try clear p2
                  try clear c3
                  try clear c3b0
                  try clear c3b1
                  try clear c4
                  try clear c5
                  try clear c6
                  try clear c6b0
                  try clear c7
                  try clear c8
                  try clear c9
                  try clear c10
                  try clear c15
                  try clear c17
                  try clear c19
                  try clear c21
                  try clear c24
                  try clear c25
                  try clear c29
                  try clear c36
                  try clear c37
                  try clear c42
                  try clear c44
                  try clear c45
                  try clear c46
                  try clear c47
                  try clear c48
                  try clear c52
                  try clear c53
                  try clear c54
                  try clear c55
                  try clear c57
                  try clear c58
                  try clear c61
                  try clear c62
                  try clear c63
                  try clear c65
                  try clear c66
                  try clear c69
                  try clear c72
                  try clear c75
                  try clear c86
                  try clear c87
                  try clear c88
                  try clear c92
                  try clear c92b0
                  try clear c94
                  try clear c95
                  try clear c96
                  try clear c97
                  try clear c99
                  try clear c100
                  try clear c103
                  try clear c104
                  try clear c105
                  try clear c107
                  try clear c108
                  try clear hcz101_0
                  try clear hcz101_1
                  try clear hcz106_0
                  try clear hcz106_1
                  try clear hcz109_0
                  try clear hcz109_1
                  try clear hcz18_0
                  try clear hcz18_1
                  try clear hcz20_0
                  try clear hcz20_1
                  try clear hcz30_0
                  try clear hcz30_1
                  try clear hcz32_0
                  try clear hcz32_1
                  try clear hcz38_0
                  try clear hcz38_1
                  try clear hcz41_0
                  try clear hcz41_1
                  try clear hcz49_0
                  try clear hcz49_1
                  try clear hcz56_0
                  try clear hcz56_1
                  try clear hcz59_0
                  try clear hcz59_1
                  try clear hcz64_0
                  try clear hcz64_1
                  try clear hcz67_0
                  try clear hcz67_1
                  try clear hcz89_0
                  try clear hcz89_1
                  try clear hcz8_0
                  try clear hcz8_1
                  try clear hcz98_0
                  try clear hcz98_1
                  try clear hfz101_0
                  try clear hfz101_1
                  try clear hfz106_0
                  try clear hfz106_1
                  try clear hfz109_0
                  try clear hfz109_1
                  try clear hfz18_0
                  try clear hfz18_1
                  try clear hfz20_0
                  try clear hfz20_1
                  try clear hfz30_0
                  try clear hfz30_1
                  try clear hfz32_0
                  try clear hfz32_1
                  try clear hfz38_0
                  try clear hfz38_1
                  try clear hfz41_0
                  try clear hfz41_1
                  try clear hfz49_0
                  try clear hfz49_1
                  try clear hfz56_0
                  try clear hfz56_1
                  try clear hfz59_0
                  try clear hfz59_1
                  try clear hfz64_0
                  try clear hfz64_1
                  try clear hfz67_0
                  try clear hfz67_1
                  try clear hfz89_0
                  try clear hfz89_1
                  try clear hfz8_0
                  try clear hfz8_1
                  try clear hfz98_0
                  try clear hfz98_1
                  try clear p2
                  obtain ⟨kq, x80_77, rfl, HA, HJ77, HO_661000, HO_661001, HO_668000, HO_668001, HO_679000, HO_679001, BK642, BK660, BK667, BK678, HB⟩ := hcut
                  have hl668000_77 := (Kd.R_reads' HO_668000.out).1
                  rw [hl668000_77] at HO_668000
                  (try simp only [hl668000_77])
                  (try simp only [hl668000_77] at BK642)
                  (try simp only [hl668000_77] at BK660)
                  (try simp only [hl668000_77] at BK667)
                  (try simp only [hl668000_77] at BK678)
                  (try simp only [hl668000_77] at HO_661000)
                  (try simp only [hl668000_77] at HO_661001)
                  (try simp only [hl668000_77] at HO_668001)
                  (try simp only [hl668000_77] at HO_679000)
                  (try simp only [hl668000_77] at HO_679001)
                  have hl668001_77 := (Kd.R_reads' HO_668001.out).1
                  rw [hl668001_77] at HO_668001
                  (try simp only [hl668001_77])
                  (try simp only [hl668001_77] at BK642)
                  (try simp only [hl668001_77] at BK660)
                  (try simp only [hl668001_77] at BK667)
                  (try simp only [hl668001_77] at BK678)
                  (try simp only [hl668001_77] at HO_661000)
                  (try simp only [hl668001_77] at HO_661001)
                  (try simp only [hl668001_77] at HO_668000)
                  (try simp only [hl668001_77] at HO_679000)
                  (try simp only [hl668001_77] at HO_679001)
                  cases kq with
                  | zero => exact absurd HA.out (by simp [laws_FnExactRenameSurface.j1])
                  | succ kj77 =>
                    have H := HA.out
                    clear HA
                    simp only [laws_FnExactRenameSurface.j1] at H
                    by_cases c111 : x80_77 = true
                    · subst c111
                      have H1 : (some false) = some true := by rw [if_pos rfl] at H; exact H
                      clear H
                      have H := H1
                      clear H1
                      exact absurd H (by simp)
                    · replace c111 := Bool.eq_false_iff.mpr c111
                      subst c111
                      have H1 : ((laws_markSurface.f kj77 t671 t674 1).bind fun bt697 => ((laws_heldSurface.f kj77 bt697.2.1 bt697.2.2 1).bind fun t700 => (if t700 < 0 then (some false) else (if t700 = bt697.1 then ((laws_toSurface.f kj77 l0_0 l0_1).bind fun bt701 => ((laws_toIntS.f kj77 l1).bind fun t707 => ((impl_RenameSurface.f kj77 bt701.1 bt701.2 t707).bind fun bt710 => ((laws_eqSurface.f kj77 bt710.1 bt710.2.1 t653 t656).bind fun t718 => (if t718 = true then (laws_FnExactRenameSurface.j2 kj77 bt697.1 (bt710.2.2 != t659) bt697.2.1 bt697.2.2) else (laws_FnExactRenameSurface.j2 kj77 bt697.1 true bt697.2.1 bt697.2.2)))))) else (some false))))) = some true := by rw [if_neg (show ¬ (false = true) by decide)] at H; exact H
                      clear H
                      have H := H1
                      clear H1
                      replace H := Option.bind_eq_some_iff.mp H
                      obtain ⟨⟨t697, t698, t699⟩, A1120, H⟩ := H
                      replace H : ((laws_heldSurface.f kj77 t698 t699 1).bind fun t700 => (if t700 < 0 then (some false) else (if t700 = t697 then ((laws_toSurface.f kj77 l0_0 l0_1).bind fun bt701 => ((laws_toIntS.f kj77 l1).bind fun t707 => ((impl_RenameSurface.f kj77 bt701.1 bt701.2 t707).bind fun bt710 => ((laws_eqSurface.f kj77 bt710.1 bt710.2.1 t653 t656).bind fun t718 => (if t718 = true then (laws_FnExactRenameSurface.j2 kj77 t697 (bt710.2.2 != t659) t698 t699) else (laws_FnExactRenameSurface.j2 kj77 t697 true t698 t699)))))) else (some false)))) = some true := H
                      have A112 := Aside0.mk A1120
                      clear A1120
                      replace H := Option.bind_eq_some_iff.mp H
                      obtain ⟨t700, A1130, H⟩ := H
                      replace H : (if t700 < 0 then (some false) else (if t700 = t697 then ((laws_toSurface.f kj77 l0_0 l0_1).bind fun bt701 => ((laws_toIntS.f kj77 l1).bind fun t707 => ((impl_RenameSurface.f kj77 bt701.1 bt701.2 t707).bind fun bt710 => ((laws_eqSurface.f kj77 bt710.1 bt710.2.1 t653 t656).bind fun t718 => (if t718 = true then (laws_FnExactRenameSurface.j2 kj77 t697 (bt710.2.2 != t659) t698 t699) else (laws_FnExactRenameSurface.j2 kj77 t697 true t698 t699)))))) else (some false))) = some true := H
                      have A113 := Aside0.mk A1130
                      clear A1130
                      by_cases c114 : t700 < 0
                      · rw [if_pos c114] at H
                        have c114b0 : decide (t700 < 0) = true := decide_eq_true c114
                        clear c114
                        exact absurd H (by simp)
                      · rw [if_neg c114] at H
                        have c114b0 : decide (t700 < 0) = false := decide_eq_false c114
                        clear c114
                        by_cases c122 : t700 = t697
                        · rw [if_pos c122] at H
                          have c122b0 : (t700 == t697) = true := beq_iff_eq.mpr c122
                          have c122b1 : (t700 != t697) = false := bne_eq_false_iff_eq.mpr c122
                          clear c122
                          replace H := Option.bind_eq_some_iff.mp H
                          obtain ⟨⟨t701, t704⟩, A1230, H⟩ := H
                          replace H : ((laws_toIntS.f kj77 l1).bind fun t707 => ((impl_RenameSurface.f kj77 t701 t704 t707).bind fun bt710 => ((laws_eqSurface.f kj77 bt710.1 bt710.2.1 t653 t656).bind fun t718 => (if t718 = true then (laws_FnExactRenameSurface.j2 kj77 t697 (bt710.2.2 != t659) t698 t699) else (laws_FnExactRenameSurface.j2 kj77 t697 true t698 t699))))) = some true := H
                          have A123 := Aside0.mk A1230
                          clear A1230
                          replace H := Option.bind_eq_some_iff.mp H
                          obtain ⟨t707, A1240, H⟩ := H
                          replace H : ((impl_RenameSurface.f kj77 t701 t704 t707).bind fun bt710 => ((laws_eqSurface.f kj77 bt710.1 bt710.2.1 t653 t656).bind fun t718 => (if t718 = true then (laws_FnExactRenameSurface.j2 kj77 t697 (bt710.2.2 != t659) t698 t699) else (laws_FnExactRenameSurface.j2 kj77 t697 true t698 t699)))) = some true := H
                          have A124 := Aside0.mk A1240
                          clear A1240
                          replace H := Option.bind_eq_some_iff.mp H
                          obtain ⟨⟨t710, t713, t716⟩, A1250, H⟩ := H
                          replace H : ((laws_eqSurface.f kj77 t710 t713 t653 t656).bind fun t718 => (if t718 = true then (laws_FnExactRenameSurface.j2 kj77 t697 (t716 != t659) t698 t699) else (laws_FnExactRenameSurface.j2 kj77 t697 true t698 t699))) = some true := H
                          have A125 := Aside0.mk A1250
                          clear A1250
                          have HC126 := Aside0.mk H
                          clear H
                          have hnb127 := NB678_642.out
                          have hnc127 := NB642_678.out
                          have hnb128 := NB678_660.out
                          have hnc128 := NB660_678.out
                          have hnb129 := NB678_667.out
                          have hnc129 := NB667_678.out
                          have hcz130_0 : wc.cell? ⟨gb678, 0, none⟩ = some (.slice Ao45 t671.length co45) := (blk_cell BK678.out 0).trans rfl
                          have hcz130_1 : wc.cell? ⟨gb678, 1, none⟩ = some (.slice Ao50 t674.length co50) := (blk_cell BK678.out 1).trans rfl
                          have hfz130_0 := blk_frozen BK678.out 0
                          have hfz130_1 := blk_frozen BK678.out 1
                          go_upto_region 31 with (first | ((with_reducible refine gate_callee (f := 42) rfl ?_); refine goesL_ (some 83) rfl rfl Try.func42 (by kernel_rfl) rfl #[.agg #[.slice Ao45 t671.length co45, .slice Ao50 t674.length co50], .int .i64 1] rfl (by (try simp only [List.map_toArray, List.map_cons, List.map_nil]); first | done | rfl | (simp only [List.length_drop, List.length_take]; rfl)) ?_; (with_reducible refine (laws_markSurface.calls kj77 (fun k_ => some k_ = (.slice Ao45 t671.length co45 : Value).ownBlock) (.slice Ao45 t671.length co45) t671 (fun k_ => some k_ = (.slice Ao50 t674.length co50 : Value).ownBlock) (.slice Ao50 t674.length co50) t674 1 t697 t698 t699 w _ ?side1 ?side2 ?side3 ?side4 ?side5 A112.out).mono ?_); (case side1 => repeat (first | (with_reducible first | exact HB.out | apply below_alloc | apply pw_below_drewN | apply below_drew1 | refine below_set ?_ GE642.out | refine below_set ?_ GE660.out | refine below_set ?_ GE667.out | refine below_set ?_ GE678.out) | exact HB.out)); (case side2 => exact Kd.R_tight rfl HO_679000.out); (case side3 => exact fun k_ e_ => (HO_679000.out.1 k_ e_.symm).2.2.2.2); (case side4 => exact Kd.R_tight rfl HO_679001.out); (case side5 => exact fun k_ e_ => (HO_679001.out.1 k_ e_.symm).2.2.2.2); rintro e w131 ⟨rfl, hy0, hy1, hb, hkp⟩; refine ⟨_, rfl, ?_⟩; have n0_ := Aside0.mk (Kd.R_mono (ok' := fun k_ => some k_ ≠ (.slice Ao31 t656.length co31 : Value).ownBlock ∧ some k_ ≠ (.slice Ao35 t692.length co35 : Value).ownBlock ∧ some k_ ≠ (.slice Ao39 t693.length co39 : Value).ownBlock ∧ some k_ ≠ (.slice Ao45 t671.length co45 : Value).ownBlock ∧ some k_ ≠ (.slice Ao50 t674.length co50 : Value).ownBlock) (Kd.R_keptB (HO_661000.out) hkp (fun k_ hk_ hs_ => Or.elim hs_ (fun e_ => (hk_.2.2.2.1) e_) (fun e_ => (hk_.2.2.2.2) e_))) (fun k_ hk_ => ⟨hk_.1.1, hk_.1.2.1, hk_.1.2.2.1, hk_.1.2.2.2.1, hk_.1.2.2.2.2⟩)); have n1_ := Aside0.mk (Kd.R_mono (ok' := fun k_ => some k_ ≠ (.slice Ao28 t653.length co28 : Value).ownBlock ∧ some k_ ≠ (.slice Ao35 t692.length co35 : Value).ownBlock ∧ some k_ ≠ (.slice Ao39 t693.length co39 : Value).ownBlock ∧ some k_ ≠ (.slice Ao45 t671.length co45 : Value).ownBlock ∧ some k_ ≠ (.slice Ao50 t674.length co50 : Value).ownBlock) (Kd.R_keptB (HO_661001.out) hkp (fun k_ hk_ hs_ => Or.elim hs_ (fun e_ => (hk_.2.2.2.1) e_) (fun e_ => (hk_.2.2.2.2) e_))) (fun k_ hk_ => ⟨hk_.1.1, hk_.1.2.1, hk_.1.2.2.1, hk_.1.2.2.2.1, hk_.1.2.2.2.2⟩)); have n2_ := Aside0.mk (Kd.R_mono (ok' := fun k_ => some k_ ≠ (.slice Ao28 t653.length co28 : Value).ownBlock ∧ some k_ ≠ (.slice Ao31 t656.length co31 : Value).ownBlock ∧ some k_ ≠ (.slice Ao39 t693.length co39 : Value).ownBlock ∧ some k_ ≠ (.slice Ao45 t671.length co45 : Value).ownBlock ∧ some k_ ≠ (.slice Ao50 t674.length co50 : Value).ownBlock) (Kd.R_keptB (HO_668000.out) hkp (fun k_ hk_ hs_ => Or.elim hs_ (fun e_ => (hk_.2.2.2.1) e_) (fun e_ => (hk_.2.2.2.2) e_))) (fun k_ hk_ => ⟨hk_.1.1, hk_.1.2.1, hk_.1.2.2.1, hk_.1.2.2.2.1, hk_.1.2.2.2.2⟩)); have n3_ := Aside0.mk (Kd.R_mono (ok' := fun k_ => some k_ ≠ (.slice Ao28 t653.length co28 : Value).ownBlock ∧ some k_ ≠ (.slice Ao31 t656.length co31 : Value).ownBlock ∧ some k_ ≠ (.slice Ao35 t692.length co35 : Value).ownBlock ∧ some k_ ≠ (.slice Ao45 t671.length co45 : Value).ownBlock ∧ some k_ ≠ (.slice Ao50 t674.length co50 : Value).ownBlock) (Kd.R_keptB (HO_668001.out) hkp (fun k_ hk_ hs_ => Or.elim hs_ (fun e_ => (hk_.2.2.2.1) e_) (fun e_ => (hk_.2.2.2.2) e_))) (fun k_ hk_ => ⟨hk_.1.1, hk_.1.2.1, hk_.1.2.2.1, hk_.1.2.2.2.1, hk_.1.2.2.2.2⟩)); have n4_ := Aside0.mk (Kd.R_reok rfl hy0 (fun k_ e_ => HO_679000.out.1 k_ e_)); have n5_ := Aside0.mk (Kd.R_reok rfl hy1 (fun k_ e_ => HO_679001.out.1 k_ e_)); have n6_ := Aside0.mk (blk_kept (BK642.out) hkp (fun hs_ => Or.elim hs_ (fun e_ => (fun e_ => (Kd.R_ne HO_679000.out BK642.out (by decide)) e_) e_) (fun e_ => (fun e_ => (Kd.R_ne HO_679001.out BK642.out (by decide)) e_) e_))); have n7_ := Aside0.mk (blk_kept (BK660.out) hkp (fun hs_ => Or.elim hs_ (fun e_ => (fun e_ => (Kd.R_ne HO_679000.out BK660.out (by decide)) e_) e_) (fun e_ => (fun e_ => (Kd.R_ne HO_679001.out BK660.out (by decide)) e_) e_))); have n8_ := Aside0.mk (blk_kept (BK667.out) hkp (fun hs_ => Or.elim hs_ (fun e_ => (fun e_ => (Kd.R_ne HO_679000.out BK667.out (by decide)) e_) e_) (fun e_ => (fun e_ => (Kd.R_ne HO_679001.out BK667.out (by decide)) e_) e_))); have n9_ := Aside0.mk (blk_kept (BK678.out) hkp (fun hs_ => Or.elim hs_ (fun e_ => (fun e_ => (Kd.R_ne HO_679000.out BK678.out (by decide)) e_) e_) (fun e_ => (fun e_ => (Kd.R_ne HO_679001.out BK678.out (by decide)) e_) e_))); have n10_ := Aside0.mk (hb); clear HO_661000; clear HO_661001; clear HO_668000; clear HO_668001; clear HO_679000; clear HO_679001; clear BK642; clear BK660; clear BK667; clear BK678; clear HB; have HO_661000 := n0_; have HO_661001 := n1_; have HO_668000 := n2_; have HO_668001 := n3_; have HO_679000 := n4_; have HO_679001 := n5_; have BK642 := n6_; have BK660 := n7_; have BK667 := n8_; have BK678 := n9_; have HB := n10_; clear n0_ n1_ n2_ n3_ n4_ n5_ n6_ n7_ n8_ n9_ n10_; (try clear hb); (try clear hkp); (try clear hy0); (try clear hy1); have hcz132_0 : w131.cell? ⟨gb678, 0, none⟩ = some (.slice Ao45 t671.length co45) := (blk_cell BK678.out 0).trans rfl; have hcz132_1 : w131.cell? ⟨gb678, 1, none⟩ = some (.slice Ao50 t674.length co50) := (blk_cell BK678.out 1).trans rfl; have hfz132_0 := blk_frozen BK678.out 0; have hfz132_1 := blk_frozen BK678.out 1) | ((with_reducible refine gate_callee (f := 46) rfl ?_); refine goesL_ (some 86) rfl rfl Try.func46 (by kernel_rfl) rfl #[.agg #[.slice Ao45 t698.length co45, .slice Ao50 t699.length co50], .int .i64 1] rfl (by (try simp only [List.map_toArray, List.map_cons, List.map_nil]); first | done | (rw [show t698.length = t671.length from (Kd.R_reads' HO_679000.out).1.symm, show t699.length = t674.length from (Kd.R_reads' HO_679001.out).1.symm] <;> rfl) | rfl | (simp only [List.length_drop, List.length_take]; rfl)) ?_; (with_reducible refine (laws_heldSurface.calls kj77 _ _ t698 _ _ t699 1 t700 _ ?side1 ?side2 ?side3 ?side4 A113.out).mono ?_); (case side1 => repeat (first | exact (Kd.R_reads' HO_679000.out).2.2 | (with_reducible refine Kd.C_alloc ?_ _) | (with_reducible refine Kd.C_drewN ?_ _) | (with_reducible refine Kd.C_drew ?_))); (case side2 => rw [show t698.length = t671.length from (Kd.R_reads' HO_679000.out).1.symm]; exact (Kd.R_reads' HO_679000.out).2.1); (case side3 => repeat (first | exact (Kd.R_reads' HO_679001.out).2.2 | (with_reducible refine Kd.C_alloc ?_ _) | (with_reducible refine Kd.C_drewN ?_ _) | (with_reducible refine Kd.C_drew ?_))); (case side4 => rw [show t699.length = t674.length from (Kd.R_reads' HO_679001.out).1.symm]; exact (Kd.R_reads' HO_679001.out).2.1); rintro e w133 ⟨rfl, hb⟩; refine ⟨_, rfl, ?_⟩; have n0_ := Aside0.mk (Kd.R_below (HO_661000.out) hb); have n1_ := Aside0.mk (Kd.R_below (HO_661001.out) hb); have n2_ := Aside0.mk (Kd.R_below (HO_668000.out) hb); have n3_ := Aside0.mk (Kd.R_below (HO_668001.out) hb); have n4_ := Aside0.mk (Kd.R_below (HO_679000.out) hb); have n5_ := Aside0.mk (Kd.R_below (HO_679001.out) hb); have n6_ := Aside0.mk (blk_below (g := gb642) (o := .cells #[.slice A0_0 l0_0.length c0_0, .slice A0_1 l0_1.length c0_1] 24 (0, 0)) (BK642.out) hb); have n7_ := Aside0.mk (blk_below (g := gb660) (o := .cells #[.slice Ao28 t653.length co28, .slice Ao31 t656.length co31] 27 (0, 0)) (BK660.out) hb); have n8_ := Aside0.mk (blk_below (g := gb667) (o := .cells #[.slice Ao35 t692.length co35, .slice Ao39 t693.length co39] 27 (0, 0)) (BK667.out) hb); have n9_ := Aside0.mk (blk_below (g := gb678) (o := .cells #[.slice Ao45 t671.length co45, .slice Ao50 t674.length co50] 27 (0, 0)) (BK678.out) hb); have n10_ := Aside0.mk (below_step (HB.out) hb); clear HO_661000; clear HO_661001; clear HO_668000; clear HO_668001; clear HO_679000; clear HO_679001; clear BK642; clear BK660; clear BK667; clear BK678; clear HB; have HO_661000 := n0_; have HO_661001 := n1_; have HO_668000 := n2_; have HO_668001 := n3_; have HO_679000 := n4_; have HO_679001 := n5_; have BK642 := n6_; have BK660 := n7_; have BK667 := n8_; have BK678 := n9_; have HB := n10_; clear n0_ n1_ n2_ n3_ n4_ n5_ n6_ n7_ n8_ n9_ n10_; (try clear hb); (try clear hb2); (try clear hk); (try clear hi); have hnb134 := NB642_660.out; have hnc134 := NB660_642.out; have hnb135 := NB642_667.out; have hnc135 := NB667_642.out; have hcz136_0 : w133.cell? ⟨gb642, 0, none⟩ = some (.slice A0_0 l0_0.length c0_0) := (blk_cell BK642.out 0).trans rfl; have hcz136_1 : w133.cell? ⟨gb642, 1, none⟩ = some (.slice A0_1 l0_1.length c0_1) := (blk_cell BK642.out 1).trans rfl; have hfz136_0 := blk_frozen BK642.out 0; have hfz136_1 := blk_frozen BK642.out 1) | ((with_reducible refine gate_callee (f := 17) rfl ?_); refine goesL_ (some 94) rfl rfl Try.func17 (by kernel_rfl) rfl #[.agg #[.slice A0_0 l0_0.length c0_0, .slice A0_1 l0_1.length c0_1]] rfl (by (try simp only [List.map_toArray, List.map_cons, List.map_nil]); first | done | rfl | (simp only [List.length_drop, List.length_take]; rfl)) ?_; (with_reducible refine (laws_toSurface.calls kj77 _ _ l0_0 _ _ l0_1 t701 t704 _ ?side1 ?side2 ?side3 ?side4 A123.out).mono ?_); (case side1 => repeat (first | exact (Kd.C_below HR0_0.out HB.out) | (with_reducible refine Kd.C_alloc ?_ _) | (with_reducible refine Kd.C_drewN ?_ _) | (with_reducible refine Kd.C_drew ?_))); (case side2 => exact HC0_0.out); (case side3 => repeat (first | exact (Kd.C_below HR0_1.out HB.out) | (with_reducible refine Kd.C_alloc ?_ _) | (with_reducible refine Kd.C_drewN ?_ _) | (with_reducible refine Kd.C_drew ?_))); (case side4 => exact HC0_1.out); rintro e w137 ⟨v702, v705, rfl, ho0, ho1, hb⟩; refine ⟨_, rfl, ?_⟩; have n0_ := Aside0.mk (Kd.R_mono (Kd.R_told (Kd.R_told (Kd.R_old (HO_661000.out) hb) (Kd.R_base ho0)) (Kd.R_base ho1)) (fun _ h_ => h_.1)); have n1_ := Aside0.mk (Kd.R_mono (Kd.R_told (Kd.R_told (Kd.R_old (HO_661001.out) hb) (Kd.R_base ho0)) (Kd.R_base ho1)) (fun _ h_ => h_.1)); have n2_ := Aside0.mk (Kd.R_mono (Kd.R_told (Kd.R_told (Kd.R_old (HO_668000.out) hb) (Kd.R_base ho0)) (Kd.R_base ho1)) (fun _ h_ => h_.1)); have n3_ := Aside0.mk (Kd.R_mono (Kd.R_told (Kd.R_told (Kd.R_old (HO_668001.out) hb) (Kd.R_base ho0)) (Kd.R_base ho1)) (fun _ h_ => h_.1)); have n4_ := Aside0.mk (Kd.R_mono (Kd.R_told (Kd.R_told (Kd.R_old (HO_679000.out) hb) (Kd.R_base ho0)) (Kd.R_base ho1)) (fun _ h_ => h_.1)); have n5_ := Aside0.mk (Kd.R_mono (Kd.R_told (Kd.R_told (Kd.R_old (HO_679001.out) hb) (Kd.R_base ho0)) (Kd.R_base ho1)) (fun _ h_ => h_.1)); have n6_ := Aside0.mk (Kd.R_lower (Kd.R_new' (Kd.R_new' (Kd.R_new' (Kd.R_new' (Kd.R_new' (Kd.R_new' ho0 (Kd.R_lt (HO_661000.out))) (Kd.R_lt (HO_661001.out))) (Kd.R_lt (HO_668000.out))) (Kd.R_lt (HO_668001.out))) (Kd.R_lt (HO_679000.out))) (Kd.R_lt (HO_679001.out))) (below_size (HB.out))); have n7_ := Aside0.mk (Kd.R_lower (Kd.R_new' (Kd.R_new' (Kd.R_new' (Kd.R_new' (Kd.R_new' (Kd.R_new' ho1 (Kd.R_lt (HO_661000.out))) (Kd.R_lt (HO_661001.out))) (Kd.R_lt (HO_668000.out))) (Kd.R_lt (HO_668001.out))) (Kd.R_lt (HO_679000.out))) (Kd.R_lt (HO_679001.out))) (below_size (HB.out))); have n8_ := Aside0.mk (blk_below (g := gb642) (o := .cells #[.slice A0_0 l0_0.length c0_0, .slice A0_1 l0_1.length c0_1] 24 (0, 0)) (BK642.out) hb); have n9_ := Aside0.mk (blk_below (g := gb660) (o := .cells #[.slice Ao28 t653.length co28, .slice Ao31 t656.length co31] 27 (0, 0)) (BK660.out) hb); have n10_ := Aside0.mk (blk_below (g := gb667) (o := .cells #[.slice Ao35 t692.length co35, .slice Ao39 t693.length co39] 27 (0, 0)) (BK667.out) hb); have n11_ := Aside0.mk (blk_below (g := gb678) (o := .cells #[.slice Ao45 t671.length co45, .slice Ao50 t674.length co50] 27 (0, 0)) (BK678.out) hb); have n12_ := Aside0.mk (below_step (HB.out) hb); clear HO_661000; clear HO_661001; clear HO_668000; clear HO_668001; clear HO_679000; clear HO_679001; clear BK642; clear BK660; clear BK667; clear BK678; clear HB; have HO_661000 := n0_; have HO_661001 := n1_; have HO_668000 := n2_; have HO_668001 := n3_; have HO_679000 := n4_; have HO_679001 := n5_; have HO703 := n6_; have HO706 := n7_; have BK642 := n8_; have BK660 := n9_; have BK667 := n10_; have BK678 := n11_; have HB := n12_; clear n0_ n1_ n2_ n3_ n4_ n5_ n6_ n7_ n8_ n9_ n10_ n11_ n12_; (try clear hb); (try clear hb2); (try clear hk); (try clear hi); (try clear ho0); (try clear ho1)) | ((with_reducible refine gate_callee (f := 21) rfl ?_); refine goesL_ (some 96) rfl rfl Try.func21 (by kernel_rfl) rfl #[.slice A1 l1.length c1] rfl (by (try simp only [List.map_toArray, List.map_cons, List.map_nil]); first | done | rfl | (simp only [List.length_drop, List.length_take]; rfl)) ?_; (with_reducible refine (laws_toIntS.calls kj77 _ _ l1 t707 _ ?side1 ?side2 A124.out).mono ?_); (case side1 => repeat (first | exact (Kd.C_below HR1.out HB.out) | (with_reducible refine Kd.C_alloc ?_ _) | (with_reducible refine Kd.C_drewN ?_ _) | (with_reducible refine Kd.C_drew ?_))); (case side2 => exact HC1.out); rintro e w138 ⟨v708, rfl, ho0, hb⟩; refine ⟨_, rfl, ?_⟩; have n0_ := Aside0.mk (Kd.R_elder' (HO_661000.out) (Kd.R_base ho0) hb); have n1_ := Aside0.mk (Kd.R_elder' (HO_661001.out) (Kd.R_base ho0) hb); have n2_ := Aside0.mk (Kd.R_elder' (HO_668000.out) (Kd.R_base ho0) hb); have n3_ := Aside0.mk (Kd.R_elder' (HO_668001.out) (Kd.R_base ho0) hb); have n4_ := Aside0.mk (Kd.R_elder' (HO_679000.out) (Kd.R_base ho0) hb); have n5_ := Aside0.mk (Kd.R_elder' (HO_679001.out) (Kd.R_base ho0) hb); have n6_ := Aside0.mk (Kd.R_elder' (HO703.out) (Kd.R_base ho0) hb); have n7_ := Aside0.mk (Kd.R_elder' (HO706.out) (Kd.R_base ho0) hb); have n8_ := Aside0.mk (Kd.R_lower (Kd.R_new' (Kd.R_new' (Kd.R_new' (Kd.R_new' (Kd.R_new' (Kd.R_new' (Kd.R_new' (Kd.R_new' ho0 (Kd.R_lt (HO_661000.out))) (Kd.R_lt (HO_661001.out))) (Kd.R_lt (HO_668000.out))) (Kd.R_lt (HO_668001.out))) (Kd.R_lt (HO_679000.out))) (Kd.R_lt (HO_679001.out))) (Kd.R_lt (HO703.out))) (Kd.R_lt (HO706.out))) (below_size (HB.out))); have n9_ := Aside0.mk (blk_below (g := gb642) (o := .cells #[.slice A0_0 l0_0.length c0_0, .slice A0_1 l0_1.length c0_1] 24 (0, 0)) (BK642.out) hb); have n10_ := Aside0.mk (blk_below (g := gb660) (o := .cells #[.slice Ao28 t653.length co28, .slice Ao31 t656.length co31] 27 (0, 0)) (BK660.out) hb); have n11_ := Aside0.mk (blk_below (g := gb667) (o := .cells #[.slice Ao35 t692.length co35, .slice Ao39 t693.length co39] 27 (0, 0)) (BK667.out) hb); have n12_ := Aside0.mk (blk_below (g := gb678) (o := .cells #[.slice Ao45 t671.length co45, .slice Ao50 t674.length co50] 27 (0, 0)) (BK678.out) hb); have n13_ := Aside0.mk (below_step (HB.out) hb); clear HO_661000; clear HO_661001; clear HO_668000; clear HO_668001; clear HO_679000; clear HO_679001; clear HO703; clear HO706; clear BK642; clear BK660; clear BK667; clear BK678; clear HB; have HO_661000 := n0_; have HO_661001 := n1_; have HO_668000 := n2_; have HO_668001 := n3_; have HO_679000 := n4_; have HO_679001 := n5_; have HO703 := n6_; have HO706 := n7_; have HO709 := n8_; have BK642 := n9_; have BK660 := n10_; have BK667 := n11_; have BK678 := n12_; have HB := n13_; clear n0_ n1_ n2_ n3_ n4_ n5_ n6_ n7_ n8_ n9_ n10_ n11_ n12_ n13_; (try clear hb); (try clear hb2); (try clear hk); (try clear hi); (try clear ho0); obtain ⟨Ao139, co139, eo139⟩ := Kd.R_slice HO703.out; subst eo139; obtain ⟨Ao140, co140, eo140⟩ := Kd.R_slice HO706.out; subst eo140; obtain ⟨Ao141, co141, eo141⟩ := Kd.R_slice HO709.out; subst eo141) | ((with_reducible refine gate_callee (f := 45) rfl ?_); refine goesL_ (some 97) rfl rfl Try.func45 (by kernel_rfl) rfl #[.agg #[.slice Ao139 t701.length co139, .slice Ao140 t704.length co140], .slice Ao141 t707.length co141] rfl (by (try simp only [List.map_toArray, List.map_cons, List.map_nil]); first | done | rfl | (simp only [List.length_drop, List.length_take]; rfl)) ?_; (with_reducible refine (impl_RenameSurface.calls kj77 _ _ t701 _ _ t704 _ _ t707 t710 t713 t716 _ ?side1 ?side2 ?side3 ?side4 ?side5 ?side6 A125.out).mono ?_); (case side1 => repeat (first | exact (Kd.R_reads' HO703.out).2.2 | (with_reducible refine Kd.C_alloc ?_ _) | (with_reducible refine Kd.C_drewN ?_ _) | (with_reducible refine Kd.C_drew ?_))); (case side2 => exact (Kd.R_reads' HO703.out).2.1); (case side3 => repeat (first | exact (Kd.R_reads' HO706.out).2.2 | (with_reducible refine Kd.C_alloc ?_ _) | (with_reducible refine Kd.C_drewN ?_ _) | (with_reducible refine Kd.C_drew ?_))); (case side4 => exact (Kd.R_reads' HO706.out).2.1); (case side5 => repeat (first | exact (Kd.R_reads' HO709.out).2.2 | (with_reducible refine Kd.C_alloc ?_ _) | (with_reducible refine Kd.C_drewN ?_ _) | (with_reducible refine Kd.C_drew ?_))); (case side6 => exact (Kd.R_reads' HO709.out).2.1); rintro e w142 ⟨v711, v714, rfl, ho0, ho1, hb⟩; refine ⟨_, rfl, ?_⟩; have n0_ := Aside0.mk (Kd.R_mono (Kd.R_told (Kd.R_told (Kd.R_old (HO_661000.out) hb) (Kd.R_base ho0)) (Kd.R_base ho1)) (fun _ h_ => h_.1)); have n1_ := Aside0.mk (Kd.R_mono (Kd.R_told (Kd.R_told (Kd.R_old (HO_661001.out) hb) (Kd.R_base ho0)) (Kd.R_base ho1)) (fun _ h_ => h_.1)); have n2_ := Aside0.mk (Kd.R_mono (Kd.R_told (Kd.R_told (Kd.R_old (HO_668000.out) hb) (Kd.R_base ho0)) (Kd.R_base ho1)) (fun _ h_ => h_.1)); have n3_ := Aside0.mk (Kd.R_mono (Kd.R_told (Kd.R_told (Kd.R_old (HO_668001.out) hb) (Kd.R_base ho0)) (Kd.R_base ho1)) (fun _ h_ => h_.1)); have n4_ := Aside0.mk (Kd.R_mono (Kd.R_told (Kd.R_told (Kd.R_old (HO_679000.out) hb) (Kd.R_base ho0)) (Kd.R_base ho1)) (fun _ h_ => h_.1)); have n5_ := Aside0.mk (Kd.R_mono (Kd.R_told (Kd.R_told (Kd.R_old (HO_679001.out) hb) (Kd.R_base ho0)) (Kd.R_base ho1)) (fun _ h_ => h_.1)); have n6_ := Aside0.mk (Kd.R_mono (Kd.R_told (Kd.R_told (Kd.R_old (HO703.out) hb) (Kd.R_base ho0)) (Kd.R_base ho1)) (fun _ h_ => h_.1)); have n7_ := Aside0.mk (Kd.R_mono (Kd.R_told (Kd.R_told (Kd.R_old (HO706.out) hb) (Kd.R_base ho0)) (Kd.R_base ho1)) (fun _ h_ => h_.1)); have n8_ := Aside0.mk (Kd.R_mono (Kd.R_told (Kd.R_told (Kd.R_old (HO709.out) hb) (Kd.R_base ho0)) (Kd.R_base ho1)) (fun _ h_ => h_.1)); have n9_ := Aside0.mk (Kd.R_lower (Kd.R_new' (Kd.R_new' (Kd.R_new' (Kd.R_new' (Kd.R_new' (Kd.R_new' (Kd.R_new' (Kd.R_new' (Kd.R_new' ho0 (Kd.R_lt (HO_661000.out))) (Kd.R_lt (HO_661001.out))) (Kd.R_lt (HO_668000.out))) (Kd.R_lt (HO_668001.out))) (Kd.R_lt (HO_679000.out))) (Kd.R_lt (HO_679001.out))) (Kd.R_lt (HO703.out))) (Kd.R_lt (HO706.out))) (Kd.R_lt (HO709.out))) (below_size (HB.out))); have n10_ := Aside0.mk (Kd.R_lower (Kd.R_new' (Kd.R_new' (Kd.R_new' (Kd.R_new' (Kd.R_new' (Kd.R_new' (Kd.R_new' (Kd.R_new' (Kd.R_new' ho1 (Kd.R_lt (HO_661000.out))) (Kd.R_lt (HO_661001.out))) (Kd.R_lt (HO_668000.out))) (Kd.R_lt (HO_668001.out))) (Kd.R_lt (HO_679000.out))) (Kd.R_lt (HO_679001.out))) (Kd.R_lt (HO703.out))) (Kd.R_lt (HO706.out))) (Kd.R_lt (HO709.out))) (below_size (HB.out))); have n11_ := Aside0.mk (blk_below (g := gb642) (o := .cells #[.slice A0_0 l0_0.length c0_0, .slice A0_1 l0_1.length c0_1] 24 (0, 0)) (BK642.out) hb); have n12_ := Aside0.mk (blk_below (g := gb660) (o := .cells #[.slice Ao28 t653.length co28, .slice Ao31 t656.length co31] 27 (0, 0)) (BK660.out) hb); have n13_ := Aside0.mk (blk_below (g := gb667) (o := .cells #[.slice Ao35 t692.length co35, .slice Ao39 t693.length co39] 27 (0, 0)) (BK667.out) hb); have n14_ := Aside0.mk (blk_below (g := gb678) (o := .cells #[.slice Ao45 t671.length co45, .slice Ao50 t674.length co50] 27 (0, 0)) (BK678.out) hb); have n15_ := Aside0.mk (below_step (HB.out) hb); clear HO_661000; clear HO_661001; clear HO_668000; clear HO_668001; clear HO_679000; clear HO_679001; clear HO703; clear HO706; clear HO709; clear BK642; clear BK660; clear BK667; clear BK678; clear HB; have HO_661000 := n0_; have HO_661001 := n1_; have HO_668000 := n2_; have HO_668001 := n3_; have HO_679000 := n4_; have HO_679001 := n5_; have HO703 := n6_; have HO706 := n7_; have HO709 := n8_; have HO712 := n9_; have HO715 := n10_; have BK642 := n11_; have BK660 := n12_; have BK667 := n13_; have BK678 := n14_; have HB := n15_; clear n0_ n1_ n2_ n3_ n4_ n5_ n6_ n7_ n8_ n9_ n10_ n11_ n12_ n13_ n14_ n15_; (try clear hb); (try clear hb2); (try clear hk); (try clear hi); (try clear ho0); (try clear ho1)) | ((with_reducible refine gate_dst (N := 15) rfl ?_); refine box_event ?hg (N := 15) ?hd (cs := #[.slice none 0 0, .slice none 0 0]) (t := 27) ?hr ?_; (case hd => rfl); (case hg => rfl); (case hr => first | (go_simp; done) | (go_simp; rfl)); intro gb717 hg w143 hbox hb; have n0_ := Aside0.mk (Kd.R_below (HO_661000.out) hb); have n1_ := Aside0.mk (Kd.R_below (HO_661001.out) hb); have n2_ := Aside0.mk (Kd.R_below (HO_668000.out) hb); have n3_ := Aside0.mk (Kd.R_below (HO_668001.out) hb); have n4_ := Aside0.mk (Kd.R_below (HO_679000.out) hb); have n5_ := Aside0.mk (Kd.R_below (HO_679001.out) hb); have n6_ := Aside0.mk (Kd.R_below (HO703.out) hb); have n7_ := Aside0.mk (Kd.R_below (HO706.out) hb); have n8_ := Aside0.mk (Kd.R_below (HO709.out) hb); have n9_ := Aside0.mk (Kd.R_below (HO712.out) hb); have n10_ := Aside0.mk (Kd.R_below (HO715.out) hb); have n11_ := Aside0.mk (blk_below (g := gb642) (o := .cells #[.slice A0_0 l0_0.length c0_0, .slice A0_1 l0_1.length c0_1] 24 (0, 0)) (BK642.out) hb); have n12_ := Aside0.mk (blk_below (g := gb660) (o := .cells #[.slice Ao28 t653.length co28, .slice Ao31 t656.length co31] 27 (0, 0)) (BK660.out) hb); have n13_ := Aside0.mk (blk_below (g := gb667) (o := .cells #[.slice Ao35 t692.length co35, .slice Ao39 t693.length co39] 27 (0, 0)) (BK667.out) hb); have n14_ := Aside0.mk (blk_below (g := gb678) (o := .cells #[.slice Ao45 t671.length co45, .slice Ao50 t674.length co50] 27 (0, 0)) (BK678.out) hb); have n15_ := Aside0.mk (below_step (HB.out) hb); have n16_ := Aside0.mk (hbox); have n17_ := Aside0.mk ((by rw [hg]; exact (below_size (HB.out)) : w.heap.size ≤ gb717)); have n18_ := Aside0.mk ((by rw [hg]; exact (below_size (HB.out)) : w.heap.size ≤ gb717)); have n19_ := Aside0.mk ((by rw [hg]; exact Nat.ne_of_lt (blk_lt (g := gb642) (o := .cells #[.slice A0_0 l0_0.length c0_0, .slice A0_1 l0_1.length c0_1] 24 (0, 0)) (BK642.out)) : gb642 ≠ gb717)); have n20_ := Aside0.mk ((by rw [hg]; exact Nat.ne_of_gt (blk_lt (g := gb642) (o := .cells #[.slice A0_0 l0_0.length c0_0, .slice A0_1 l0_1.length c0_1] 24 (0, 0)) (BK642.out)) : gb717 ≠ gb642)); have n21_ := Aside0.mk ((by rw [hg]; exact Nat.ne_of_lt (blk_lt (g := gb660) (o := .cells #[.slice Ao28 t653.length co28, .slice Ao31 t656.length co31] 27 (0, 0)) (BK660.out)) : gb660 ≠ gb717)); have n22_ := Aside0.mk ((by rw [hg]; exact Nat.ne_of_gt (blk_lt (g := gb660) (o := .cells #[.slice Ao28 t653.length co28, .slice Ao31 t656.length co31] 27 (0, 0)) (BK660.out)) : gb717 ≠ gb660)); have n23_ := Aside0.mk ((by rw [hg]; exact Nat.ne_of_lt (blk_lt (g := gb667) (o := .cells #[.slice Ao35 t692.length co35, .slice Ao39 t693.length co39] 27 (0, 0)) (BK667.out)) : gb667 ≠ gb717)); have n24_ := Aside0.mk ((by rw [hg]; exact Nat.ne_of_gt (blk_lt (g := gb667) (o := .cells #[.slice Ao35 t692.length co35, .slice Ao39 t693.length co39] 27 (0, 0)) (BK667.out)) : gb717 ≠ gb667)); have n25_ := Aside0.mk ((by rw [hg]; exact Nat.ne_of_lt (blk_lt (g := gb678) (o := .cells #[.slice Ao45 t671.length co45, .slice Ao50 t674.length co50] 27 (0, 0)) (BK678.out)) : gb678 ≠ gb717)); have n26_ := Aside0.mk ((by rw [hg]; exact Nat.ne_of_gt (blk_lt (g := gb678) (o := .cells #[.slice Ao45 t671.length co45, .slice Ao50 t674.length co50] 27 (0, 0)) (BK678.out)) : gb717 ≠ gb678)); clear HO_661000; clear HO_661001; clear HO_668000; clear HO_668001; clear HO_679000; clear HO_679001; clear HO703; clear HO706; clear HO709; clear HO712; clear HO715; clear BK642; clear BK660; clear BK667; clear BK678; clear HB; have HO_661000 := n0_; have HO_661001 := n1_; have HO_668000 := n2_; have HO_668001 := n3_; have HO_679000 := n4_; have HO_679001 := n5_; have HO703 := n6_; have HO706 := n7_; have HO709 := n8_; have HO712 := n9_; have HO715 := n10_; have BK642 := n11_; have BK660 := n12_; have BK667 := n13_; have BK678 := n14_; have HB := n15_; have BK717 := n16_; have GW717 := n17_; have GE717 := n18_; have NB642_717 := n19_; have NB717_642 := n20_; have NB660_717 := n21_; have NB717_660 := n22_; have NB667_717 := n23_; have NB717_667 := n24_; have NB678_717 := n25_; have NB717_678 := n26_; clear n0_ n1_ n2_ n3_ n4_ n5_ n6_ n7_ n8_ n9_ n10_ n11_ n12_ n13_ n14_ n15_ n16_ n17_ n18_ n19_ n20_ n21_ n22_ n23_ n24_ n25_ n26_; clear hb hbox hg; obtain ⟨Ao144, co144, eo144⟩ := Kd.R_slice HO712.out; subst eo144; have hnb145 := NB717_642.out; have hnc145 := NB642_717.out; have hnb146 := NB717_660.out; have hnc146 := NB660_717.out; have hnb147 := NB717_667.out; have hnc147 := NB667_717.out; have hnb148 := NB717_678.out; have hnc148 := NB678_717.out; have hcz149_0 : w143.cell? ⟨gb717, 0, none⟩ = some (.slice none 0 0) := (blk_cell BK717.out 0).trans rfl; have hcz149_1 : w143.cell? ⟨gb717, 1, none⟩ = some (.slice none 0 0) := (blk_cell BK717.out 1).trans rfl; have hfz149_0 := blk_frozen BK717.out 0; have hfz149_1 := blk_frozen BK717.out 1; obtain ⟨Ao150, co150, eo150⟩ := Kd.R_slice HO715.out; subst eo150))
                          (try simp only [Act.put, List.setIfInBounds_toArray, List.set_cons_zero, List.set_cons_succ])
                          go_cut [108] (fun v108 wc => ∃ (kq : Nat) (x108_125 : Bool), v108 = .bool x108_125 ∧ Aside0 (laws_FnExactRenameSurface.j2 kq t697 x108_125 t698 t699 = some true) ∧ Aside0 (kq ≤ kj77) ∧ Aside0 (Kd.R (Kd.int .i64) 3 wc w.heap.size (fun k_ => some k_ ≠ ((.slice Ao31 t656.length co31) : Value).ownBlock ∧ some k_ ≠ ((.slice Ao35 t692.length co35) : Value).ownBlock ∧ some k_ ≠ ((.slice Ao39 t693.length co39) : Value).ownBlock ∧ some k_ ≠ ((.slice Ao45 t671.length co45) : Value).ownBlock ∧ some k_ ≠ ((.slice Ao50 t674.length co50) : Value).ownBlock ∧ some k_ ≠ ((.slice Ao144 t710.length co144) : Value).ownBlock ∧ some k_ ≠ ((.slice Ao150 t713.length co150) : Value).ownBlock) (.slice Ao28 t653.length co28) t653) ∧ Aside0 (Kd.R (Kd.int .i64) 3 wc w.heap.size (fun k_ => some k_ ≠ ((.slice Ao28 t653.length co28) : Value).ownBlock ∧ some k_ ≠ ((.slice Ao35 t692.length co35) : Value).ownBlock ∧ some k_ ≠ ((.slice Ao39 t693.length co39) : Value).ownBlock ∧ some k_ ≠ ((.slice Ao45 t671.length co45) : Value).ownBlock ∧ some k_ ≠ ((.slice Ao50 t674.length co50) : Value).ownBlock ∧ some k_ ≠ ((.slice Ao144 t710.length co144) : Value).ownBlock ∧ some k_ ≠ ((.slice Ao150 t713.length co150) : Value).ownBlock) (.slice Ao31 t656.length co31) t656) ∧ Aside0 (Kd.R (Kd.int .i64) 3 wc w.heap.size (fun k_ => some k_ ≠ ((.slice Ao28 t653.length co28) : Value).ownBlock ∧ some k_ ≠ ((.slice Ao31 t656.length co31) : Value).ownBlock ∧ some k_ ≠ ((.slice Ao39 t693.length co39) : Value).ownBlock ∧ some k_ ≠ ((.slice Ao45 t671.length co45) : Value).ownBlock ∧ some k_ ≠ ((.slice Ao50 t674.length co50) : Value).ownBlock ∧ some k_ ≠ ((.slice Ao144 t710.length co144) : Value).ownBlock ∧ some k_ ≠ ((.slice Ao150 t713.length co150) : Value).ownBlock) (.slice Ao35 t692.length co35) t692) ∧ Aside0 (Kd.R (Kd.int .i64) 3 wc w.heap.size (fun k_ => some k_ ≠ ((.slice Ao28 t653.length co28) : Value).ownBlock ∧ some k_ ≠ ((.slice Ao31 t656.length co31) : Value).ownBlock ∧ some k_ ≠ ((.slice Ao35 t692.length co35) : Value).ownBlock ∧ some k_ ≠ ((.slice Ao45 t671.length co45) : Value).ownBlock ∧ some k_ ≠ ((.slice Ao50 t674.length co50) : Value).ownBlock ∧ some k_ ≠ ((.slice Ao144 t710.length co144) : Value).ownBlock ∧ some k_ ≠ ((.slice Ao150 t713.length co150) : Value).ownBlock) (.slice Ao39 t693.length co39) t693) ∧ Aside0 (Kd.R (Kd.int .i64) 3 wc w.heap.size (fun k_ => some k_ ≠ ((.slice Ao28 t653.length co28) : Value).ownBlock ∧ some k_ ≠ ((.slice Ao31 t656.length co31) : Value).ownBlock ∧ some k_ ≠ ((.slice Ao35 t692.length co35) : Value).ownBlock ∧ some k_ ≠ ((.slice Ao39 t693.length co39) : Value).ownBlock ∧ some k_ ≠ ((.slice Ao50 t674.length co50) : Value).ownBlock ∧ some k_ ≠ ((.slice Ao144 t710.length co144) : Value).ownBlock ∧ some k_ ≠ ((.slice Ao150 t713.length co150) : Value).ownBlock) (.slice Ao45 t671.length co45) t698) ∧ Aside0 (Kd.R (Kd.int .i64) 3 wc w.heap.size (fun k_ => some k_ ≠ ((.slice Ao28 t653.length co28) : Value).ownBlock ∧ some k_ ≠ ((.slice Ao31 t656.length co31) : Value).ownBlock ∧ some k_ ≠ ((.slice Ao35 t692.length co35) : Value).ownBlock ∧ some k_ ≠ ((.slice Ao39 t693.length co39) : Value).ownBlock ∧ some k_ ≠ ((.slice Ao45 t671.length co45) : Value).ownBlock ∧ some k_ ≠ ((.slice Ao144 t710.length co144) : Value).ownBlock ∧ some k_ ≠ ((.slice Ao150 t713.length co150) : Value).ownBlock) (.slice Ao50 t674.length co50) t699) ∧ Aside0 (Kd.R (Kd.int .i64) 3 wc w.heap.size (fun k_ => some k_ ≠ ((.slice Ao28 t653.length co28) : Value).ownBlock ∧ some k_ ≠ ((.slice Ao31 t656.length co31) : Value).ownBlock ∧ some k_ ≠ ((.slice Ao35 t692.length co35) : Value).ownBlock ∧ some k_ ≠ ((.slice Ao39 t693.length co39) : Value).ownBlock ∧ some k_ ≠ ((.slice Ao45 t671.length co45) : Value).ownBlock ∧ some k_ ≠ ((.slice Ao50 t674.length co50) : Value).ownBlock ∧ some k_ ≠ ((.slice Ao150 t713.length co150) : Value).ownBlock) (.slice Ao144 t710.length co144) t710) ∧ Aside0 (Kd.R (Kd.int .i64) 3 wc w.heap.size (fun k_ => some k_ ≠ ((.slice Ao28 t653.length co28) : Value).ownBlock ∧ some k_ ≠ ((.slice Ao31 t656.length co31) : Value).ownBlock ∧ some k_ ≠ ((.slice Ao35 t692.length co35) : Value).ownBlock ∧ some k_ ≠ ((.slice Ao39 t693.length co39) : Value).ownBlock ∧ some k_ ≠ ((.slice Ao45 t671.length co45) : Value).ownBlock ∧ some k_ ≠ ((.slice Ao50 t674.length co50) : Value).ownBlock ∧ some k_ ≠ ((.slice Ao144 t710.length co144) : Value).ownBlock) (.slice Ao150 t713.length co150) t713) ∧ Aside0 (wc.heap[gb642]? = some (.cells #[(.slice A0_0 l0_0.length c0_0), (.slice A0_1 l0_1.length c0_1)] 24 (0, 0))) ∧ Aside0 (wc.heap[gb660]? = some (.cells #[(.slice Ao28 t653.length co28), (.slice Ao31 t656.length co31)] 27 (0, 0))) ∧ Aside0 (wc.heap[gb667]? = some (.cells #[(.slice Ao35 t692.length co35), (.slice Ao39 t693.length co39)] 27 (0, 0))) ∧ Aside0 (wc.heap[gb678]? = some (.cells #[(.slice Ao45 t671.length co45), (.slice Ao50 t674.length co50)] 27 (0, 0))) ∧ Aside0 (wc.heap[gb717]? = some (.cells #[(.slice Ao144 t710.length co144), (.slice Ao150 t713.length co150)] 27 (0, 0))) ∧ Aside0 (Below w.heap.size w wc))
                          case first =>
                            have H := HC126.out
                            clear HC126
                            replace H := Option.bind_eq_some_iff.mp H
                            obtain ⟨t718, A1510, H⟩ := H
                            replace H : (if t718 = true then (laws_FnExactRenameSurface.j2 kj77 t697 (t716 != t659) t698 t699) else (laws_FnExactRenameSurface.j2 kj77 t697 true t698 t699)) = some true := H
                            have A151 := Aside0.mk A1510
                            clear A1510
                            by_cases c152 : t718 = true
                            · subst c152
                              have H1 : (laws_FnExactRenameSurface.j2 kj77 t697 (t716 != t659) t698 t699) = some true := by rw [if_pos rfl] at H; exact H
                              clear H
                              have H := H1
                              clear H1
                              have H' := Aside0.mk H
                              clear H
                              have hnb153 := NB717_642.out
                              have hnc153 := NB642_717.out
                              have hnb154 := NB717_660.out
                              have hnc154 := NB660_717.out
                              have hnb155 := NB717_667.out
                              have hnc155 := NB667_717.out
                              have hnb156 := NB717_678.out
                              have hnc156 := NB678_717.out
                              have hcz157_0 : w143.cell? ⟨gb717, 0, none⟩ = some (.slice none 0 0) := (blk_cell BK717.out 0).trans rfl
                              have hcz157_1 : w143.cell? ⟨gb717, 1, none⟩ = some (.slice none 0 0) := (blk_cell BK717.out 1).trans rfl
                              have hfz157_0 := blk_frozen BK717.out 0
                              have hfz157_1 := blk_frozen BK717.out 1
                              have hnb158 := NB660_642.out
                              have hnc158 := NB642_660.out
                              have hnb159 := NB660_667.out
                              have hnc159 := NB667_660.out
                              have hnb160 := NB660_678.out
                              have hnc160 := NB678_660.out
                              have hcz161_0 : w143.cell? ⟨gb660, 0, none⟩ = some (.slice Ao28 t653.length co28) := (blk_cell BK660.out 0).trans rfl
                              have hcz161_1 : w143.cell? ⟨gb660, 1, none⟩ = some (.slice Ao31 t656.length co31) := (blk_cell BK660.out 1).trans rfl
                              have hfz161_0 := blk_frozen BK660.out 0
                              have hfz161_1 := blk_frozen BK660.out 1
                              go_wp2_with (first | ((with_reducible refine gate_callee (f := 19) rfl ?_); refine goesL_ (some 102) rfl rfl Try.func19 (by kernel_rfl) rfl #[.agg #[.slice Ao144 t710.length co144, .slice Ao150 t713.length co150], .agg #[.slice Ao28 t653.length co28, .slice Ao31 t656.length co31]] rfl (by (try simp only [List.map_toArray, List.map_cons, List.map_nil]); first | done | rfl | (simp only [List.length_drop, List.length_take]; rfl)) ?_; (with_reducible refine (laws_eqSurface.calls kj77 _ _ t710 _ _ t713 _ _ t653 _ _ t656 true _ ?side1 ?side2 ?side3 ?side4 ?side5 ?side6 ?side7 ?side8 A151.out).mono ?_); (case side1 => refine (Kd.R_reads' (e := 3) (base := w.heap.size) (ok := fun k_ => (((((((((some k_ ≠ (.slice Ao150 t713.length co150 : Value).ownBlock ∧ some k_ ≠ (.slice Ao28 t653.length co28 : Value).ownBlock) ∧ some k_ ≠ (.slice Ao31 t656.length co31 : Value).ownBlock) ∧ some k_ ≠ (.slice Ao35 t692.length co35 : Value).ownBlock) ∧ some k_ ≠ (.slice Ao39 t693.length co39 : Value).ownBlock) ∧ some k_ ≠ (.slice Ao45 t671.length co45 : Value).ownBlock) ∧ some k_ ≠ (.slice Ao50 t674.length co50 : Value).ownBlock) ∧ some k_ ≠ (.slice Ao139 t701.length co139 : Value).ownBlock) ∧ some k_ ≠ (.slice Ao140 t704.length co140 : Value).ownBlock) ∧ some k_ ≠ (.slice Ao141 t707.length co141 : Value).ownBlock)) (n := t710.length) (c := co144) ?_).2.2; exact (by (with_reducible repeat (first | apply Kd.R_alloc | apply Kd.R_drewN | apply Kd.R_drew)); exact (Kd.R_mono (Kd.R_far (p := ⟨gb717, 1, none⟩) (Kd.R_far (p := ⟨gb717, 0, none⟩) (Kd.R_types HO712.out BK717.out (by decide)) (fun _ hk => hk.2) (.slice Ao144 t710.length co144)) (fun _ hk => hk.2) (.slice Ao150 t713.length co150)) (fun _ h_ => h_.1)))); (case side2 => exact (Kd.R_reads' HO712.out).2.1); (case side3 => refine (Kd.R_reads' (e := 3) (base := w.heap.size) (ok := fun k_ => (((((((((some k_ ≠ (.slice Ao144 t710.length co144 : Value).ownBlock ∧ some k_ ≠ (.slice Ao28 t653.length co28 : Value).ownBlock) ∧ some k_ ≠ (.slice Ao31 t656.length co31 : Value).ownBlock) ∧ some k_ ≠ (.slice Ao35 t692.length co35 : Value).ownBlock) ∧ some k_ ≠ (.slice Ao39 t693.length co39 : Value).ownBlock) ∧ some k_ ≠ (.slice Ao45 t671.length co45 : Value).ownBlock) ∧ some k_ ≠ (.slice Ao50 t674.length co50 : Value).ownBlock) ∧ some k_ ≠ (.slice Ao139 t701.length co139 : Value).ownBlock) ∧ some k_ ≠ (.slice Ao140 t704.length co140 : Value).ownBlock) ∧ some k_ ≠ (.slice Ao141 t707.length co141 : Value).ownBlock)) (n := t713.length) (c := co150) ?_).2.2; exact (by (with_reducible repeat (first | apply Kd.R_alloc | apply Kd.R_drewN | apply Kd.R_drew)); exact (Kd.R_mono (Kd.R_far (p := ⟨gb717, 1, none⟩) (Kd.R_far (p := ⟨gb717, 0, none⟩) (Kd.R_types HO715.out BK717.out (by decide)) (fun _ hk => hk.2) (.slice Ao144 t710.length co144)) (fun _ hk => hk.2) (.slice Ao150 t713.length co150)) (fun _ h_ => h_.1)))); (case side4 => exact (Kd.R_reads' HO715.out).2.1); (case side5 => refine (Kd.R_reads' (e := 3) (base := w.heap.size) (ok := fun k_ => ((((((some k_ ≠ (.slice Ao31 t656.length co31 : Value).ownBlock ∧ (some k_ ≠ (.slice Ao35 t692.length co35 : Value).ownBlock ∧ (some k_ ≠ (.slice Ao39 t693.length co39 : Value).ownBlock ∧ (some k_ ≠ (.slice Ao45 t671.length co45 : Value).ownBlock ∧ some k_ ≠ (.slice Ao50 t674.length co50 : Value).ownBlock)))) ∧ some k_ ≠ (.slice Ao139 t701.length co139 : Value).ownBlock) ∧ some k_ ≠ (.slice Ao140 t704.length co140 : Value).ownBlock) ∧ some k_ ≠ (.slice Ao141 t707.length co141 : Value).ownBlock) ∧ some k_ ≠ (.slice Ao144 t710.length co144 : Value).ownBlock) ∧ some k_ ≠ (.slice Ao150 t713.length co150 : Value).ownBlock)) (n := t653.length) (c := co28) ?_).2.2; exact (by (with_reducible repeat (first | apply Kd.R_alloc | apply Kd.R_drewN | apply Kd.R_drew)); exact (Kd.R_mono (Kd.R_far (p := ⟨gb717, 1, none⟩) (Kd.R_far (p := ⟨gb717, 0, none⟩) (Kd.R_types HO_661000.out BK717.out (by decide)) (fun _ hk => hk.2) (.slice Ao144 t710.length co144)) (fun _ hk => hk.2) (.slice Ao150 t713.length co150)) (fun _ h_ => h_.1)))); (case side6 => exact (Kd.R_reads' HO_661000.out).2.1); (case side7 => refine (Kd.R_reads' (e := 3) (base := w.heap.size) (ok := fun k_ => ((((((some k_ ≠ (.slice Ao28 t653.length co28 : Value).ownBlock ∧ (some k_ ≠ (.slice Ao35 t692.length co35 : Value).ownBlock ∧ (some k_ ≠ (.slice Ao39 t693.length co39 : Value).ownBlock ∧ (some k_ ≠ (.slice Ao45 t671.length co45 : Value).ownBlock ∧ some k_ ≠ (.slice Ao50 t674.length co50 : Value).ownBlock)))) ∧ some k_ ≠ (.slice Ao139 t701.length co139 : Value).ownBlock) ∧ some k_ ≠ (.slice Ao140 t704.length co140 : Value).ownBlock) ∧ some k_ ≠ (.slice Ao141 t707.length co141 : Value).ownBlock) ∧ some k_ ≠ (.slice Ao144 t710.length co144 : Value).ownBlock) ∧ some k_ ≠ (.slice Ao150 t713.length co150 : Value).ownBlock)) (n := t656.length) (c := co31) ?_).2.2; exact (by (with_reducible repeat (first | apply Kd.R_alloc | apply Kd.R_drewN | apply Kd.R_drew)); exact (Kd.R_mono (Kd.R_far (p := ⟨gb717, 1, none⟩) (Kd.R_far (p := ⟨gb717, 0, none⟩) (Kd.R_types HO_661001.out BK717.out (by decide)) (fun _ hk => hk.2) (.slice Ao144 t710.length co144)) (fun _ hk => hk.2) (.slice Ao150 t713.length co150)) (fun _ h_ => h_.1)))); (case side8 => exact (Kd.R_reads' HO_661001.out).2.1); rintro e w162 ⟨rfl, hb⟩; refine ⟨_, rfl, ?_⟩; have n0_ := Aside0.mk (Kd.R_below (by (with_reducible repeat (first | apply Kd.R_alloc | apply Kd.R_drewN | apply Kd.R_drew)); exact (Kd.R_mono (Kd.R_far (p := ⟨gb717, 1, none⟩) (Kd.R_far (p := ⟨gb717, 0, none⟩) (Kd.R_types HO_661000.out BK717.out (by decide)) (fun _ hk => hk.2) (.slice Ao144 t710.length co144)) (fun _ hk => hk.2) (.slice Ao150 t713.length co150)) (fun _ h_ => h_.1))) hb); have n1_ := Aside0.mk (Kd.R_below (by (with_reducible repeat (first | apply Kd.R_alloc | apply Kd.R_drewN | apply Kd.R_drew)); exact (Kd.R_mono (Kd.R_far (p := ⟨gb717, 1, none⟩) (Kd.R_far (p := ⟨gb717, 0, none⟩) (Kd.R_types HO_661001.out BK717.out (by decide)) (fun _ hk => hk.2) (.slice Ao144 t710.length co144)) (fun _ hk => hk.2) (.slice Ao150 t713.length co150)) (fun _ h_ => h_.1))) hb); have n2_ := Aside0.mk (Kd.R_below (by (with_reducible repeat (first | apply Kd.R_alloc | apply Kd.R_drewN | apply Kd.R_drew)); exact (Kd.R_mono (Kd.R_far (p := ⟨gb717, 1, none⟩) (Kd.R_far (p := ⟨gb717, 0, none⟩) (Kd.R_types HO_668000.out BK717.out (by decide)) (fun _ hk => hk.2) (.slice Ao144 t710.length co144)) (fun _ hk => hk.2) (.slice Ao150 t713.length co150)) (fun _ h_ => h_.1))) hb); have n3_ := Aside0.mk (Kd.R_below (by (with_reducible repeat (first | apply Kd.R_alloc | apply Kd.R_drewN | apply Kd.R_drew)); exact (Kd.R_mono (Kd.R_far (p := ⟨gb717, 1, none⟩) (Kd.R_far (p := ⟨gb717, 0, none⟩) (Kd.R_types HO_668001.out BK717.out (by decide)) (fun _ hk => hk.2) (.slice Ao144 t710.length co144)) (fun _ hk => hk.2) (.slice Ao150 t713.length co150)) (fun _ h_ => h_.1))) hb); have n4_ := Aside0.mk (Kd.R_below (by (with_reducible repeat (first | apply Kd.R_alloc | apply Kd.R_drewN | apply Kd.R_drew)); exact (Kd.R_mono (Kd.R_far (p := ⟨gb717, 1, none⟩) (Kd.R_far (p := ⟨gb717, 0, none⟩) (Kd.R_types HO_679000.out BK717.out (by decide)) (fun _ hk => hk.2) (.slice Ao144 t710.length co144)) (fun _ hk => hk.2) (.slice Ao150 t713.length co150)) (fun _ h_ => h_.1))) hb); have n5_ := Aside0.mk (Kd.R_below (by (with_reducible repeat (first | apply Kd.R_alloc | apply Kd.R_drewN | apply Kd.R_drew)); exact (Kd.R_mono (Kd.R_far (p := ⟨gb717, 1, none⟩) (Kd.R_far (p := ⟨gb717, 0, none⟩) (Kd.R_types HO_679001.out BK717.out (by decide)) (fun _ hk => hk.2) (.slice Ao144 t710.length co144)) (fun _ hk => hk.2) (.slice Ao150 t713.length co150)) (fun _ h_ => h_.1))) hb); have n6_ := Aside0.mk (Kd.R_below (by (with_reducible repeat (first | apply Kd.R_alloc | apply Kd.R_drewN | apply Kd.R_drew)); exact (Kd.R_mono (Kd.R_far (p := ⟨gb717, 1, none⟩) (Kd.R_far (p := ⟨gb717, 0, none⟩) (Kd.R_types HO703.out BK717.out (by decide)) (fun _ hk => hk.2) (.slice Ao144 t710.length co144)) (fun _ hk => hk.2) (.slice Ao150 t713.length co150)) (fun _ h_ => h_.1))) hb); have n7_ := Aside0.mk (Kd.R_below (by (with_reducible repeat (first | apply Kd.R_alloc | apply Kd.R_drewN | apply Kd.R_drew)); exact (Kd.R_mono (Kd.R_far (p := ⟨gb717, 1, none⟩) (Kd.R_far (p := ⟨gb717, 0, none⟩) (Kd.R_types HO706.out BK717.out (by decide)) (fun _ hk => hk.2) (.slice Ao144 t710.length co144)) (fun _ hk => hk.2) (.slice Ao150 t713.length co150)) (fun _ h_ => h_.1))) hb); have n8_ := Aside0.mk (Kd.R_below (by (with_reducible repeat (first | apply Kd.R_alloc | apply Kd.R_drewN | apply Kd.R_drew)); exact (Kd.R_mono (Kd.R_far (p := ⟨gb717, 1, none⟩) (Kd.R_far (p := ⟨gb717, 0, none⟩) (Kd.R_types HO709.out BK717.out (by decide)) (fun _ hk => hk.2) (.slice Ao144 t710.length co144)) (fun _ hk => hk.2) (.slice Ao150 t713.length co150)) (fun _ h_ => h_.1))) hb); have n9_ := Aside0.mk (Kd.R_below (by (with_reducible repeat (first | apply Kd.R_alloc | apply Kd.R_drewN | apply Kd.R_drew)); exact (Kd.R_mono (Kd.R_far (p := ⟨gb717, 1, none⟩) (Kd.R_far (p := ⟨gb717, 0, none⟩) (Kd.R_types HO712.out BK717.out (by decide)) (fun _ hk => hk.2) (.slice Ao144 t710.length co144)) (fun _ hk => hk.2) (.slice Ao150 t713.length co150)) (fun _ h_ => h_.1))) hb); have n10_ := Aside0.mk (Kd.R_below (by (with_reducible repeat (first | apply Kd.R_alloc | apply Kd.R_drewN | apply Kd.R_drew)); exact (Kd.R_mono (Kd.R_far (p := ⟨gb717, 1, none⟩) (Kd.R_far (p := ⟨gb717, 0, none⟩) (Kd.R_types HO715.out BK717.out (by decide)) (fun _ hk => hk.2) (.slice Ao144 t710.length co144)) (fun _ hk => hk.2) (.slice Ao150 t713.length co150)) (fun _ h_ => h_.1))) hb); have n11_ := Aside0.mk (blk_below (g := gb642) (o := .cells #[.slice A0_0 l0_0.length c0_0, .slice A0_1 l0_1.length c0_1] 24 (0, 0)) (by (with_reducible repeat (first | refine blk_drewN ?_ _ | refine blk_drew ?_ | refine blk_alloc ?_ _)); refine blk_far ?_ NB642_717.out _; (with_reducible repeat (first | refine blk_drewN ?_ _ | refine blk_drew ?_ | refine blk_alloc ?_ _)); refine blk_far ?_ NB642_717.out _; (with_reducible repeat (first | refine blk_drewN ?_ _ | refine blk_drew ?_ | refine blk_alloc ?_ _)); exact BK642.out) hb); have n12_ := Aside0.mk (blk_below (g := gb660) (o := .cells #[.slice Ao28 t653.length co28, .slice Ao31 t656.length co31] 27 (0, 0)) (by (with_reducible repeat (first | refine blk_drewN ?_ _ | refine blk_drew ?_ | refine blk_alloc ?_ _)); refine blk_far ?_ NB660_717.out _; (with_reducible repeat (first | refine blk_drewN ?_ _ | refine blk_drew ?_ | refine blk_alloc ?_ _)); refine blk_far ?_ NB660_717.out _; (with_reducible repeat (first | refine blk_drewN ?_ _ | refine blk_drew ?_ | refine blk_alloc ?_ _)); exact BK660.out) hb); have n13_ := Aside0.mk (blk_below (g := gb667) (o := .cells #[.slice Ao35 t692.length co35, .slice Ao39 t693.length co39] 27 (0, 0)) (by (with_reducible repeat (first | refine blk_drewN ?_ _ | refine blk_drew ?_ | refine blk_alloc ?_ _)); refine blk_far ?_ NB667_717.out _; (with_reducible repeat (first | refine blk_drewN ?_ _ | refine blk_drew ?_ | refine blk_alloc ?_ _)); refine blk_far ?_ NB667_717.out _; (with_reducible repeat (first | refine blk_drewN ?_ _ | refine blk_drew ?_ | refine blk_alloc ?_ _)); exact BK667.out) hb); have n14_ := Aside0.mk (blk_below (g := gb678) (o := .cells #[.slice Ao45 t671.length co45, .slice Ao50 t674.length co50] 27 (0, 0)) (by (with_reducible repeat (first | refine blk_drewN ?_ _ | refine blk_drew ?_ | refine blk_alloc ?_ _)); refine blk_far ?_ NB678_717.out _; (with_reducible repeat (first | refine blk_drewN ?_ _ | refine blk_drew ?_ | refine blk_alloc ?_ _)); refine blk_far ?_ NB678_717.out _; (with_reducible repeat (first | refine blk_drewN ?_ _ | refine blk_drew ?_ | refine blk_alloc ?_ _)); exact BK678.out) hb); have n15_ := Aside0.mk (blk_below (g := gb717) (o := .cells #[.slice Ao144 t710.length co144, .slice Ao150 t713.length co150] 27 (0, 0)) (by (with_reducible repeat (first | refine blk_drewN ?_ _ | refine blk_drew ?_ | refine blk_alloc ?_ _)); refine blk_put (cs := #[.slice Ao144 t710.length co144, .slice none 0 0]) ?_ 1 _ rfl; (with_reducible repeat (first | refine blk_drewN ?_ _ | refine blk_drew ?_ | refine blk_alloc ?_ _)); refine blk_put (cs := #[.slice none 0 0, .slice none 0 0]) ?_ 0 _ rfl; (with_reducible repeat (first | refine blk_drewN ?_ _ | refine blk_drew ?_ | refine blk_alloc ?_ _)); exact BK717.out) hb); have n16_ := Aside0.mk (below_step (by repeat (first | (with_reducible first | exact HB.out | apply below_alloc | apply pw_below_drewN | apply below_drew1 | refine below_set ?_ GE642.out | refine below_set ?_ GE660.out | refine below_set ?_ GE667.out | refine below_set ?_ GE678.out | refine below_set ?_ GE717.out) | exact HB.out)) hb); clear HO_661000; clear HO_661001; clear HO_668000; clear HO_668001; clear HO_679000; clear HO_679001; clear HO703; clear HO706; clear HO709; clear HO712; clear HO715; clear BK642; clear BK660; clear BK667; clear BK678; clear BK717; clear HB; have HO_661000 := n0_; have HO_661001 := n1_; have HO_668000 := n2_; have HO_668001 := n3_; have HO_679000 := n4_; have HO_679001 := n5_; have HO703 := n6_; have HO706 := n7_; have HO709 := n8_; have HO712 := n9_; have HO715 := n10_; have BK642 := n11_; have BK660 := n12_; have BK667 := n13_; have BK678 := n14_; have BK717 := n15_; have HB := n16_; clear n0_ n1_ n2_ n3_ n4_ n5_ n6_ n7_ n8_ n9_ n10_ n11_ n12_ n13_ n14_ n15_ n16_; (try clear hb); (try clear hb2); (try clear hk); (try clear hi)))
                              go_meet
                              case rel => exact ⟨_, ((t716 != t659)), (by first | rfl | (simp; done) | (simp [*]; done)), H', ⟨by have := HJ15.out; have := HJ77.out; first | omega | exact Nat.le_refl _⟩, ⟨by (try simp only [hl668000_77]); (try simp only [hl668001_77]); (with_reducible repeat (first | apply Kd.R_alloc | apply Kd.R_drewN | apply Kd.R_drew)); exact Kd.R_mono HO_661000.out (fun _ hk => ⟨hk.1.1.1.1.1.1, ⟨hk.1.1.1.1.1.2.1, ⟨hk.1.1.1.1.1.2.2.1, ⟨hk.1.1.1.1.1.2.2.2.1, ⟨hk.1.1.1.1.1.2.2.2.2, ⟨hk.1.2, hk.2⟩⟩⟩⟩⟩⟩)⟩, ⟨by (try simp only [hl668000_77]); (try simp only [hl668001_77]); (with_reducible repeat (first | apply Kd.R_alloc | apply Kd.R_drewN | apply Kd.R_drew)); exact Kd.R_mono HO_661001.out (fun _ hk => ⟨hk.1.1.1.1.1.1, ⟨hk.1.1.1.1.1.2.1, ⟨hk.1.1.1.1.1.2.2.1, ⟨hk.1.1.1.1.1.2.2.2.1, ⟨hk.1.1.1.1.1.2.2.2.2, ⟨hk.1.2, hk.2⟩⟩⟩⟩⟩⟩)⟩, ⟨by (try simp only [hl668000_77]); (try simp only [hl668001_77]); (with_reducible repeat (first | apply Kd.R_alloc | apply Kd.R_drewN | apply Kd.R_drew)); exact Kd.R_mono HO_668000.out (fun _ hk => ⟨hk.1.1.1.1.1.1, ⟨hk.1.1.1.1.1.2.1, ⟨hk.1.1.1.1.1.2.2.1, ⟨hk.1.1.1.1.1.2.2.2.1, ⟨hk.1.1.1.1.1.2.2.2.2, ⟨hk.1.2, hk.2⟩⟩⟩⟩⟩⟩)⟩, ⟨by (try simp only [hl668000_77]); (try simp only [hl668001_77]); (with_reducible repeat (first | apply Kd.R_alloc | apply Kd.R_drewN | apply Kd.R_drew)); exact Kd.R_mono HO_668001.out (fun _ hk => ⟨hk.1.1.1.1.1.1, ⟨hk.1.1.1.1.1.2.1, ⟨hk.1.1.1.1.1.2.2.1, ⟨hk.1.1.1.1.1.2.2.2.1, ⟨hk.1.1.1.1.1.2.2.2.2, ⟨hk.1.2, hk.2⟩⟩⟩⟩⟩⟩)⟩, ⟨by (try simp only [hl668000_77]); (try simp only [hl668001_77]); (with_reducible repeat (first | apply Kd.R_alloc | apply Kd.R_drewN | apply Kd.R_drew)); exact Kd.R_mono HO_679000.out (fun _ hk => ⟨hk.1.1.1.1.1.1, ⟨hk.1.1.1.1.1.2.1, ⟨hk.1.1.1.1.1.2.2.1, ⟨hk.1.1.1.1.1.2.2.2.1, ⟨hk.1.1.1.1.1.2.2.2.2, ⟨hk.1.2, hk.2⟩⟩⟩⟩⟩⟩)⟩, ⟨by (try simp only [hl668000_77]); (try simp only [hl668001_77]); (with_reducible repeat (first | apply Kd.R_alloc | apply Kd.R_drewN | apply Kd.R_drew)); exact Kd.R_mono HO_679001.out (fun _ hk => ⟨hk.1.1.1.1.1.1, ⟨hk.1.1.1.1.1.2.1, ⟨hk.1.1.1.1.1.2.2.1, ⟨hk.1.1.1.1.1.2.2.2.1, ⟨hk.1.1.1.1.1.2.2.2.2, ⟨hk.1.2, hk.2⟩⟩⟩⟩⟩⟩)⟩, ⟨by (try simp only [hl668000_77]); (try simp only [hl668001_77]); (with_reducible repeat (first | apply Kd.R_alloc | apply Kd.R_drewN | apply Kd.R_drew)); exact Kd.R_mono HO712.out (fun _ hk => ⟨hk.1.1.1.1.1.1.1.1.2, ⟨hk.1.1.1.1.1.1.1.2, ⟨hk.1.1.1.1.1.1.2, ⟨hk.1.1.1.1.1.2, ⟨hk.1.1.1.1.2, ⟨hk.1.1.1.2, hk.1.1.1.1.1.1.1.1.1⟩⟩⟩⟩⟩⟩)⟩, ⟨by (try simp only [hl668000_77]); (try simp only [hl668001_77]); (with_reducible repeat (first | apply Kd.R_alloc | apply Kd.R_drewN | apply Kd.R_drew)); exact Kd.R_mono HO715.out (fun _ hk => ⟨hk.1.1.1.1.1.1.1.1.2, ⟨hk.1.1.1.1.1.1.1.2, ⟨hk.1.1.1.1.1.1.2, ⟨hk.1.1.1.1.1.2, ⟨hk.1.1.1.1.2, ⟨hk.1.1.1.2, hk.1.1.1.1.1.1.1.1.1⟩⟩⟩⟩⟩⟩)⟩, ⟨by (try simp only [hl668000_77]); (try simp only [hl668001_77]); (with_reducible repeat (first | refine blk_drewN ?_ _ | refine blk_drew ?_ | refine blk_alloc ?_ _)); exact BK642.out⟩, ⟨by (try simp only [hl668000_77]); (try simp only [hl668001_77]); (with_reducible repeat (first | refine blk_drewN ?_ _ | refine blk_drew ?_ | refine blk_alloc ?_ _)); exact BK660.out⟩, ⟨by (try simp only [hl668000_77]); (try simp only [hl668001_77]); (with_reducible repeat (first | refine blk_drewN ?_ _ | refine blk_drew ?_ | refine blk_alloc ?_ _)); exact BK667.out⟩, ⟨by (try simp only [hl668000_77]); (try simp only [hl668001_77]); (with_reducible repeat (first | refine blk_drewN ?_ _ | refine blk_drew ?_ | refine blk_alloc ?_ _)); exact BK678.out⟩, ⟨by (try simp only [hl668000_77]); (try simp only [hl668001_77]); (with_reducible repeat (first | refine blk_drewN ?_ _ | refine blk_drew ?_ | refine blk_alloc ?_ _)); exact BK717.out⟩, ⟨HB.out⟩⟩
                            · replace c152 := Bool.eq_false_iff.mpr c152
                              subst c152
                              have H1 : (laws_FnExactRenameSurface.j2 kj77 t697 true t698 t699) = some true := by rw [if_neg (show ¬ (false = true) by decide)] at H; exact H
                              clear H
                              have H := H1
                              clear H1
                              cases kj77 with
                              | zero => rw [laws_FnExactRenameSurface.j2] at H; exact absurd H (by simp)
                              | succ k_ => rw [laws_FnExactRenameSurface.j2, if_pos rfl] at H; exact absurd H (by simp)
                          case rest =>
                            clear HC126
                            try clear c1
                            try clear c2
                            try clear p2
                            try clear c3
                            try clear c3b0
                            try clear c3b1
                            try clear c4
                            try clear c5
                            try clear c6
                            try clear c6b0
                            try clear c7
                            try clear c8
                            try clear c9
                            try clear c10
                            try clear c11
                            try clear c12
                            try clear c13
                            try clear c14
                            try clear c15
                            try clear c16
                            try clear c17
                            try clear c19
                            try clear c21
                            try clear c24
                            try clear c25
                            try clear c29
                            try clear c36
                            try clear c37
                            try clear c42
                            try clear c44
                            try clear c45
                            try clear c46
                            try clear c47
                            try clear c48
                            try clear c52
                            try clear c53
                            try clear c54
                            try clear c55
                            try clear c57
                            try clear c58
                            try clear c61
                            try clear c62
                            try clear c63
                            try clear c65
                            try clear c66
                            try clear c69
                            try clear c72
                            try clear c75
                            try clear c86
                            try clear c87
                            try clear c88
                            try clear c92
                            try clear c92b0
                            try clear c94
                            try clear c95
                            try clear c96
                            try clear c97
                            try clear c99
                            try clear c100
                            try clear c103
                            try clear c104
                            try clear c105
                            try clear c107
                            try clear c108
                            try clear c111
                            try clear c114
                            try clear c114b0
                            try clear c115
                            try clear c116
                            try clear c117
                            try clear c122
                            try clear c122b0
                            try clear c122b1
                            try clear c127
                            try clear c128
                            try clear c129
                            try clear c134
                            try clear c135
                            try clear c145
                            try clear c146
                            try clear c147
                            try clear c148
                            try clear c152
                            try clear c153
                            try clear c154
                            try clear c155
                            try clear c156
                            try clear c158
                            try clear c159
                            try clear c160
                            try clear c163
                            try clear c164
                            try clear c165
                            try clear c166
                            try clear c168
                            try clear c169
                            try clear c170
                            try clear hcz101_0
                            try clear hcz101_1
                            try clear hcz106_0
                            try clear hcz106_1
                            try clear hcz109_0
                            try clear hcz109_1
                            try clear hcz118_0
                            try clear hcz118_1
                            try clear hcz120_0
                            try clear hcz120_1
                            try clear hcz130_0
                            try clear hcz130_1
                            try clear hcz132_0
                            try clear hcz132_1
                            try clear hcz136_0
                            try clear hcz136_1
                            try clear hcz149_0
                            try clear hcz149_1
                            try clear hcz157_0
                            try clear hcz157_1
                            try clear hcz161_0
                            try clear hcz161_1
                            try clear hcz167_0
                            try clear hcz167_1
                            try clear hcz171_0
                            try clear hcz171_1
                            try clear hcz18_0
                            try clear hcz18_1
                            try clear hcz20_0
                            try clear hcz20_1
                            try clear hcz30_0
                            try clear hcz30_1
                            try clear hcz32_0
                            try clear hcz32_1
                            try clear hcz38_0
                            try clear hcz38_1
                            try clear hcz41_0
                            try clear hcz41_1
                            try clear hcz49_0
                            try clear hcz49_1
                            try clear hcz56_0
                            try clear hcz56_1
                            try clear hcz59_0
                            try clear hcz59_1
                            try clear hcz64_0
                            try clear hcz64_1
                            try clear hcz67_0
                            try clear hcz67_1
                            try clear hcz89_0
                            try clear hcz89_1
                            try clear hcz8_0
                            try clear hcz8_1
                            try clear hcz98_0
                            try clear hcz98_1
                            try clear hfz101_0
                            try clear hfz101_1
                            try clear hfz106_0
                            try clear hfz106_1
                            try clear hfz109_0
                            try clear hfz109_1
                            try clear hfz118_0
                            try clear hfz118_1
                            try clear hfz120_0
                            try clear hfz120_1
                            try clear hfz130_0
                            try clear hfz130_1
                            try clear hfz132_0
                            try clear hfz132_1
                            try clear hfz136_0
                            try clear hfz136_1
                            try clear hfz149_0
                            try clear hfz149_1
                            try clear hfz157_0
                            try clear hfz157_1
                            try clear hfz161_0
                            try clear hfz161_1
                            try clear hfz167_0
                            try clear hfz167_1
                            try clear hfz171_0
                            try clear hfz171_1
                            try clear hfz18_0
                            try clear hfz18_1
                            try clear hfz20_0
                            try clear hfz20_1
                            try clear hfz30_0
                            try clear hfz30_1
                            try clear hfz32_0
                            try clear hfz32_1
                            try clear hfz38_0
                            try clear hfz38_1
                            try clear hfz41_0
                            try clear hfz41_1
                            try clear hfz49_0
                            try clear hfz49_1
                            try clear hfz56_0
                            try clear hfz56_1
                            try clear hfz59_0
                            try clear hfz59_1
                            try clear hfz64_0
                            try clear hfz64_1
                            try clear hfz67_0
                            try clear hfz67_1
                            try clear hfz89_0
                            try clear hfz89_1
                            try clear hfz8_0
                            try clear hfz8_1
                            try clear hfz98_0
                            try clear hfz98_1
                            try clear p2
                            obtain ⟨kq, x108_125, rfl, HA, HJ125, HO_661000, HO_661001, HO_668000, HO_668001, HO_679000, HO_679001, HO_718000, HO_718001, BK642, BK660, BK667, BK678, BK717, HB⟩ := hcut
                            have hl679000_125 := (Kd.R_reads' HO_679000.out).1
                            rw [hl679000_125] at HO_679000
                            (try simp only [hl679000_125])
                            (try simp only [hl679000_125] at BK642)
                            (try simp only [hl679000_125] at BK660)
                            (try simp only [hl679000_125] at BK667)
                            (try simp only [hl679000_125] at BK678)
                            (try simp only [hl679000_125] at BK717)
                            (try simp only [hl679000_125] at HO_661000)
                            (try simp only [hl679000_125] at HO_661001)
                            (try simp only [hl679000_125] at HO_668000)
                            (try simp only [hl679000_125] at HO_668001)
                            (try simp only [hl679000_125] at HO_679001)
                            (try simp only [hl679000_125] at HO_718000)
                            (try simp only [hl679000_125] at HO_718001)
                            have hl679001_125 := (Kd.R_reads' HO_679001.out).1
                            rw [hl679001_125] at HO_679001
                            (try simp only [hl679001_125])
                            (try simp only [hl679001_125] at BK642)
                            (try simp only [hl679001_125] at BK660)
                            (try simp only [hl679001_125] at BK667)
                            (try simp only [hl679001_125] at BK678)
                            (try simp only [hl679001_125] at BK717)
                            (try simp only [hl679001_125] at HO_661000)
                            (try simp only [hl679001_125] at HO_661001)
                            (try simp only [hl679001_125] at HO_668000)
                            (try simp only [hl679001_125] at HO_668001)
                            (try simp only [hl679001_125] at HO_679000)
                            (try simp only [hl679001_125] at HO_718000)
                            (try simp only [hl679001_125] at HO_718001)
                            cases kq with
                            | zero => exact absurd HA.out (by simp [laws_FnExactRenameSurface.j2])
                            | succ kj125 =>
                              have H := HA.out
                              clear HA
                              simp only [laws_FnExactRenameSurface.j2] at H
                              by_cases c173 : x108_125 = true
                              · subst c173
                                have H1 : (some false) = some true := by rw [if_pos rfl] at H; exact H
                                clear H
                                have H := H1
                                clear H1
                                exact absurd H (by simp)
                              · replace c173 := Bool.eq_false_iff.mpr c173
                                subst c173
                                have H1 : ((laws_heldSurface.f kj125 t698 t699 1).bind fun t719 => (if t719 < 0 then (some false) else (if t719 = t697 then (some true) else (some false)))) = some true := by rw [if_neg (show ¬ (false = true) by decide)] at H; exact H
                                clear H
                                have H := H1
                                clear H1
                                replace H := Option.bind_eq_some_iff.mp H
                                obtain ⟨t719, A1740, H⟩ := H
                                replace H : (if t719 < 0 then (some false) else (if t719 = t697 then (some true) else (some false))) = some true := H
                                have A174 := Aside0.mk A1740
                                clear A1740
                                by_cases c175 : t719 < 0
                                · rw [if_pos c175] at H
                                  have c175b0 : decide (t719 < 0) = true := decide_eq_true c175
                                  clear c175
                                  exact absurd H (by simp)
                                · rw [if_neg c175] at H
                                  have c175b0 : decide (t719 < 0) = false := decide_eq_false c175
                                  clear c175
                                  by_cases c182 : t719 = t697
                                  · rw [if_pos c182] at H
                                    have c182b0 : (t719 == t697) = true := beq_iff_eq.mpr c182
                                    have c182b1 : (t719 != t697) = false := bne_eq_false_iff_eq.mpr c182
                                    clear c182
                                    have hnb183 := NB678_642.out
                                    have hnc183 := NB642_678.out
                                    have hnb184 := NB678_660.out
                                    have hnc184 := NB660_678.out
                                    have hnb185 := NB678_667.out
                                    have hnc185 := NB667_678.out
                                    have hnb186 := NB678_717.out
                                    have hnc186 := NB717_678.out
                                    have hcz187_0 : wc.cell? ⟨gb678, 0, none⟩ = some (.slice Ao45 t698.length co45) := (blk_cell BK678.out 0).trans rfl
                                    have hcz187_1 : wc.cell? ⟨gb678, 1, none⟩ = some (.slice Ao50 t699.length co50) := (blk_cell BK678.out 1).trans rfl
                                    have hfz187_0 := blk_frozen BK678.out 0
                                    have hfz187_1 := blk_frozen BK678.out 1
                                    go_wp2_with (first | ((with_reducible refine gate_callee (f := 46) rfl ?_); refine goesL_ (some 111) rfl rfl Try.func46 (by kernel_rfl) rfl #[.agg #[.slice Ao45 t698.length co45, .slice Ao50 t699.length co50], .int .i64 1] rfl (by (try simp only [List.map_toArray, List.map_cons, List.map_nil]); first | done | rfl | (simp only [List.length_drop, List.length_take]; rfl)) ?_; (with_reducible refine (laws_heldSurface.calls kj125 _ _ t698 _ _ t699 1 t719 _ ?side1 ?side2 ?side3 ?side4 A174.out).mono ?_); (case side1 => repeat (first | exact (Kd.R_reads' HO_679000.out).2.2 | (with_reducible refine Kd.C_alloc ?_ _) | (with_reducible refine Kd.C_drewN ?_ _) | (with_reducible refine Kd.C_drew ?_))); (case side2 => exact (Kd.R_reads' HO_679000.out).2.1); (case side3 => repeat (first | exact (Kd.R_reads' HO_679001.out).2.2 | (with_reducible refine Kd.C_alloc ?_ _) | (with_reducible refine Kd.C_drewN ?_ _) | (with_reducible refine Kd.C_drew ?_))); (case side4 => exact (Kd.R_reads' HO_679001.out).2.1); rintro e w188 ⟨rfl, hb⟩; refine ⟨_, rfl, ?_⟩; have n0_ := Aside0.mk (Kd.R_below (HO_661000.out) hb); have n1_ := Aside0.mk (Kd.R_below (HO_661001.out) hb); have n2_ := Aside0.mk (Kd.R_below (HO_668000.out) hb); have n3_ := Aside0.mk (Kd.R_below (HO_668001.out) hb); have n4_ := Aside0.mk (Kd.R_below (HO_679000.out) hb); have n5_ := Aside0.mk (Kd.R_below (HO_679001.out) hb); have n6_ := Aside0.mk (Kd.R_below (HO_718000.out) hb); have n7_ := Aside0.mk (Kd.R_below (HO_718001.out) hb); have n8_ := Aside0.mk (blk_below (g := gb642) (o := .cells #[.slice A0_0 l0_0.length c0_0, .slice A0_1 l0_1.length c0_1] 24 (0, 0)) (BK642.out) hb); have n9_ := Aside0.mk (blk_below (g := gb660) (o := .cells #[.slice Ao28 t653.length co28, .slice Ao31 t656.length co31] 27 (0, 0)) (BK660.out) hb); have n10_ := Aside0.mk (blk_below (g := gb667) (o := .cells #[.slice Ao35 t692.length co35, .slice Ao39 t693.length co39] 27 (0, 0)) (BK667.out) hb); have n11_ := Aside0.mk (blk_below (g := gb678) (o := .cells #[.slice Ao45 t698.length co45, .slice Ao50 t699.length co50] 27 (0, 0)) (BK678.out) hb); have n12_ := Aside0.mk (blk_below (g := gb717) (o := .cells #[.slice Ao144 t710.length co144, .slice Ao150 t713.length co150] 27 (0, 0)) (BK717.out) hb); have n13_ := Aside0.mk (below_step (HB.out) hb); clear HO_661000; clear HO_661001; clear HO_668000; clear HO_668001; clear HO_679000; clear HO_679001; clear HO_718000; clear HO_718001; clear BK642; clear BK660; clear BK667; clear BK678; clear BK717; clear HB; have HO_661000 := n0_; have HO_661001 := n1_; have HO_668000 := n2_; have HO_668001 := n3_; have HO_679000 := n4_; have HO_679001 := n5_; have HO_718000 := n6_; have HO_718001 := n7_; have BK642 := n8_; have BK660 := n9_; have BK667 := n10_; have BK678 := n11_; have BK717 := n12_; have HB := n13_; clear n0_ n1_ n2_ n3_ n4_ n5_ n6_ n7_ n8_ n9_ n10_ n11_ n12_ n13_; (try clear hb); (try clear hb2); (try clear hk); (try clear hi)))
                                    go_ret
                                    exact ⟨by first | rfl | (simp [errW_none, errW_some] <;> rfl) | (simp [*, errW_none, errW_some] <;> rfl), HB.out⟩
                                  · rw [if_neg c182] at H
                                    have c182b0 : (t719 == t697) = false := beq_eq_false_iff_ne.mpr c182
                                    have c182b1 : (t719 != t697) = true := bne_iff_ne.mpr c182
                                    exact absurd H (by simp)
                        · rw [if_neg c122] at H
                          have c122b0 : (t700 == t697) = false := beq_eq_false_iff_ne.mpr c122
                          have c122b1 : (t700 != t697) = true := bne_iff_ne.mpr c122
                          exact absurd H (by simp)
              · replace c75 := Bool.eq_false_iff.mpr c75
                subst c75
                have H1 : (some false) = some true := by rw [if_neg (show ¬ (false = true) by decide)] at H; exact H
                clear H
                have H := H1
                clear H1
                exact absurd H (by simp)
            · replace c72 := Bool.eq_false_iff.mpr c72
              subst c72
              have H1 : (some false) = some true := by rw [if_neg (show ¬ (false = true) by decide)] at H; exact H
              clear H
              have H := H1
              clear H1
              exact absurd H (by simp)

/-- The pure statement of laws_FnExactRenameSurface. -/
def laws_FnExactRenameSurface.Pure : Prop := ∀ (l0_0 : List Int) (l0_1 : List Int) (l1 : List Int), l0_0.length ≤ maxLen → (∀ x ∈ l0_0, (Lit.int .i64 x).wf = true) → l0_1.length ≤ maxLen → (∀ x ∈ l0_1, (Lit.int .i64 x).wf = true) → l1.length ≤ maxLen → l1.length * 8 ≤ 140737488351232 → (∀ x ∈ l1, (Lit.int .i64 x).wf = true) → ∃ k, laws_FnExactRenameSurface.f k l0_0 l0_1 l1 = some true
theorem laws_FnExactRenameSurface.walk (P : laws_FnExactRenameSurface.Pure) (a0_0 : Option Addr) (len0_0 cap0_0 : Nat) (z0_0 : List Int) (a0_1 : Option Addr) (len0_1 cap0_1 : Nat) (z0_1 : List Int) (a1 : Option Addr) (len1 cap1 : Nat) (z1 : List Int) (w : World) (w0_0 : ((a0_0 = none ∧ len0_0 = 0 ∧ cap0_0 = 0 ∧ z0_0 = []) ∨ ∃ x, a0_0 = some x ∧ len0_0 ≤ cap0_0 ∧ cap0_0 ≤ maxLen ∧ z0_0.length = cap0_0 ∧ (∀ i, i < z0_0.length → w.cell? (x.add i) = some (.int .i64 (z0_0.getD i 0))) ∧ ∀ n ∈ z0_0, (Lit.int .i64 n).wf = true)) (w0_1 : ((a0_1 = none ∧ len0_1 = 0 ∧ cap0_1 = 0 ∧ z0_1 = []) ∨ ∃ x, a0_1 = some x ∧ len0_1 ≤ cap0_1 ∧ cap0_1 ≤ maxLen ∧ z0_1.length = cap0_1 ∧ (∀ i, i < z0_1.length → w.cell? (x.add i) = some (.int .i64 (z0_1.getD i 0))) ∧ ∀ n ∈ z0_1, (Lit.int .i64 n).wf = true)) (w1 : ((a1 = none ∧ len1 = 0 ∧ cap1 = 0 ∧ z1 = []) ∨ ∃ x, a1 = some x ∧ len1 ≤ cap1 ∧ cap1 ≤ maxLen ∧ z1.length = cap1 ∧ (∀ i, i < z1.length → w.cell? (x.add i) = some (.int .i64 (z1.getD i 0))) ∧ ∀ n ∈ z1, (Lit.int .i64 n).wf = true)) (y1 : len1 * 8 ≤ 140737488351232) :
    Calls Try.prog 9 #[.agg #[.slice a0_0 len0_0 cap0_0, .slice a0_1 len0_1 cap0_1], .slice a1 len1 cap1] w fun e w' => e = .returned (.bool true) ∧ Below w.heap.size w w' := by
  obtain ⟨l0_0, rfl, hr0_0, hm0_0, hw0_0, hc0_0⟩ := ReadsInt.ofRowC w0_0
  obtain ⟨l0_1, rfl, hr0_1, hm0_1, hw0_1, hc0_1⟩ := ReadsInt.ofRowC w0_1
  obtain ⟨l1, rfl, hr1, hm1, hw1, hc1⟩ := ReadsInt.ofRowC w1
  obtain ⟨k, h⟩ := P l0_0 l0_1 l1 hm0_0 hw0_0 hm0_1 hw0_1 hm1 y1 hw1
  refine (laws_FnExactRenameSurface.calls_true k _ _ l0_0 _ _ l0_1 _ _ l1 w (Kd.C_of_reads (d := (0 : Int)) (h1 := fun _ => rfl) hr0_0) hc0_0 (Kd.C_of_reads (d := (0 : Int)) (h1 := fun _ => rfl) hr0_1) hc0_1 (Kd.C_of_reads (d := (0 : Int)) (h1 := fun _ => rfl) hr1) hc1 h).mono ?_
  rintro e w' ⟨rfl, hd⟩
  exact ⟨rfl, hd⟩

end Go.Proofs.Ytlohmpgbjgidpac.P
