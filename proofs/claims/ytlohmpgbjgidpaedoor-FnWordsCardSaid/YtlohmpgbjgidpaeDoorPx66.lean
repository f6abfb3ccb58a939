-- MADE by this project's printer (wip/mk) out of the translation; Lean checks it.
import Derived.Test.YtlohmpgbjgidpaeDoorPx0
import Derived.Test.YtlohmpgbjgidpaeDoorPx4
import Derived.Test.YtlohmpgbjgidpaeDoorPx19
import Derived.Test.YtlohmpgbjgidpaeDoorPx33
import Derived.Test.YtlohmpgbjgidpaeDoorPx36
import Derived.Test.YtlohmpgbjgidpaeDoorPx45
import Derived.Test.YtlohmpgbjgidpaeDoorPx49
import Derived.Test.YtlohmpgbjgidpaeDoorPx50
import Derived.Test.YtlohmpgbjgidpaeDoorPx65
namespace Go.Proofs.YtlohmpgbjgidpaeDoor.P
open Go.RowKit Go.Proofs.YtlohmpgbjgidpaeDoorW.PrintWords Go.Proofs.YtlohmpgbjgidpaeDoorW.PrintLast Go.Proofs.YtlohmpgbjgidpaeDoorW.PrintMore
attribute [local go_sem] max2_int min2_int max_two min_two max_three min_three max_four min_four   -- for this text's walks alone
set_option linter.unusedVariables false
set_option linter.unusedSimpArgs false

/-! ### laws_FnWords: function 3 -/
def laws_FnWords.f (k : Nat) (l0 : List Int) : Option (Bool) := if (l0.length : Int) > 1048576 then (some true) else ((spec_MakeNum.f k l0 1).bind fun t211 => ((impl_FormatInt.f (wrap64 (t211 - 30000))).bind fun t212 => ((impl_ParseInt.f t212).bind fun bt213 => ((spec_MakeText.f k l0).bind fun t215 => (if bt213.2 = true then (if bt213.1 = (wrap64 (t211 - 30000)) then ((impl_SplitAny.f k t215 (⟨#[32]⟩ : ByteArray)).bind fun t216 => ((impl_Join.f t216 (⟨#[32]⟩ : ByteArray)).bind fun t219 => (if t219.toList = t215.toList then ((impl_IsName.f k (⟨#[120, 49]⟩ : ByteArray)).bind fun t220 => (if t220 = true then ((impl_SplitLines.f (⟨#[97, 10, 98, 10]⟩ : ByteArray)).bind fun t221 => (some ((t221.length : Int) == 2))) else (some false))) else (some false)))) else (some false)) else (some false))))))
theorem laws_FnWords.mono : ∀ a0 k, LeO (laws_FnWords.f k a0) (laws_FnWords.f (k + 1) a0) := by
  intro a0 k
  unfold laws_FnWords.f
  repeat' first
      | (with_reducible exact impl_IsName.mono _ _)
      | (with_reducible exact impl_SplitAny.mono _ _ _)
      | (with_reducible exact spec_MakeNum.mono _ _ _)
      | (with_reducible exact spec_MakeText.mono _ _)
      | (with_reducible exact LeO.refl _)
      | (with_reducible exact LeO.none _)
      | (with_reducible refine LeO.ite ?_ ?_)
      | (with_reducible refine LeO.bind ?_ (fun _ => ?_))
      | exact impl_IsName.mono _ _
      | exact impl_SplitAny.mono _ _ _
      | exact spec_MakeNum.mono _ _ _
      | exact spec_MakeText.mono _ _
      | exact LeO.none _
      | refine LeO.ite ?_ ?_
      | refine LeO.bind ?_ (fun _ => ?_)
set_option maxHeartbeats 8000000 in
set_option maxRecDepth 100000 in
theorem laws_FnWords.calls_true (k : Nat) (A0 : Option Addr) (c0 : Nat) (l0 : List Int) (w : World) (hr0 : Kd.C (Kd.int .u8) w A0 l0.length l0) (hc0 : l0.length ≤ c0) (h : laws_FnWords.f k l0 = some true) (hmax : maxAt w) (htab : tabAt w) (herr : errAt w) :
    Calls Tryd.prog 3 #[.slice A0 l0.length c0] w fun e w' => e = .returned (.bool true) ∧ Below w.heap.size w w' := by
  have HR0 := Aside0.mk hr0
  have HC0 := Aside0.mk hc0
  clear hr0 hc0
  have HB := Aside0.mk (Below.refl w.heap.size w)
  have H : (if (l0.length : Int) > 1048576 then (some true) else ((spec_MakeNum.f k l0 1).bind fun t211 => ((impl_FormatInt.f (wrap64 (t211 - 30000))).bind fun t212 => ((impl_ParseInt.f t212).bind fun bt213 => ((spec_MakeText.f k l0).bind fun t215 => (if bt213.2 = true then (if bt213.1 = (wrap64 (t211 - 30000)) then ((impl_SplitAny.f k t215 (⟨#[32]⟩ : ByteArray)).bind fun t216 => ((impl_Join.f t216 (⟨#[32]⟩ : ByteArray)).bind fun t219 => (if t219.toList = t215.toList then ((impl_IsName.f k (⟨#[120, 49]⟩ : ByteArray)).bind fun t220 => (if t220 = true then ((impl_SplitLines.f (⟨#[97, 10, 98, 10]⟩ : ByteArray)).bind fun t221 => (some ((t221.length : Int) == 2))) else (some false))) else (some false)))) else (some false)) else (some false))))))) = some true := h
  clear h
  by_cases c2 : (l0.length : Int) > 1048576
  · rw [if_pos c2] at H
    have c2b0 : decide (1048576 < (l0.length : Int)) = true := decide_eq_true c2
    have c2b1 : decide (1048576 < l0.length) = true := decide_eq_true (by omega)
    clear c2
    go_enter Tryd.func3, Tryd.ntmps3
    go_wp2
    go_ret
    exact ⟨by first | rfl | (simp [errW_none, errW_some] <;> rfl) | (simp [*, errW_none, errW_some] <;> rfl), by repeat (first | (with_reducible first | exact HB.out | apply below_alloc | apply pw_below_drewN | apply below_drew1) | exact HB.out)⟩
  · rw [if_neg c2] at H
    have c2b0 : decide (1048576 < (l0.length : Int)) = false := decide_eq_false c2
    have c2b1 : decide (1048576 < l0.length) = false := decide_eq_false (by omega)
    clear c2
    replace H := Option.bind_eq_some_iff.mp H
    obtain ⟨t211, A30, H⟩ := H
    replace H : ((impl_FormatInt.f (wrap64 (t211 - 30000))).bind fun t212 => ((impl_ParseInt.f t212).bind fun bt213 => ((spec_MakeText.f k l0).bind fun t215 => (if bt213.2 = true then (if bt213.1 = (wrap64 (t211 - 30000)) then ((impl_SplitAny.f k t215 (⟨#[32]⟩ : ByteArray)).bind fun t216 => ((impl_Join.f t216 (⟨#[32]⟩ : ByteArray)).bind fun t219 => (if t219.toList = t215.toList then ((impl_IsName.f k (⟨#[120, 49]⟩ : ByteArray)).bind fun t220 => (if t220 = true then ((impl_SplitLines.f (⟨#[97, 10, 98, 10]⟩ : ByteArray)).bind fun t221 => (some ((t221.length : Int) == 2))) else (some false))) else (some false)))) else (some false)) else (some false))))) = some true := H
    have A3 := Aside0.mk A30
    clear A30
    replace H := Option.bind_eq_some_iff.mp H
    obtain ⟨t212, A40, H⟩ := H
    replace H : ((impl_ParseInt.f t212).bind fun bt213 => ((spec_MakeText.f k l0).bind fun t215 => (if bt213.2 = true then (if bt213.1 = (wrap64 (t211 - 30000)) then ((impl_SplitAny.f k t215 (⟨#[32]⟩ : ByteArray)).bind fun t216 => ((impl_Join.f t216 (⟨#[32]⟩ : ByteArray)).bind fun t219 => (if t219.toList = t215.toList then ((impl_IsName.f k (⟨#[120, 49]⟩ : ByteArray)).bind fun t220 => (if t220 = true then ((impl_SplitLines.f (⟨#[97, 10, 98, 10]⟩ : ByteArray)).bind fun t221 => (some ((t221.length : Int) == 2))) else (some false))) else (some false)))) else (some false)) else (some false)))) = some true := H
    have A4 := Aside0.mk A40
    clear A40
    replace H := Option.bind_eq_some_iff.mp H
    obtain ⟨⟨t213, t214⟩, A50, H⟩ := H
    replace H : ((spec_MakeText.f k l0).bind fun t215 => (if t214 = true then (if t213 = (wrap64 (t211 - 30000)) then ((impl_SplitAny.f k t215 (⟨#[32]⟩ : ByteArray)).bind fun t216 => ((impl_Join.f t216 (⟨#[32]⟩ : ByteArray)).bind fun t219 => (if t219.toList = t215.toList then ((impl_IsName.f k (⟨#[120, 49]⟩ : ByteArray)).bind fun t220 => (if t220 = true then ((impl_SplitLines.f (⟨#[97, 10, 98, 10]⟩ : ByteArray)).bind fun t221 => (some ((t221.length : Int) == 2))) else (some false))) else (some false)))) else (some false)) else (some false))) = some true := H
    have A5 := Aside0.mk A50
    clear A50
    replace H := Option.bind_eq_some_iff.mp H
    obtain ⟨t215, A60, H⟩ := H
    replace H : (if t214 = true then (if t213 = (wrap64 (t211 - 30000)) then ((impl_SplitAny.f k t215 (⟨#[32]⟩ : ByteArray)).bind fun t216 => ((impl_Join.f t216 (⟨#[32]⟩ : ByteArray)).bind fun t219 => (if t219.toList = t215.toList then ((impl_IsName.f k (⟨#[120, 49]⟩ : ByteArray)).bind fun t220 => (if t220 = true then ((impl_SplitLines.f (⟨#[97, 10, 98, 10]⟩ : ByteArray)).bind fun t221 => (some ((t221.length : Int) == 2))) else (some false))) else (some false)))) else (some false)) else (some false)) = some true := H
    have A6 := Aside0.mk A60
    clear A60
    by_cases c7 : t214 = true
    · subst c7
      have H1 : (if t213 = (wrap64 (t211 - 30000)) then ((impl_SplitAny.f k t215 (⟨#[32]⟩ : ByteArray)).bind fun t216 => ((impl_Join.f t216 (⟨#[32]⟩ : ByteArray)).bind fun t219 => (if t219.toList = t215.toList then ((impl_IsName.f k (⟨#[120, 49]⟩ : ByteArray)).bind fun t220 => (if t220 = true then ((impl_SplitLines.f (⟨#[97, 10, 98, 10]⟩ : ByteArray)).bind fun t221 => (some ((t221.length : Int) == 2))) else (some false))) else (some false)))) else (some false)) = some true := by rw [if_pos rfl] at H; exact H
      clear H
      have H := H1
      clear H1
      by_cases c8 : t213 = (wrap64 (t211 - 30000))
      · rw [if_pos c8] at H
        have c8b0 : (t213 == (wrap64 (t211 - 30000))) = true := beq_iff_eq.mpr c8
        have c8b1 : (t213 != (wrap64 (t211 - 30000))) = false := bne_eq_false_iff_eq.mpr c8
        clear c8
        replace H := Option.bind_eq_some_iff.mp H
        obtain ⟨t216, A90, H⟩ := H
        replace H : ((impl_Join.f t216 (⟨#[32]⟩ : ByteArray)).bind fun t219 => (if t219.toList = t215.toList then ((impl_IsName.f k (⟨#[120, 49]⟩ : ByteArray)).bind fun t220 => (if t220 = true then ((impl_SplitLines.f (⟨#[97, 10, 98, 10]⟩ : ByteArray)).bind fun t221 => (some ((t221.length : Int) == 2))) else (some false))) else (some false))) = some true := H
        have A9 := Aside0.mk A90
        clear A90
        replace H := Option.bind_eq_some_iff.mp H
        obtain ⟨t219, A100, H⟩ := H
        replace H : (if t219.toList = t215.toList then ((impl_IsName.f k (⟨#[120, 49]⟩ : ByteArray)).bind fun t220 => (if t220 = true then ((impl_SplitLines.f (⟨#[97, 10, 98, 10]⟩ : ByteArray)).bind fun t221 => (some ((t221.length : Int) == 2))) else (some false))) else (some false)) = some true := H
        have A10 := Aside0.mk A100
        clear A100
        by_cases c11 : t219.toList = t215.toList
        · rw [if_pos c11] at H
          have c11b0 : (t219.toList == t215.toList) = true := beq_iff_eq.mpr c11
          have c11b1 : (t219.toList != t215.toList) = false := bne_eq_false_iff_eq.mpr c11
          clear c11
          replace H := Option.bind_eq_some_iff.mp H
          obtain ⟨t220, A120, H⟩ := H
          replace H : (if t220 = true then ((impl_SplitLines.f (⟨#[97, 10, 98, 10]⟩ : ByteArray)).bind fun t221 => (some ((t221.length : Int) == 2))) else (some false)) = some true := H
          have A12 := Aside0.mk A120
          clear A120
          by_cases c13 : t220 = true
          · subst c13
            have H1 : ((impl_SplitLines.f (⟨#[97, 10, 98, 10]⟩ : ByteArray)).bind fun t221 => (some ((t221.length : Int) == 2))) = some true := by rw [if_pos rfl] at H; exact H
            clear H
            have H := H1
            clear H1
            replace H := Option.bind_eq_some_iff.mp H
            obtain ⟨t221, A140, H⟩ := H
            replace H : (some ((t221.length : Int) == 2)) = some true := H
            have A14 := Aside0.mk A140
            clear A140
            have hr_ := Option.some.inj H
            clear H
            go_enter Tryd.func3, Tryd.ntmps3
            go_wp2_with (first | ((with_reducible refine gate_callee (f := 4) rfl ?_); refine goesL_ (some 11) rfl rfl Tryd.func4 (by kernel_rfl) rfl #[.slice A0 l0.length c0, .int .i64 1] rfl (by (try simp only [List.map_toArray, List.map_cons, List.map_nil]); first | done | rfl | (simp only [List.length_drop, List.length_take]; rfl)) ?_; (with_reducible refine (spec_MakeNum.calls k _ _ l0 1 t211 _ ?side1 ?side2 A3.out).mono ?_); (case side1 => repeat (first | exact HR0.out | (with_reducible refine Kd.C_alloc ?_ _) | (with_reducible refine Kd.C_drewN ?_ _) | (with_reducible refine Kd.C_drew ?_))); (case side2 => exact HC0.out); rintro e w15 ⟨rfl, hb⟩; refine ⟨_, rfl, ?_⟩; have n0_ := Aside0.mk (below_step (by repeat (first | (with_reducible first | exact HB.out | apply below_alloc | apply pw_below_drewN | apply below_drew1) | exact HB.out)) hb); clear HB; have HB := n0_; clear n0_; (try clear hb); (try clear hb2); (try clear hk); (try clear hi)) | ((with_reducible refine gate_callee (f := 6) rfl ?_); refine goesL_ (some 15) rfl rfl Tryd.func6 (by kernel_rfl) rfl #[.int .i64 (wrap64 (t211 - 30000))] rfl (by (try simp only [List.map_toArray, List.map_cons, List.map_nil]); first | done | rfl | (simp only [List.length_drop, List.length_take]; rfl)) ?_; (with_reducible refine (impl_FormatInt.calls (wrap64 (t211 - 30000)) t212 _ A4.out (tab_at htab (by repeat (first | (with_reducible first | exact HB.out | apply below_alloc | apply pw_below_drewN | apply below_drew1) | exact HB.out)))).mono ?_); rintro e w16 ⟨rfl, hb⟩; refine ⟨_, rfl, ?_⟩; have n0_ := Aside0.mk (below_step (by repeat (first | (with_reducible first | exact HB.out | apply below_alloc | apply pw_below_drewN | apply below_drew1) | exact HB.out)) hb); clear HB; have HB := n0_; clear n0_; (try clear hb); (try clear hb2); (try clear hk); (try clear hi)) | ((with_reducible refine gate_callee (f := 5) rfl ?_); refine goesL_ (some 16) rfl rfl Tryd.func5 (by kernel_rfl) rfl #[.string t212] rfl (by (try simp only [List.map_toArray, List.map_cons, List.map_nil]); first | done | rfl | (simp only [List.length_drop, List.length_take]; rfl)) ?_; (with_reducible refine (impl_ParseInt.calls t212 t213 true _ A5.out (tab_at htab (by repeat (first | (with_reducible first | exact HB.out | apply below_alloc | apply pw_below_drewN | apply below_drew1) | exact HB.out))) (err_at herr (by repeat (first | (with_reducible first | exact HB.out | apply below_alloc | apply pw_below_drewN | apply below_drew1) | exact HB.out)))).mono ?_); rintro e w17 ⟨rfl, hb⟩; refine ⟨_, rfl, ?_⟩; have n0_ := Aside0.mk (below_step (by repeat (first | (with_reducible first | exact HB.out | apply below_alloc | apply pw_below_drewN | apply below_drew1) | exact HB.out)) hb); clear HB; have HB := n0_; clear n0_; (try clear hb); (try clear hb2); (try clear hk); (try clear hi)) | ((with_reducible refine gate_callee (f := 7) rfl ?_); refine goesL_ (some 20) rfl rfl Tryd.func7 (by kernel_rfl) rfl #[.slice A0 l0.length c0] rfl (by (try simp only [List.map_toArray, List.map_cons, List.map_nil]); first | done | rfl | (simp only [List.length_drop, List.length_take]; rfl)) ?_; (with_reducible refine (spec_MakeText.calls k _ _ l0 t215 _ ?side1 ?side2 A6.out).mono ?_); (case side1 => repeat (first | exact (Kd.C_below HR0.out HB.out) | (with_reducible refine Kd.C_alloc ?_ _) | (with_reducible refine Kd.C_drewN ?_ _) | (with_reducible refine Kd.C_drew ?_))); (case side2 => exact HC0.out); rintro e w18 ⟨rfl, hb⟩; refine ⟨_, rfl, ?_⟩; have n0_ := Aside0.mk (below_step (by repeat (first | (with_reducible first | exact HB.out | apply below_alloc | apply pw_below_drewN | apply below_drew1) | exact HB.out)) hb); clear HB; have HB := n0_; clear n0_; (try clear hb); (try clear hb2); (try clear hk); (try clear hi)) | (go_at_call 9; (with_reducible refine (impl_SplitAny.calls k t215 (⟨#[32]⟩ : ByteArray) t216 _ A9.out).mono ?_); rintro e w19 ⟨v217, rfl, ho0, hb⟩; have n0_ := Aside0.mk (Kd.R_lower ho0 (below_size (by repeat (first | (with_reducible first | exact HB.out | apply below_alloc | apply pw_below_drewN | apply below_drew1) | exact HB.out)))); have n1_ := Aside0.mk (below_step (by repeat (first | (with_reducible first | exact HB.out | apply below_alloc | apply pw_below_drewN | apply below_drew1) | exact HB.out)) hb); clear HB; have HO218 := n0_; have HB := n1_; clear n0_ n1_; (try clear hb); (try clear hb2); (try clear hk); (try clear hi); (try clear ho0); obtain ⟨Ao20, co20, eo20⟩ := Kd.R_slice HO218.out; subst eo20) | (go_at_call 8; (with_reducible refine (impl_Join.calls _ _ t216 (⟨#[32]⟩ : ByteArray) t219 _ ?side1 ?side2 A10.out).mono ?_); (case side1 => repeat (first | exact (Kd.R_reads' HO218.out).2.2 | (with_reducible refine Kd.C_alloc ?_ _) | (with_reducible refine Kd.C_drewN ?_ _) | (with_reducible refine Kd.C_drew ?_))); (case side2 => exact (Kd.R_reads' HO218.out).2.1); rintro e w21 ⟨rfl, hb⟩; have n0_ := Aside0.mk (Kd.R_below (by (with_reducible repeat (first | apply Kd.R_alloc | apply Kd.R_drewN | apply Kd.R_drew)); exact HO218.out) hb); have n1_ := Aside0.mk (below_step (by repeat (first | (with_reducible first | exact HB.out | apply below_alloc | apply pw_below_drewN | apply below_drew1) | exact HB.out)) hb); clear HO218; clear HB; have HO218 := n0_; have HB := n1_; clear n0_ n1_; (try clear hb); (try clear hb2); (try clear hk); (try clear hi)) | (go_at_call 10; (with_reducible refine (impl_IsName.calls k (⟨#[120, 49]⟩ : ByteArray) true _ A12.out).mono ?_); rintro e w' ⟨rfl, ⟨nd, rfl⟩⟩) | (go_at_call 11; (with_reducible refine (impl_SplitLines.calls (⟨#[97, 10, 98, 10]⟩ : ByteArray) t221 _ A14.out (max_at hmax (by repeat (first | (with_reducible first | exact HB.out | apply below_alloc | apply pw_below_drewN | apply below_drew1) | exact HB.out)))).mono ?_); rintro e w22 ⟨v222, rfl, ho0, hb⟩; have n0_ := Aside0.mk (Kd.R_elder' (by (with_reducible repeat (first | apply Kd.R_alloc | apply Kd.R_drewN | apply Kd.R_drew)); exact HO218.out) (Kd.R_base ho0) hb); have n1_ := Aside0.mk (Kd.R_lower (Kd.R_new' ho0 (Kd.R_lt (by (with_reducible repeat (first | apply Kd.R_alloc | apply Kd.R_drewN | apply Kd.R_drew)); exact HO218.out))) (below_size (by repeat (first | (with_reducible first | exact HB.out | apply below_alloc | apply pw_below_drewN | apply below_drew1) | exact HB.out)))); have n2_ := Aside0.mk (below_step (by repeat (first | (with_reducible first | exact HB.out | apply below_alloc | apply pw_below_drewN | apply below_drew1) | exact HB.out)) hb); clear HO218; clear HB; have HO218 := n0_; have HO223 := n1_; have HB := n2_; clear n0_ n1_ n2_; (try clear hb); (try clear hb2); (try clear hk); (try clear hi); (try clear ho0); obtain ⟨Ao23, co23, eo23⟩ := Kd.R_slice HO223.out; subst eo23))
            go_ret
            exact ⟨by first | rfl | (simp [errW_none, errW_some] <;> rfl) | (simp [*, errW_none, errW_some] <;> rfl), by repeat (first | (with_reducible first | exact HB.out | apply below_alloc | apply pw_below_drewN | apply below_drew1) | exact HB.out)⟩
          · replace c13 := Bool.eq_false_iff.mpr c13
            subst c13
            have H1 : (some false) = some true := by rw [if_neg (show ¬ (false = true) by decide)] at H; exact H
            clear H
            have H := H1
            clear H1
            exact absurd H (by simp)
        · rw [if_neg c11] at H
          have c11b0 : (t219.toList == t215.toList) = false := beq_eq_false_iff_ne.mpr c11
          have c11b1 : (t219.toList != t215.toList) = true := bne_iff_ne.mpr c11
          exact absurd H (by simp)
      · rw [if_neg c8] at H
        have c8b0 : (t213 == (wrap64 (t211 - 30000))) = false := beq_eq_false_iff_ne.mpr c8
        have c8b1 : (t213 != (wrap64 (t211 - 30000))) = true := bne_iff_ne.mpr c8
        exact absurd H (by simp)
    · replace c7 := Bool.eq_false_iff.mpr c7
      subst c7
      have H1 : (some false) = some true := by rw [if_neg (show ¬ (false = true) by decide)] at H; exact H
      clear H
      have H := H1
      clear H1
      exact absurd H (by simp)

/-- The pure statement of laws_FnWords. -/
def laws_FnWords.Pure : Prop := ∀ (l0 : List Int), l0.length ≤ maxLen → l0.length * 1 ≤ 140737488351232 → (∀ x ∈ l0, (Lit.int .u8 x).wf = true) → ∃ k, laws_FnWords.f k l0 = some true
theorem laws_FnWords.walk (P : laws_FnWords.Pure) (a0 : Option Addr) (len0 cap0 : Nat) (z0 : List Int) (w : World) (w0 : ((a0 = none ∧ len0 = 0 ∧ cap0 = 0 ∧ z0 = []) ∨ ∃ x, a0 = some x ∧ len0 ≤ cap0 ∧ cap0 ≤ maxLen ∧ z0.length = cap0 ∧ (∀ i, i < z0.length → w.cell? (x.add i) = some (.int .u8 (z0.getD i 0))) ∧ ∀ n ∈ z0, (Lit.int .u8 n).wf = true)) (y0 : len0 * 1 ≤ 140737488351232) (hmax : maxAt w) (htab : tabAt w) (herr : errAt w) :
    Calls Tryd.prog 3 #[.slice a0 len0 cap0] w fun e w' => e = .returned (.bool true) ∧ Below w.heap.size w w' := by
  obtain ⟨l0, rfl, hr0, hm0, hw0, hc0⟩ := ReadsInt.ofRowC w0
  obtain ⟨k, h⟩ := P l0 hm0 y0 hw0
  refine (laws_FnWords.calls_true k _ _ l0 w (Kd.C_of_reads (d := (0 : Int)) (h1 := fun _ => rfl) hr0) hc0 h hmax htab herr).mono ?_
  rintro e w' ⟨rfl, hd⟩
  exact ⟨rfl, hd⟩

end Go.Proofs.YtlohmpgbjgidpaeDoor.P
