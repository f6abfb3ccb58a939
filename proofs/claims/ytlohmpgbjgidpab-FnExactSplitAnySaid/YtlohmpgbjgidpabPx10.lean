-- MADE by this project's printer (wip/mk) out of the translation; Lean checks it.
import Derived.Test.YtlohmpgbjgidpabPx0
import Derived.Test.YtlohmpgbjgidpabPx1
import Derived.Test.YtlohmpgbjgidpabPx5
import Derived.Test.YtlohmpgbjgidpabPx6
import Derived.Test.YtlohmpgbjgidpabPx8
import Derived.Test.YtlohmpgbjgidpabPx9
namespace Go.Proofs.Ytlohmpgbjgidpab.P
open Go.RowKit Go.Proofs.YtlohmpgbjgidpabW.PrintWords Go.Proofs.YtlohmpgbjgidpabW.PrintLast Go.Proofs.YtlohmpgbjgidpabW.PrintMore
attribute [local go_sem] max2_int min2_int max_two min_two max_three min_three max_four min_four   -- for this text's walks alone
set_option linter.unusedVariables false
set_option linter.unusedSimpArgs false

/-! ### laws_FnExactSplitAny: function 3 -/
def laws_FnExactSplitAny.f (k : Nat) (a0 : ByteArray) (a1 : ByteArray) : Option (Bool) := if (a0.size : Int) > 1048576 then (some true) else (if (a1.size : Int) > 1048576 then (some true) else ((spec_SplitAny.f k a0 a1).bind fun t129 => ((impl_SplitAny.f k a0 a1).bind fun t132 => ((laws_eqStringS.f k t132 t129).bind fun t135 => (if t135 = true then ((laws_markStringS.f k t132 1).bind fun bt136 => ((laws_heldStringS.f k bt136.2 1).bind fun t138 => (if t138 < 0 then (some false) else (if t138 = bt136.1 then ((impl_SplitAny.f k a0 a1).bind fun t139 => ((laws_eqStringS.f k t139 t129).bind fun t142 => (if t142 = true then ((laws_heldStringS.f k bt136.2 1).bind fun t143 => (if t143 < 0 then (some false) else (if t143 = bt136.1 then (some true) else (some false)))) else (some false)))) else (some false))))) else (some false))))))
theorem laws_FnExactSplitAny.mono : ∀ a0 a1 k, LeO (laws_FnExactSplitAny.f k a0 a1) (laws_FnExactSplitAny.f (k + 1) a0 a1) := by
  intro a0 a1 k
  unfold laws_FnExactSplitAny.f
  repeat' first
      | (with_reducible exact impl_SplitAny.mono _ _ _)
      | (with_reducible exact laws_eqStringS.mono _ _ _)
      | (with_reducible exact laws_heldStringS.mono _ _ _)
      | (with_reducible exact laws_markStringS.mono _ _ _)
      | (with_reducible exact spec_SplitAny.mono _ _ _)
      | (with_reducible exact LeO.refl _)
      | (with_reducible exact LeO.none _)
      | (with_reducible refine LeO.ite ?_ ?_)
      | (with_reducible refine LeO.bind ?_ (fun _ => ?_))
      | exact impl_SplitAny.mono _ _ _
      | exact laws_eqStringS.mono _ _ _
      | exact laws_heldStringS.mono _ _ _
      | exact laws_markStringS.mono _ _ _
      | exact spec_SplitAny.mono _ _ _
      | exact LeO.none _
      | refine LeO.ite ?_ ?_
      | refine LeO.bind ?_ (fun _ => ?_)
set_option maxHeartbeats 8000000 in
set_option maxRecDepth 100000 in
theorem laws_FnExactSplitAny.calls_true (k : Nat) (a0 : ByteArray) (a1 : ByteArray) (w : World) (h : laws_FnExactSplitAny.f k a0 a1 = some true) :
    Calls Try.prog 3 #[.string a0, .string a1] w fun e w' => e = .returned (.bool true) ∧ Below w.heap.size w w' := by
  have HB := Aside0.mk (Below.refl w.heap.size w)
  have H : (if (a0.size : Int) > 1048576 then (some true) else (if (a1.size : Int) > 1048576 then (some true) else ((spec_SplitAny.f k a0 a1).bind fun t129 => ((impl_SplitAny.f k a0 a1).bind fun t132 => ((laws_eqStringS.f k t132 t129).bind fun t135 => (if t135 = true then ((laws_markStringS.f k t132 1).bind fun bt136 => ((laws_heldStringS.f k bt136.2 1).bind fun t138 => (if t138 < 0 then (some false) else (if t138 = bt136.1 then ((impl_SplitAny.f k a0 a1).bind fun t139 => ((laws_eqStringS.f k t139 t129).bind fun t142 => (if t142 = true then ((laws_heldStringS.f k bt136.2 1).bind fun t143 => (if t143 < 0 then (some false) else (if t143 = bt136.1 then (some true) else (some false)))) else (some false)))) else (some false))))) else (some false))))))) = some true := h
  clear h
  by_cases c3 : (a0.size : Int) > 1048576
  · rw [if_pos c3] at H
    have c3b0 : decide (1048576 < (a0.size : Int)) = true := decide_eq_true c3
    have c3b1 : decide (1048576 < a0.size) = true := decide_eq_true (by omega)
    clear c3
    go_enter Try.func3, Try.ntmps3
    go_wp2
    go_ret
    exact ⟨by first | rfl | (simp [errW_none, errW_some] <;> rfl) | (simp [*, errW_none, errW_some] <;> rfl), by repeat (first | (with_reducible first | exact HB.out | apply below_alloc | apply pw_below_drewN | apply below_drew1) | exact HB.out)⟩
  · rw [if_neg c3] at H
    have c3b0 : decide (1048576 < (a0.size : Int)) = false := decide_eq_false c3
    have c3b1 : decide (1048576 < a0.size) = false := decide_eq_false (by omega)
    clear c3
    by_cases c4 : (a1.size : Int) > 1048576
    · rw [if_pos c4] at H
      have c4b0 : decide (1048576 < (a1.size : Int)) = true := decide_eq_true c4
      have c4b1 : decide (1048576 < a1.size) = true := decide_eq_true (by omega)
      clear c4
      go_enter Try.func3, Try.ntmps3
      go_wp2
      go_ret
      exact ⟨by first | rfl | (simp [errW_none, errW_some] <;> rfl) | (simp [*, errW_none, errW_some] <;> rfl), by repeat (first | (with_reducible first | exact HB.out | apply below_alloc | apply pw_below_drewN | apply below_drew1) | exact HB.out)⟩
    · rw [if_neg c4] at H
      have c4b0 : decide (1048576 < (a1.size : Int)) = false := decide_eq_false c4
      have c4b1 : decide (1048576 < a1.size) = false := decide_eq_false (by omega)
      clear c4
      replace H := Option.bind_eq_some_iff.mp H
      obtain ⟨t129, A50, H⟩ := H
      replace H : ((impl_SplitAny.f k a0 a1).bind fun t132 => ((laws_eqStringS.f k t132 t129).bind fun t135 => (if t135 = true then ((laws_markStringS.f k t132 1).bind fun bt136 => ((laws_heldStringS.f k bt136.2 1).bind fun t138 => (if t138 < 0 then (some false) else (if t138 = bt136.1 then ((impl_SplitAny.f k a0 a1).bind fun t139 => ((laws_eqStringS.f k t139 t129).bind fun t142 => (if t142 = true then ((laws_heldStringS.f k bt136.2 1).bind fun t143 => (if t143 < 0 then (some false) else (if t143 = bt136.1 then (some true) else (some false)))) else (some false)))) else (some false))))) else (some false)))) = some true := H
      have A5 := Aside0.mk A50
      clear A50
      replace H := Option.bind_eq_some_iff.mp H
      obtain ⟨t132, A60, H⟩ := H
      replace H : ((laws_eqStringS.f k t132 t129).bind fun t135 => (if t135 = true then ((laws_markStringS.f k t132 1).bind fun bt136 => ((laws_heldStringS.f k bt136.2 1).bind fun t138 => (if t138 < 0 then (some false) else (if t138 = bt136.1 then ((impl_SplitAny.f k a0 a1).bind fun t139 => ((laws_eqStringS.f k t139 t129).bind fun t142 => (if t142 = true then ((laws_heldStringS.f k bt136.2 1).bind fun t143 => (if t143 < 0 then (some false) else (if t143 = bt136.1 then (some true) else (some false)))) else (some false)))) else (some false))))) else (some false))) = some true := H
      have A6 := Aside0.mk A60
      clear A60
      replace H := Option.bind_eq_some_iff.mp H
      obtain ⟨t135, A70, H⟩ := H
      replace H : (if t135 = true then ((laws_markStringS.f k t132 1).bind fun bt136 => ((laws_heldStringS.f k bt136.2 1).bind fun t138 => (if t138 < 0 then (some false) else (if t138 = bt136.1 then ((impl_SplitAny.f k a0 a1).bind fun t139 => ((laws_eqStringS.f k t139 t129).bind fun t142 => (if t142 = true then ((laws_heldStringS.f k bt136.2 1).bind fun t143 => (if t143 < 0 then (some false) else (if t143 = bt136.1 then (some true) else (some false)))) else (some false)))) else (some false))))) else (some false)) = some true := H
      have A7 := Aside0.mk A70
      clear A70
      by_cases c8 : t135 = true
      · subst c8
        have H1 : ((laws_markStringS.f k t132 1).bind fun bt136 => ((laws_heldStringS.f k bt136.2 1).bind fun t138 => (if t138 < 0 then (some false) else (if t138 = bt136.1 then ((impl_SplitAny.f k a0 a1).bind fun t139 => ((laws_eqStringS.f k t139 t129).bind fun t142 => (if t142 = true then ((laws_heldStringS.f k bt136.2 1).bind fun t143 => (if t143 < 0 then (some false) else (if t143 = bt136.1 then (some true) else (some false)))) else (some false)))) else (some false))))) = some true := by rw [if_pos rfl] at H; exact H
        clear H
        have H := H1
        clear H1
        replace H := Option.bind_eq_some_iff.mp H
        obtain ⟨⟨t136, t137⟩, A90, H⟩ := H
        replace H : ((laws_heldStringS.f k t137 1).bind fun t138 => (if t138 < 0 then (some false) else (if t138 = t136 then ((impl_SplitAny.f k a0 a1).bind fun t139 => ((laws_eqStringS.f k t139 t129).bind fun t142 => (if t142 = true then ((laws_heldStringS.f k t137 1).bind fun t143 => (if t143 < 0 then (some false) else (if t143 = t136 then (some true) else (some false)))) else (some false)))) else (some false)))) = some true := H
        have A9 := Aside0.mk A90
        clear A90
        replace H := Option.bind_eq_some_iff.mp H
        obtain ⟨t138, A100, H⟩ := H
        replace H : (if t138 < 0 then (some false) else (if t138 = t136 then ((impl_SplitAny.f k a0 a1).bind fun t139 => ((laws_eqStringS.f k t139 t129).bind fun t142 => (if t142 = true then ((laws_heldStringS.f k t137 1).bind fun t143 => (if t143 < 0 then (some false) else (if t143 = t136 then (some true) else (some false)))) else (some false)))) else (some false))) = some true := H
        have A10 := Aside0.mk A100
        clear A100
        by_cases c11 : t138 < 0
        · rw [if_pos c11] at H
          have c11b0 : decide (t138 < 0) = true := decide_eq_true c11
          clear c11
          exact absurd H (by simp)
        · rw [if_neg c11] at H
          have c11b0 : decide (t138 < 0) = false := decide_eq_false c11
          clear c11
          by_cases c18 : t138 = t136
          · rw [if_pos c18] at H
            have c18b0 : (t138 == t136) = true := beq_iff_eq.mpr c18
            have c18b1 : (t138 != t136) = false := bne_eq_false_iff_eq.mpr c18
            clear c18
            replace H := Option.bind_eq_some_iff.mp H
            obtain ⟨t139, A190, H⟩ := H
            replace H : ((laws_eqStringS.f k t139 t129).bind fun t142 => (if t142 = true then ((laws_heldStringS.f k t137 1).bind fun t143 => (if t143 < 0 then (some false) else (if t143 = t136 then (some true) else (some false)))) else (some false))) = some true := H
            have A19 := Aside0.mk A190
            clear A190
            replace H := Option.bind_eq_some_iff.mp H
            obtain ⟨t142, A200, H⟩ := H
            replace H : (if t142 = true then ((laws_heldStringS.f k t137 1).bind fun t143 => (if t143 < 0 then (some false) else (if t143 = t136 then (some true) else (some false)))) else (some false)) = some true := H
            have A20 := Aside0.mk A200
            clear A200
            by_cases c21 : t142 = true
            · subst c21
              have H1 : ((laws_heldStringS.f k t137 1).bind fun t143 => (if t143 < 0 then (some false) else (if t143 = t136 then (some true) else (some false)))) = some true := by rw [if_pos rfl] at H; exact H
              clear H
              have H := H1
              clear H1
              replace H := Option.bind_eq_some_iff.mp H
              obtain ⟨t143, A220, H⟩ := H
              replace H : (if t143 < 0 then (some false) else (if t143 = t136 then (some true) else (some false))) = some true := H
              have A22 := Aside0.mk A220
              clear A220
              by_cases c23 : t143 < 0
              · rw [if_pos c23] at H
                have c23b0 : decide (t143 < 0) = true := decide_eq_true c23
                clear c23
                exact absurd H (by simp)
              · rw [if_neg c23] at H
                have c23b0 : decide (t143 < 0) = false := decide_eq_false c23
                clear c23
                by_cases c33 : t143 = t136
                · rw [if_pos c33] at H
                  have c33b0 : (t143 == t136) = true := beq_iff_eq.mpr c33
                  have c33b1 : (t143 != t136) = false := bne_eq_false_iff_eq.mpr c33
                  clear c33
                  go_enter Try.func3, Try.ntmps3
                  go_wp2_with (first | ((with_reducible refine gate_callee (f := 15) rfl ?_); refine goesL_ (some 18) rfl rfl Try.func15 (by kernel_rfl) rfl #[.string a0, .string a1] rfl (by (try simp only [List.map_toArray, List.map_cons, List.map_nil]); first | done | rfl | (simp only [List.length_drop, List.length_take]; rfl)) ?_; (with_reducible refine (spec_SplitAny.calls k a0 a1 t129 _ A5.out).mono ?_); rintro e w34 ⟨v130, rfl, ho0, hb⟩; refine ⟨_, rfl, ?_⟩; have n0_ := Aside0.mk (Kd.R_lower ho0 (below_size (by repeat (first | (with_reducible first | exact HB.out | apply below_alloc | apply pw_below_drewN | apply below_drew1) | exact HB.out)))); have n1_ := Aside0.mk (below_step (by repeat (first | (with_reducible first | exact HB.out | apply below_alloc | apply pw_below_drewN | apply below_drew1) | exact HB.out)) hb); clear HB; have HO131 := n0_; have HB := n1_; clear n0_ n1_; (try clear hb); (try clear hb2); (try clear hk); (try clear hi); (try clear ho0)) | ((with_reducible refine gate_callee (f := 16) rfl ?_); refine goesL_ (some 21) rfl rfl Try.func16 (by kernel_rfl) rfl #[.string a0, .string a1] rfl (by (try simp only [List.map_toArray, List.map_cons, List.map_nil]); first | done | rfl | (simp only [List.length_drop, List.length_take]; rfl)) ?_; (with_reducible refine (impl_SplitAny.calls k a0 a1 t132 _ A6.out).mono ?_); rintro e w35 ⟨v133, rfl, ho0, hb⟩; refine ⟨_, rfl, ?_⟩; have n0_ := Aside0.mk (Kd.R_elder' (by (with_reducible repeat (first | apply Kd.R_alloc | apply Kd.R_drewN | apply Kd.R_drew)); exact HO131.out) (Kd.R_base ho0) hb); have n1_ := Aside0.mk (Kd.R_lower (Kd.R_new' ho0 (Kd.R_lt (by (with_reducible repeat (first | apply Kd.R_alloc | apply Kd.R_drewN | apply Kd.R_drew)); exact HO131.out))) (below_size (by repeat (first | (with_reducible first | exact HB.out | apply below_alloc | apply pw_below_drewN | apply below_drew1) | exact HB.out)))); have n2_ := Aside0.mk (below_step (by repeat (first | (with_reducible first | exact HB.out | apply below_alloc | apply pw_below_drewN | apply below_drew1) | exact HB.out)) hb); clear HO131; clear HB; have HO131 := n0_; have HO134 := n1_; have HB := n2_; clear n0_ n1_ n2_; (try clear hb); (try clear hb2); (try clear hk); (try clear hi); (try clear ho0); obtain ⟨Ao36, co36, eo36⟩ := Kd.R_slice HO134.out; subst eo36; obtain ⟨Ao37, co37, eo37⟩ := Kd.R_slice HO131.out; subst eo37) | ((with_reducible refine gate_callee (f := 17) rfl ?_); refine goesL_ (some 24) rfl rfl Try.func17 (by kernel_rfl) rfl #[.slice Ao36 t132.length co36, .slice Ao37 t129.length co37] rfl (by (try simp only [List.map_toArray, List.map_cons, List.map_nil]); first | done | rfl | (simp only [List.length_drop, List.length_take]; rfl)) ?_; (with_reducible refine (laws_eqStringS.calls k _ _ t132 _ _ t129 true _ ?side1 ?side2 ?side3 ?side4 A7.out).mono ?_); (case side1 => repeat (first | exact (Kd.R_reads' HO134.out).2.2 | (with_reducible refine Kd.C_alloc ?_ _) | (with_reducible refine Kd.C_drewN ?_ _) | (with_reducible refine Kd.C_drew ?_))); (case side2 => exact (Kd.R_reads' HO134.out).2.1); (case side3 => repeat (first | exact (Kd.R_reads' HO131.out).2.2 | (with_reducible refine Kd.C_alloc ?_ _) | (with_reducible refine Kd.C_drewN ?_ _) | (with_reducible refine Kd.C_drew ?_))); (case side4 => exact (Kd.R_reads' HO131.out).2.1); rintro e w' ⟨rfl, ⟨nd, rfl⟩⟩; refine ⟨_, rfl, ?_⟩) | ((with_reducible refine gate_callee (f := 18) rfl ?_); refine goesL_ (some 28) rfl rfl Try.func18 (by kernel_rfl) rfl #[.slice Ao36 t132.length co36, .int .i64 1] rfl (by (try simp only [List.map_toArray, List.map_cons, List.map_nil]); first | done | rfl | (simp only [List.length_drop, List.length_take]; rfl)) ?_; (with_reducible refine (laws_markStringS.calls k (fun k_ => some k_ = (.slice Ao36 t132.length co36 : Value).ownBlock) (.slice Ao36 t132.length co36) t132 1 t136 t137 w _ ?side1 ?side2 A9.out).mono ?_); (case side1 => repeat (first | (with_reducible first | exact HB.out | apply below_alloc | apply pw_below_drewN | apply below_drew1) | exact HB.out)); (case side2 => exact Kd.R_tight rfl HO134.out); rintro e w38 ⟨rfl, hy0, hb, hkp⟩; refine ⟨_, rfl, ?_⟩; have n0_ := Aside0.mk (Kd.R_mono (ok' := fun k_ => some k_ ≠ (.slice Ao36 t132.length co36 : Value).ownBlock) (Kd.R_keptB (HO131.out) hkp (fun k_ hk_ hs_ => (hk_.2) hs_)) (fun k_ hk_ => hk_.1.2)); have n1_ := Aside0.mk (Kd.R_reok rfl hy0 (fun k_ e_ => HO134.out.1 k_ e_)); have n2_ := Aside0.mk (hb); clear HO131; clear HO134; clear HB; have HO131 := n0_; have HO134 := n1_; have HB := n2_; clear n0_ n1_ n2_; (try clear hb); (try clear hkp); (try clear hy0)) | ((with_reducible refine gate_callee (f := 19) rfl ?_); refine goesL_ (some 31) rfl rfl Try.func19 (by kernel_rfl) rfl #[.slice Ao36 t137.length co36, .int .i64 1] rfl (by (try simp only [List.map_toArray, List.map_cons, List.map_nil]); first | done | (rw [show t137.length = t132.length from (Kd.R_reads' HO134.out).1.symm] <;> rfl) | rfl | (simp only [List.length_drop, List.length_take]; rfl)) ?_; (with_reducible refine (laws_heldStringS.calls k _ _ t137 1 t138 _ ?side1 ?side2 A10.out).mono ?_); (case side1 => repeat (first | exact (Kd.R_reads' HO134.out).2.2 | (with_reducible refine Kd.C_alloc ?_ _) | (with_reducible refine Kd.C_drewN ?_ _) | (with_reducible refine Kd.C_drew ?_))); (case side2 => rw [show t137.length = t132.length from (Kd.R_reads' HO134.out).1.symm]; exact (Kd.R_reads' HO134.out).2.1); rintro e w39 ⟨rfl, hb⟩; refine ⟨_, rfl, ?_⟩; have n0_ := Aside0.mk (Kd.R_below (by (with_reducible repeat (first | apply Kd.R_alloc | apply Kd.R_drewN | apply Kd.R_drew)); exact HO131.out) hb); have n1_ := Aside0.mk (Kd.R_below (by (with_reducible repeat (first | apply Kd.R_alloc | apply Kd.R_drewN | apply Kd.R_drew)); exact HO134.out) hb); have n2_ := Aside0.mk (below_step (by repeat (first | (with_reducible first | exact HB.out | apply below_alloc | apply pw_below_drewN | apply below_drew1) | exact HB.out)) hb); clear HO131; clear HO134; clear HB; have HO131 := n0_; have HO134 := n1_; have HB := n2_; clear n0_ n1_ n2_; (try clear hb); (try clear hb2); (try clear hk); (try clear hi)) | ((with_reducible refine gate_callee (f := 16) rfl ?_); refine goesL_ (some 39) rfl rfl Try.func16 (by kernel_rfl) rfl #[.string a0, .string a1] rfl (by (try simp only [List.map_toArray, List.map_cons, List.map_nil]); first | done | rfl | (simp only [List.length_drop, List.length_take]; rfl)) ?_; (with_reducible refine (impl_SplitAny.calls k a0 a1 t139 _ A19.out).mono ?_); rintro e w40 ⟨v140, rfl, ho0, hb⟩; refine ⟨_, rfl, ?_⟩; have n0_ := Aside0.mk (Kd.R_elder' (by (with_reducible repeat (first | apply Kd.R_alloc | apply Kd.R_drewN | apply Kd.R_drew)); exact HO131.out) (Kd.R_base ho0) hb); have n1_ := Aside0.mk (Kd.R_elder' (by (with_reducible repeat (first | apply Kd.R_alloc | apply Kd.R_drewN | apply Kd.R_drew)); exact HO134.out) (Kd.R_base ho0) hb); have n2_ := Aside0.mk (Kd.R_lower (Kd.R_new' (Kd.R_new' ho0 (Kd.R_lt (by (with_reducible repeat (first | apply Kd.R_alloc | apply Kd.R_drewN | apply Kd.R_drew)); exact HO131.out))) (Kd.R_lt (by (with_reducible repeat (first | apply Kd.R_alloc | apply Kd.R_drewN | apply Kd.R_drew)); exact HO134.out))) (below_size (by repeat (first | (with_reducible first | exact HB.out | apply below_alloc | apply pw_below_drewN | apply below_drew1) | exact HB.out)))); have n3_ := Aside0.mk (below_step (by repeat (first | (with_reducible first | exact HB.out | apply below_alloc | apply pw_below_drewN | apply below_drew1) | exact HB.out)) hb); clear HO131; clear HO134; clear HB; have HO131 := n0_; have HO134 := n1_; have HO141 := n2_; have HB := n3_; clear n0_ n1_ n2_ n3_; (try clear hb); (try clear hb2); (try clear hk); (try clear hi); (try clear ho0); obtain ⟨Ao41, co41, eo41⟩ := Kd.R_slice HO141.out; subst eo41) | ((with_reducible refine gate_callee (f := 17) rfl ?_); refine goesL_ (some 42) rfl rfl Try.func17 (by kernel_rfl) rfl #[.slice Ao41 t139.length co41, .slice Ao37 t129.length co37] rfl (by (try simp only [List.map_toArray, List.map_cons, List.map_nil]); first | done | rfl | (simp only [List.length_drop, List.length_take]; rfl)) ?_; (with_reducible refine (laws_eqStringS.calls k _ _ t139 _ _ t129 true _ ?side1 ?side2 ?side3 ?side4 A20.out).mono ?_); (case side1 => repeat (first | exact (Kd.R_reads' HO141.out).2.2 | (with_reducible refine Kd.C_alloc ?_ _) | (with_reducible refine Kd.C_drewN ?_ _) | (with_reducible refine Kd.C_drew ?_))); (case side2 => exact (Kd.R_reads' HO141.out).2.1); (case side3 => repeat (first | exact (Kd.R_reads' HO131.out).2.2 | (with_reducible refine Kd.C_alloc ?_ _) | (with_reducible refine Kd.C_drewN ?_ _) | (with_reducible refine Kd.C_drew ?_))); (case side4 => exact (Kd.R_reads' HO131.out).2.1); rintro e w' ⟨rfl, ⟨nd, rfl⟩⟩; refine ⟨_, rfl, ?_⟩) | ((with_reducible refine gate_callee (f := 19) rfl ?_); refine goesL_ (some 46) rfl rfl Try.func19 (by kernel_rfl) rfl #[.slice Ao36 t137.length co36, .int .i64 1] rfl (by (try simp only [List.map_toArray, List.map_cons, List.map_nil]); first | done | (rw [show t137.length = t132.length from (Kd.R_reads' HO134.out).1.symm] <;> rfl) | rfl | (simp only [List.length_drop, List.length_take]; rfl)) ?_; (with_reducible refine (laws_heldStringS.calls k _ _ t137 1 t143 _ ?side1 ?side2 A22.out).mono ?_); (case side1 => repeat (first | exact (Kd.R_reads' HO134.out).2.2 | (with_reducible refine Kd.C_alloc ?_ _) | (with_reducible refine Kd.C_drewN ?_ _) | (with_reducible refine Kd.C_drew ?_))); (case side2 => rw [show t137.length = t132.length from (Kd.R_reads' HO134.out).1.symm]; exact (Kd.R_reads' HO134.out).2.1); rintro e w42 ⟨rfl, hb⟩; refine ⟨_, rfl, ?_⟩; have n0_ := Aside0.mk (Kd.R_below (by (with_reducible repeat (first | apply Kd.R_alloc | apply Kd.R_drewN | apply Kd.R_drew)); exact HO131.out) hb); have n1_ := Aside0.mk (Kd.R_below (by (with_reducible repeat (first | apply Kd.R_alloc | apply Kd.R_drewN | apply Kd.R_drew)); exact HO134.out) hb); have n2_ := Aside0.mk (Kd.R_below (by (with_reducible repeat (first | apply Kd.R_alloc | apply Kd.R_drewN | apply Kd.R_drew)); exact HO141.out) hb); have n3_ := Aside0.mk (below_step (by repeat (first | (with_reducible first | exact HB.out | apply below_alloc | apply pw_below_drewN | apply below_drew1) | exact HB.out)) hb); clear HO131; clear HO134; clear HO141; clear HB; have HO131 := n0_; have HO134 := n1_; have HO141 := n2_; have HB := n3_; clear n0_ n1_ n2_ n3_; (try clear hb); (try clear hb2); (try clear hk); (try clear hi)))
                  go_ret
                  exact ⟨by first | rfl | (simp [errW_none, errW_some] <;> rfl) | (simp [*, errW_none, errW_some] <;> rfl), by repeat (first | (with_reducible first | exact HB.out | apply below_alloc | apply pw_below_drewN | apply below_drew1) | exact HB.out)⟩
                · rw [if_neg c33] at H
                  have c33b0 : (t143 == t136) = false := beq_eq_false_iff_ne.mpr c33
                  have c33b1 : (t143 != t136) = true := bne_iff_ne.mpr c33
                  exact absurd H (by simp)
            · replace c21 := Bool.eq_false_iff.mpr c21
              subst c21
              have H1 : (some false) = some true := by rw [if_neg (show ¬ (false = true) by decide)] at H; exact H
              clear H
              have H := H1
              clear H1
              exact absurd H (by simp)
          · rw [if_neg c18] at H
            have c18b0 : (t138 == t136) = false := beq_eq_false_iff_ne.mpr c18
            have c18b1 : (t138 != t136) = true := bne_iff_ne.mpr c18
            exact absurd H (by simp)
      · replace c8 := Bool.eq_false_iff.mpr c8
        subst c8
        have H1 : (some false) = some true := by rw [if_neg (show ¬ (false = true) by decide)] at H; exact H
        clear H
        have H := H1
        clear H1
        exact absurd H (by simp)

/-- The pure statement of laws_FnExactSplitAny. -/
def laws_FnExactSplitAny.Pure : Prop := ∀ (a0 : ByteArray) (a1 : ByteArray), a0.size ≤ 140737488351232 → a1.size ≤ 140737488351232 → ∃ k, laws_FnExactSplitAny.f k a0 a1 = some true
theorem laws_FnExactSplitAny.walk (P : laws_FnExactSplitAny.Pure) (a0 : ByteArray) (a1 : ByteArray) (w : World) (w0 : a0.size ≤ 140737488351232) (w1 : a1.size ≤ 140737488351232) :
    Calls Try.prog 3 #[.string a0, .string a1] w fun e w' => e = .returned (.bool true) ∧ Below w.heap.size w w' := by
  obtain ⟨k, h⟩ := P a0 a1 w0 w1
  refine (laws_FnExactSplitAny.calls_true k a0 a1 w h).mono ?_
  rintro e w' ⟨rfl, hd⟩
  exact ⟨rfl, hd⟩

end Go.Proofs.Ytlohmpgbjgidpab.P
