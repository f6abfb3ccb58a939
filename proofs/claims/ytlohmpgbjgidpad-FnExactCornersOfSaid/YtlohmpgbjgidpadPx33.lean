-- MADE by this project's printer (wip/mk) out of the translation; Lean checks it.
import Derived.Test.YtlohmpgbjgidpadPx0
import Derived.Test.YtlohmpgbjgidpadPx31
namespace Go.Proofs.Ytlohmpgbjgidpad.P
open Go.RowKit Go.Proofs.YtlohmpgbjgidpadW.PrintWords Go.Proofs.YtlohmpgbjgidpadW.PrintLast Go.Proofs.YtlohmpgbjgidpadW.PrintMore
attribute [local go_sem] max2_int min2_int max_two min_two max_three min_three max_four min_four   -- for this text's walks alone
set_option linter.unusedVariables false
set_option linter.unusedSimpArgs false

/-! ### laws_markIntSS: function 21 -/
def laws_markIntSS.l0 : Nat → List (List Int) → Int → Int → Option (Int × List (List Int))
  | 0, _, _, _ => none
  | k + 1, x0, x1, x5 => if x5 < (x0.length : Int) then (if 0 ≤ x5 then ((laws_markIntS.f k (rd_L1 x0 x5) x1).bind fun t => laws_markIntSS.l0 k (x0.set (x5 : Int).toNat t.2) t.1 (wrap64 (x5 + 1))) else (none)) else (some (x1, x0))
def laws_markIntSS.f (k : Nat) (l0 : List (List Int)) (a1 : Int) : Option (Int × List (List Int)) := laws_markIntSS.l0 k l0 a1 0
theorem laws_markIntSS.mono_l : ∀ k, (∀ y0 y1 y2, LeO (laws_markIntSS.l0 k y0 y1 y2) (laws_markIntSS.l0 (k + 1) y0 y1 y2))
  | 0 => fun _ _ _ r h => by simp [laws_markIntSS.l0] at h
  | k + 1 => by
    have ih0 := laws_markIntSS.mono_l k
    intro y0 y1 y2
    unfold laws_markIntSS.l0
    refine LeO.ite (LeO.ite (LeO.bind (laws_markIntS.mono _ _ _) (fun _ => ih0 _ _ _)) (LeO.none _)) (LeO.refl _)
theorem laws_markIntSS.mono : ∀ a0 a1 k, LeO (laws_markIntSS.f k a0 a1) (laws_markIntSS.f (k + 1) a0 a1) := fun a0 a1 k => laws_markIntSS.mono_l k _ _ _
/-- What is kept but for one row's own block is told of it alone. -/
theorem grown_of_kept {w0 w w1 : World} {row : Option Nat} (hb : Below w0.heap.size w0 w) (hb' : Below w0.heap.size w0 w1) (h : Kept w w1 (fun k => some k = row)) : w.grownBy w1 row := ⟨by rw [hb'.os, ← hb.os], by rw [hb'.tape, ← hb.tape], by rw [hb'.output, ← hb.output], h.1, fun k hk hr => h.2 k hk hr⟩
theorem ownB_ {A : Option Addr} {n c n' c' : Nat} : (Value.slice A n c).ownBlock = (Value.slice A n' c').ownBlock := by cases A <;> simp [Value.ownBlock]
/-- Two rows of rows that have no block in common, nor one of which P speaks. -/
def SepR (t : Nat) (P : Nat → Prop) (W : World) (base : Nat) (v3 : Value) (x3 : List (List Int)) (v5 : Value) (x5 : List (List Int)) : Prop :=
  ∃ ok3 ok5 : Nat → Prop, Kd.S (Kd.slice 3 (Kd.int .i64)) t W base ok3 v3 x3 ∧ Kd.S (Kd.slice 3 (Kd.int .i64)) t W base ok5 v5 x5 ∧ (∀ k, ok3 k → ¬ ok5 k) ∧ (∀ k, ok3 k → ¬ P k) ∧ ∀ k, ok5 k → ¬ P k
theorem SepR.below {t : Nat} {P : Nat → Prop} {W W1 : World} {base : Nat} {v3 v5 : Value} {x3 x5 : List (List Int)} (h : SepR t P W base v3 x3 v5 x5) (hb : Below W.heap.size W W1) : SepR t P W1 base v3 x3 v5 x5 := by
  obtain ⟨ok3, ok5, a, b, c⟩ := h
  exact ⟨ok3, ok5, Kd.S_below a hb, Kd.S_below b hb, c⟩
theorem SepR.alloc {t : Nat} {P : Nat → Prop} {W : World} {base : Nat} {v3 v5 : Value} {x3 x5 : List (List Int)} (h : SepR t P W base v3 x3 v5 x5) (o : Obj) : SepR t P (W.alloc o) base v3 x3 v5 x5 := h.below (below_alloc (Below.refl _ _) o)
theorem SepR.drew {t : Nat} {P : Nat → Prop} {W : World} {base : Nat} {v3 v5 : Value} {x3 x5 : List (List Int)} (h : SepR t P W base v3 x3 v5 x5) : SepR t P W.drew base v3 x3 v5 x5 := h.below (below_drew (Below.refl _ _))
theorem SepR.drewN {t : Nat} {P : Nat → Prop} {W : World} {base : Nat} {v3 v5 : Value} {x3 x5 : List (List Int)} (h : SepR t P W base v3 x3 v5 x5) (m : Nat) : SepR t P (W.drewN m) base v3 x3 v5 x5 := h.below (pw_below_drewN (Below.refl _ _) m)
theorem SepR.at_ {t : Nat} {P : Nat → Prop} {W W1 : World} {m : Nat} {base : Nat} {v3 v5 : Value} {x3 x5 : List (List Int)} (hq : W.drewN m = W1) (h : SepR t P W base v3 x3 v5 x5) : SepR t P W1 base v3 x3 v5 x5 := hq ▸ h.drewN m
theorem SepR.kept {t : Nat} {P : Nat → Prop} {W W1 : World} {base : Nat} {v3 v5 : Value} {x3 x5 : List (List Int)} (h : SepR t P W base v3 x3 v5 x5) (hk : Kept W W1 P) : SepR t P W1 base v3 x3 v5 x5 := by
  obtain ⟨ok3, ok5, a, b, c, d, e⟩ := h
  exact ⟨ok3, ok5, Kd.S_kept a hk d, Kd.S_kept b hk e, c, d, e⟩
theorem SepR.weak {t : Nat} {P : Nat → Prop} {W : World} {base : Nat} {v3 v5 : Value} {x3 x5 : List (List Int)} (h : SepR t P W base v3 x3 v5 x5) : SepR t (fun _ => False) W base v3 x3 v5 x5 := by
  obtain ⟨ok3, ok5, a, b, c, d, e⟩ := h
  exact ⟨ok3, ok5, a, b, c, fun _ _ h => h, fun _ _ h => h⟩
theorem sepR_new {t : Nat} {P : Nat → Prop} {W1 : World} {base N : Nat} {ok3 ok5 : Nat → Prop} {v3 v5 : Value} {x3 x5 : List (List Int)} (h3 : Kd.S (Kd.slice 3 (Kd.int .i64)) t W1 base (fun k => ok3 k ∧ k < N) v3 x3) (h5 : Kd.S (Kd.slice 3 (Kd.int .i64)) t W1 N ok5 v5 x5) (hl : base ≤ N) (p3 : ∀ k, ok3 k → ¬ P k) (p5 : ∀ k, N ≤ k → ¬ P k) : SepR t P W1 base v3 x3 v5 x5 :=
  ⟨fun k => ok3 k ∧ k < N, fun k => ok5 k ∧ N ≤ k, h3, Kd.S_lower (Kd.S_mono (Kd.S_bound h5) fun k hk => ⟨hk.1, hk.2.1⟩) hl, fun k a b => by have := a.2; have := b.2; omega, fun k a => p3 k a.1, fun k a => p5 k a.2⟩
set_option maxHeartbeats 8000000 in
set_option maxRecDepth 100000 in
theorem laws_markIntSS.calls (k : Nat) (P0_ : Nat → Prop) (u0_ : Value) (l0 : List (List Int)) (a1 : Int) (r1 : Int) (r2 : List (List Int)) (w0 w : World) (hB : Below w0.heap.size w0 w) (ho0 : Kd.S (Kd.slice 3 (Kd.int .i64)) 22 w w0.heap.size P0_ u0_ l0) (h : laws_markIntSS.f k l0 a1 = some (r1, r2)) :
    Calls Try.prog 21 #[u0_, .int .i64 a1] w fun e w' => e = .returned (.int .i64 r1) ∧ Kd.S (Kd.slice 3 (Kd.int .i64)) 22 w' w0.heap.size (fun k_ => P0_ k_) u0_ r2 ∧ Below w0.heap.size w0 w' ∧ Kept w w' (fun k_ => P0_ k_) := by
  have HO : Aside0 (Kd.S (Kd.slice 3 (Kd.int .i64)) 22 w w0.heap.size (fun k_ => P0_ k_) u0_ l0) := ⟨ho0⟩
  have HK := Aside0.mk (Kept.refl w (fun k_ => P0_ k_))
  have HB := Aside0.mk hB
  obtain ⟨A0, c0, e0⟩ := Kd.S_slice ho0
  subst e0
  clear ho0 hB
  have H : (laws_markIntSS.l0 k l0 a1 0) = some (r1, r2) := h
  clear h
  have H' := Aside0.mk H
  clear H
  go_enter Try.func21, Try.ntmps21
  go_wp2
  go_loopg [1, 5] k (fun kq v1 v5 w' => ∃ (x0_1 : List (List Int)) (x1_1 : Int) (x5_1 : Int), v1 = .int .i64 x1_1 ∧ v5 = .int .i64 x5_1 ∧ Aside0 (laws_markIntSS.l0 kq x0_1 x1_1 x5_1 = some (r1, r2)) ∧ Aside0 (kq ≤ k) ∧ Aside0 (x0_1.length = l0.length) ∧ Aside0 (Kd.S (Kd.slice 3 (Kd.int .i64)) 22 w' w0.heap.size (fun k_ => P0_ k_) (.slice A0 l0.length c0) x0_1) ∧ Aside0 (Below w0.heap.size w0 w') ∧ Aside0 (Kept w w' (fun k_ => P0_ k_)))
  case atStart => exact ⟨l0, a1, 0, rfl, rfl, H', ⟨Nat.le_refl _⟩, ⟨rfl⟩, HO, HB, HK⟩
  case round =>
    clear H' HO HB HK
    obtain ⟨x0_1, x1_1, x5_1, rfl, rfl, HA, HK1, HL, HO, HB, HK⟩ := hrel
    cases gk with
    | zero => exact absurd HA.out (by simp [laws_markIntSS.l0])
    | succ k1 =>
      have H := HA.out
      clear HA
      simp only [laws_markIntSS.l0] at H
      by_cases c3 : x5_1 < (x0_1.length : Int)
      · rw [if_pos c3] at H
        have c3b0 : decide (x5_1 < (l0.length : Int)) = true := decide_eq_true (by have := HL.out; omega)
        by_cases c4 : 0 ≤ x5_1
        · rw [if_pos c4] at H
          obtain ⟨⟨t1, t2⟩, A50, H⟩ := Option.bind_eq_some_iff.mp H
          have A5 := Aside0.mk A50
          clear A50
          have H' := Aside0.mk H
          clear H
          obtain ⟨g, cap, e1, _⟩ := Kd.S_form HO.out (by omega)
          have hn := HL.out
          obtain ⟨ad, rfl⟩ : ∃ ad, A0 = some ad := by injection e1 with e1; exact ⟨_, e1⟩
          obtain ⟨oki, c, hcl, hM, hcc, hoki, hback⟩ := Kd.S_borrow HO.out [] x5_1 c4 (by omega)
          obtain ⟨v, rfl, hR⟩ := hM
          have hx := hcc 0 v rfl
          rw [show x5_1.toNat * (Kd.slice 3 (Kd.int .i64)).sz + 0 = x5_1.toNat from Nat.mul_one _] at hx
          have HX := Aside0.mk hx
          have HR := Aside0.mk hR
          have HBK : Aside0 (∀ (w1 : World) (row : Option Nat) (x' : List Int), wr.grownBy w1 row → (∀ k, row = some k → oki k) → (Kd.slice 3 (Kd.int .i64)).M w1 w0.heap.size oki x' [v] → Kd.S (Kd.slice 3 (Kd.int .i64)) 22 w1 w0.heap.size (fun k_ => P0_ k_) (.slice (some ad) l0.length c0) (x0_1.set x5_1.toNat x')) := ⟨fun _ _ _ a b c => hback a b c⟩
          have HOK := Aside0.mk hoki
          clear e1 hcl hcc hback hoki hx hR hn
          have p248 : 0 ≤ (x5_1 : Int) := c4
          have q248 : x5_1 < (l0.length : Int) := of_decide_eq_true c3b0
          clear c3 c4
          have hx248_0 := HX.out
          replace p248 := eq_true p248
          replace q248 := eq_true q248
          go_wp2_with (first | (go_at_call 37; (with_reducible refine (laws_markIntS.calls k1 (fun k_ => some k_ = v.ownBlock) v (rd_L1 x0_1 x5_1) x1_1 t1 t2 w0 _ ?side1 ?side2 A5.out).mono ?_); (case side1 => exact HB.out); (case side2 => exact Kd.R_tight rfl HR.out); rintro e w2 ⟨rfl, hy0, hb, hkp⟩; have HY := Aside0.mk hy0; have HB2 := Aside0.mk hb; have HKP := Aside0.mk hkp; clear hy0 hb hkp))
          go_roundg k1
          case measure => have := HK1.out; omega
          case rel =>
            refine ⟨x0_1.set x5_1.toNat t2, t1, (wrap64 (x5_1 + 1)), rfl, rfl, H', ⟨by have := HK1.out; omega⟩, ⟨by rw [List.length_set]; exact HL.out⟩, ⟨?_⟩, HB2, ⟨?_⟩⟩
            · exact HBK.out _ _ _ (grown_of_kept HB.out HB2.out HKP.out) (fun k hk => HR.out.1 k hk) (Kd.M_row (Kd.R_reok rfl HY.out (fun k hk => HR.out.1 k hk)))
            · exact HK.out.then_ HKP.out (fun k hk => .inl (HOK.out k (HR.out.1 k hk.symm)).1)
        · rw [if_neg c4] at H
          exact absurd H (by simp)
      · rw [if_neg c3] at H
        have c3b0 : decide (x5_1 < (l0.length : Int)) = false := decide_eq_false (by have := HL.out; omega)
        clear c3
        obtain ⟨rfl, rfl⟩ := Prod.mk.inj (Option.some.inj H)
        clear H
        go_wp2
        go_ret
        exact ⟨rfl, HO.out, HB.out, HK.out⟩

end Go.Proofs.Ytlohmpgbjgidpad.P
