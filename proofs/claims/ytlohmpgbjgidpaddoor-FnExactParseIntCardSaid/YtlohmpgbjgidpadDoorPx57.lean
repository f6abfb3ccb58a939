-- MADE by this project's printer (wip/mk) out of the translation; Lean checks it.
import Derived.Test.YtlohmpgbjgidpadDoorPx0
import Derived.Test.YtlohmpgbjgidpadDoorPx15
import Derived.Test.YtlohmpgbjgidpadDoorPx16
import Derived.Lib.AppendIntMem
import Derived.Lib.AtoiAll
import Derived.Lib.SmallJoins
import Derived.Test.YtlohmpgbjgidpadDoorShAtoi
namespace Go.Proofs.YtlohmpgbjgidpadDoor.P
open Go.RowKit Go.Proofs.YtlohmpgbjgidpadDoorW.PrintWords Go.Proofs.YtlohmpgbjgidpadDoorW.PrintLast Go.Proofs.YtlohmpgbjgidpadDoorW.PrintMore
attribute [local go_sem] max2_int min2_int max_two min_two max_three min_three max_four min_four   -- for this text's walks alone
set_option linter.unusedVariables false
set_option linter.unusedSimpArgs false

--IMPORT Derived.Test.YtlohmpgbjgidpadDoorShAtoi
--IMPORT Derived.Lib.SmallJoins
--IMPORT Derived.Lib.AppendIntMem
--IMPORT Derived.Lib.AtoiAll
/-! ### impl_ParseInt: function 14 -/
/-- The two sentinels, where the call begins. -/
def errAt (w : World) : Prop := (∃ tp p, w.var? Tryd.prog "strconv.ErrSyntax" = some #[.iface tp p]) ∧ ∃ tp p, w.var? Tryd.prog "strconv.ErrRange" = some #[.iface tp p]
theorem err_at {w W : World} (h : errAt w) (hb : Below w.heap.size w W) : errAt W := by
  have h0 : (Tryd.prog.globalNamed "strconv.ErrSyntax").isSome = true := by kernel_rfl
  have h1 : (Tryd.prog.globalNamed "strconv.ErrRange").isSome = true := by kernel_rfl
  obtain ⟨g0, h0⟩ := Option.isSome_iff_exists.1 h0
  obtain ⟨g1, h1⟩ := Option.isSome_iff_exists.1 h1
  obtain ⟨⟨t0, p0, e0⟩, t1, p1, e1⟩ := h
  exact ⟨⟨t0, p0, Go.Joins.var_stays h0 e0 hb (Nat.le_refl _)⟩, t1, p1, Go.Joins.var_stays h1 e1 hb (Nat.le_refl _)⟩
def impl_ParseInt.f (a0 : ByteArray) : Option (Int × Bool) := if a0.size ≤ 281474976710656 then (match Lib.atoiAll a0.data.toList with
  | .ok v => (impl_FormatInt.f v).bind fun t => (if t.toList = a0.toList then some (v, true) else some (0, false))
  | _ => some (0, false)) else none
/-- The call of Atoi, where it fails. -/
theorem atoi_fails (a0 : ByteArray) (w : World) (c : a0.size ≤ 281474976710656) (he : errAt w) (h : ∀ v, Lib.atoiAll a0.data.toList ≠ .ok v) :
    Calls Tryd.prog 20 #[.string a0] w fun e w' => ∃ m N, e = .returned (.tuple #[.int .i64 m, .iface 45 (.pointer (some ⟨N, 0, none⟩))]) ∧ Below w.heap.size w w' := by
  obtain ⟨⟨t0, p0, e0⟩, t1, p1, e1⟩ := he
  cases hx : Lib.atoiAll a0.data.toList with
  | ok v => exact absurd hx (h v)
  | range => exact (Tryd.strconv_Atoi_range_var a0 c hx t1 p1 w e1).mono fun e w' ⟨N, h1, _, _, h2⟩ => ⟨_, N, h1, h2⟩
  | _ => exact (Tryd.strconv_Atoi_syntax_var a0 c hx t0 p0 w e0).mono fun e w' ⟨N, h1, _, _, h2⟩ => ⟨_, N, h1, h2⟩
theorem atoi_goes (a0 : ByteArray) (w : World) (c : a0.size ≤ 281474976710656) (v : Int) (h : Lib.atoiAll a0.data.toList = .ok v) :
    Calls Tryd.prog 20 #[.string a0] w fun e w' => e = .returned (.tuple #[.int .i64 v, .nilIface]) ∧ Below w.heap.size w w' := by
  refine (Tryd.strconv_Atoi_ok a0 (by omega) v h w).mono fun e w' ⟨h1, h2⟩ => ⟨h1, ?_⟩
  rcases h2 with rfl | ⟨t, rfl⟩
  · exact Below.refl _ _
  · exact Go.Joins.below_bytesWorld _ _ _ _ (Nat.le_refl _)
set_option maxHeartbeats 8000000 in
set_option maxRecDepth 100000 in
theorem impl_ParseInt.calls (a0 : ByteArray) (r1 : Int) (r2 : Bool) (w : World) (h : impl_ParseInt.f a0 = some (r1, r2)) (htab : tabAt w) (herr : errAt w) :
    Calls Tryd.prog 14 #[.string a0] w fun e w' => e = .returned (.tuple #[.int .i64 r1, .bool r2]) ∧ Below w.heap.size w w' := by
  have HB := Aside0.mk (Below.refl w.heap.size w)
  unfold impl_ParseInt.f at h
  by_cases c : a0.size ≤ 281474976710656
  · rw [if_pos c] at h
    by_cases hv : ∃ v, Lib.atoiAll a0.data.toList = .ok v
    · obtain ⟨v, hv⟩ := hv
      rw [hv] at h
      simp only at h
      obtain ⟨t, A2, h⟩ := Option.bind_eq_some_iff.1 h
      by_cases q : t.toList = a0.toList
      · rw [if_pos q] at h
        obtain ⟨rfl, rfl⟩ := Prod.mk.inj (Option.some.inj h)
        have q0 : (t.toList == a0.toList) = true := beq_iff_eq.mpr q
        have q1 : (t.toList != a0.toList) = false := bne_eq_false_iff_eq.mpr q
        clear q h
        go_enter Tryd.func14, Tryd.ntmps14
        go_wp2_with (first | ((with_reducible refine gate_callee (f := 20) rfl ?_); refine goesL_ (some 8) rfl rfl Tryd.func20 (by kernel_rfl) rfl #[.string a0] rfl (by (try simp only [List.map_toArray, List.map_cons, List.map_nil]); first | done | rfl | (simp only [List.length_drop, List.length_take]; rfl)) ?_; (with_reducible refine (atoi_goes a0 _ c v hv).mono ?_); rintro e w3 ⟨rfl, hb⟩; refine ⟨_, rfl, ?_⟩; have n0_ := Aside0.mk (below_step HB.out hb); clear HB; have HB := n0_; clear n0_ hb) | (go_at_call 7; (with_reducible refine (impl_FormatInt.calls v t _ A2 (tab_at htab HB.out)).mono ?_); rintro e w4 ⟨rfl, hb⟩; have n0_ := Aside0.mk (below_step HB.out hb); clear HB; have HB := n0_; clear n0_ hb))
        go_ret2
        exact ⟨by first | rfl | (simp <;> rfl) | (simp [*] <;> rfl), HB.out⟩
      · rw [if_neg q] at h
        obtain ⟨rfl, rfl⟩ := Prod.mk.inj (Option.some.inj h)
        have q0 : (t.toList == a0.toList) = false := beq_eq_false_iff_ne.mpr q
        have q1 : (t.toList != a0.toList) = true := bne_iff_ne.mpr q
        clear q h
        go_enter Tryd.func14, Tryd.ntmps14
        go_wp2_with (first | ((with_reducible refine gate_callee (f := 20) rfl ?_); refine goesL_ (some 8) rfl rfl Tryd.func20 (by kernel_rfl) rfl #[.string a0] rfl (by (try simp only [List.map_toArray, List.map_cons, List.map_nil]); first | done | rfl | (simp only [List.length_drop, List.length_take]; rfl)) ?_; (with_reducible refine (atoi_goes a0 _ c v hv).mono ?_); rintro e w3 ⟨rfl, hb⟩; refine ⟨_, rfl, ?_⟩; have n0_ := Aside0.mk (below_step HB.out hb); clear HB; have HB := n0_; clear n0_ hb) | (go_at_call 7; (with_reducible refine (impl_FormatInt.calls v t _ A2 (tab_at htab HB.out)).mono ?_); rintro e w4 ⟨rfl, hb⟩; have n0_ := Aside0.mk (below_step HB.out hb); clear HB; have HB := n0_; clear n0_ hb))
        go_ret2
        exact ⟨by first | rfl | (simp <;> rfl) | (simp [*] <;> rfl), HB.out⟩
    · have hn : ∀ v, Lib.atoiAll a0.data.toList ≠ .ok v := fun v e => hv ⟨v, e⟩
      have h' : (0, false) = (r1, r2) := by
        cases hx : Lib.atoiAll a0.data.toList with
        | ok v => exact absurd hx (hn v)
        | _ => rw [hx] at h; exact Option.some.inj h
      obtain ⟨rfl, rfl⟩ := Prod.mk.inj h'
      clear h h'
      go_enter Tryd.func14, Tryd.ntmps14
      go_wp2_with (first | ((with_reducible refine gate_callee (f := 20) rfl ?_); refine goesL_ (some 8) rfl rfl Tryd.func20 (by kernel_rfl) rfl #[.string a0] rfl (by (try simp only [List.map_toArray, List.map_cons, List.map_nil]); first | done | rfl | (simp only [List.length_drop, List.length_take]; rfl)) ?_; (with_reducible refine (atoi_fails a0 _ c (err_at herr HB.out) hn).mono ?_); rintro e w3 ⟨m, N, rfl, hb⟩; refine ⟨_, rfl, ?_⟩; have n0_ := Aside0.mk (below_step HB.out hb); clear HB; have HB := n0_; clear n0_ hb))
      go_ret2
      exact ⟨by first | rfl | (simp <;> rfl) | (simp [*] <;> rfl), HB.out⟩
  · rw [if_neg c] at h
    cases h

end Go.Proofs.YtlohmpgbjgidpadDoor.P
