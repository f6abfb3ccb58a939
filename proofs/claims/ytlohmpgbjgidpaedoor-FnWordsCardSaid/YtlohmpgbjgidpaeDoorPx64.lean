-- MADE by this project's printer (wip/mk) out of the translation; Lean checks it.
import Derived.Test.YtlohmpgbjgidpaeDoorPx0
import Derived.Laws.OwnMore
import Derived.Lib.CountLaws
import Derived.Lib.ReplaceLaws
import Derived.Test.YtlohmpgbjgidpaeDoorShSplit
namespace Go.Proofs.YtlohmpgbjgidpaeDoor.P
open Go.RowKit Go.Proofs.YtlohmpgbjgidpaeDoorW.PrintWords Go.Proofs.YtlohmpgbjgidpaeDoorW.PrintLast Go.Proofs.YtlohmpgbjgidpaeDoorW.PrintMore
attribute [local go_sem] max2_int min2_int max_two min_two max_three min_three max_four min_four   -- for this text's walks alone
set_option linter.unusedVariables false
set_option linter.unusedSimpArgs false

--IMPORT Derived.Test.YtlohmpgbjgidpaeDoorShSplit
--IMPORT Derived.Laws.OwnMore
--IMPORT Derived.Lib.CountLaws
--IMPORT Derived.Lib.ReplaceLaws
/-! ### strings_Split: function 21 -/
/-- The variable internal/bytealg.MaxLen holds some int. -/
def maxAt (w : World) : Prop := ∃ m, w.cell? ⟨2, 0, none⟩ = some (.int .i64 m)
theorem max_at {w W : World} (h : maxAt w) (hb : Below w.heap.size w W) : maxAt W := by
  obtain ⟨m, h⟩ := h
  exact ⟨m, (hb.cell (World.block_lt_of_cell? w _ h)).trans h⟩
theorem split_len (sep : ByteArray) (h1 : 1 ≤ sep.size) : ∀ (n : Nat) (s : ByteArray), Lib.countB s sep = n → (Lib.splitB sep 0 n s).length = n + 1
  | 0, s, _ => rfl
  | n + 1, s, h => by
    rcases Lib.indexB_cases s sep with hix | ⟨i, hix, _⟩
    · rw [Lib.countB_miss s sep hix] at h
      omega
    · rw [Lib.countB_hit s sep i h1 hix] at h
      rw [Lib.splitB_hit sep 0 n s i hix, List.length_cons, split_len sep h1 n _ (by omega)]
def strings_Split.f (a0 : ByteArray) (a1 : ByteArray) : Option (List ByteArray) := if a0.size < 4294967281 ∧ 1 ≤ a1.size then some (Lib.splitB a1 0 (Lib.countB a0 a1) a0) else none
theorem strings_Split.calls (a0 : ByteArray) (a1 : ByteArray) (r : List ByteArray) (w : World) (h : strings_Split.f a0 a1 = some r) (hmax : maxAt w) :
    Calls Tryd.prog 21 #[.string a0, .string a1] w fun e w' => ∃ v0_ : Value, e = .returned (v0_) ∧ Kd.R Kd.string 9 w' w.heap.size (fun _ => True) v0_ r ∧ Below w.heap.size w w' := by
  unfold strings_Split.f at h
  by_cases c : a0.size < 4294967281 ∧ 1 ≤ a1.size
  · rw [if_pos c] at h
    obtain rfl := Option.some.inj h
    obtain ⟨m, hm⟩ := hmax
    refine (Tryd.strings_Split a0 a1 m w c.1 hm c.2).mono fun e w' ⟨he, hw⟩ => ?_
    subst hw
    have hl := split_len a1 c.2 _ a0 rfl
    have hc := Lib.countB_mul_le a1 c.2 a0.size a0 (Nat.le_refl _)
    have hc2 : Lib.countB a0 a1 ≤ a0.size := Nat.le_trans (Nat.le_mul_of_pos_right _ (by omega)) hc
    refine ⟨_, he, ?_, below_alloc (Below.refl _ _) _⟩
    have ho := World.ownsRow_lit (base := w.heap.size) (e := 9) (size := 1) w ((Lib.splitB a1 0 (Lib.countB a0 a1) a0).map Value.string).toArray (Lib.countB a0 a1 + 1) (Nat.le_refl _) (by unfold maxLen; omega) (by simp [hl])
    refine Kd.R_of_own (xs := Lib.splitB a1 0 (Lib.countB a0 a1) a0) ?_ (fun _ _ => trivial)
    rw [hl]
    simpa [encs] using ho
  · rw [if_neg c] at h
    cases h

end Go.Proofs.YtlohmpgbjgidpaeDoor.P
