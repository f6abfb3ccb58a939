-- MADE by this project's printer (wip/mk) out of the translation; Lean checks it.
import Derived.Test.YtlohmpgbjgidpaaPx0
import Derived.Great.BuildSlice
import Derived.Great.Walk
namespace Go.Proofs.Ytlohmpgbjgidpaa.P
open Go.RowKit Go.Proofs.YtlohmpgbjgidpaaW.PrintWords Go.Proofs.YtlohmpgbjgidpaaW.PrintLast Go.Proofs.YtlohmpgbjgidpaaW.PrintMore
attribute [local go_sem] max2_int min2_int max_two min_two max_three min_three max_four min_four   -- for this text's walks alone
set_option linter.unusedVariables false
set_option linter.unusedSimpArgs false

--IMPORT Derived.Great.Walk
--IMPORT Derived.Great.BuildSlice
/-! ### impl_PermOk: function 33 -/
def permOkL : List Int → Nat → List Bool → Bool
  | [], _, _ => true
  | x :: l, n, seen => if x < 0 then false else if (n : Int) ≤ x then false else if rdOf false seen x = true then false else permOkL l n (seen.set x.toNat true)
def impl_PermOk.f (l0 : List Int) : Option Bool := some (if (l0.length : Int) > 24 then false else permOkL l0 l0.length (List.replicate 24 false))

theorem permOk_drop (l0 : List Int) (n : Nat) (seen : List Bool) (i : Int) (h0 : 0 ≤ i) (h : i < (l0.length : Int)) : permOkL (l0.drop i.toNat) n seen = (if rd l0 i < 0 then false else if (n : Int) ≤ rd l0 i then false else if rdOf false seen (rd l0 i) = true then false else permOkL (l0.drop (i + 1).toNat) n (seen.set (rd l0 i).toNat true)) := by
  have hl : i.toNat < l0.length := by omega
  rw [List.drop_eq_getElem_cons hl, permOkL, show (i + 1).toNat = i.toNat + 1 by omega]
  have : rd l0 i = l0[i.toNat] := by simp [rd, hl]
  rw [this]
theorem arr_cell {w : World} {g t : Nat} {seen : List Bool} (h : w.heap[g]? = some (.cells (bools seen).toArray t (0, 0))) (x : Int) (h0 : 0 ≤ x) (h1 : x < (seen.length : Int)) : w.cell? ⟨g, x.toNat, none⟩ = some (.bool (rdOf false seen x)) := by
  rw [blk_cell h]
  have hl : x.toNat < seen.length := by omega
  simp [bools, rdOf, hl]
theorem arr_set {w : World} {g t : Nat} {seen : List Bool} (h : w.heap[g]? = some (.cells (bools seen).toArray t (0, 0))) (x : Int) : (w.setCell ⟨g, x.toNat, none⟩ (.bool true)).heap[g]? = some (.cells (bools (seen.set x.toNat true)).toArray t (0, 0)) := by
  refine blk_put h _ _ ?_
  simp [bools, List.map_set]
def permZ : Array Value := (bools (List.replicate 24 false)).toArray
theorem arr_new (w : World) (t : Nat) : ((w.alloc (.cells permZ t)).setRow w.heap.size permZ).heap[w.heap.size]? = some (.cells permZ t (0, 0)) := by
  rw [setRow_heap _ _ _ _ _ _ (heap_alloc_new w _)]
theorem arr_below (w : World) (t : Nat) : Below w.heap.size w ((w.alloc (.cells permZ t)).setRow w.heap.size permZ) := by
  have h := below_alloc (Below.refl w.heap.size w) (.cells permZ t)
  refine ⟨h.os, h.tape, h.output, by simp [World.setRow], fun i hi => ?_⟩
  rw [← h.block i hi]
  simp only [World.setRow]
  rw [Array.getElem?_modify]
  split
  · omega
  · rfl
set_option maxHeartbeats 8000000 in
set_option maxRecDepth 100000 in
theorem impl_PermOk.calls (A0 : Option Addr) (c0 : Nat) (l0 : List Int) (r : Bool) (w : World) (hr0 : Kd.C (Kd.int .i64) w A0 l0.length l0) (hc0 : l0.length ≤ c0) (h : impl_PermOk.f l0 = some r) :
    Calls Try.prog 33 #[.slice A0 l0.length c0] w fun e w' => e = .returned (.bool r) ∧ Below w.heap.size w w' := by
  have HR0 := Aside0.mk hr0
  have HC0 := Aside0.mk hc0
  clear hr0 hc0
  simp only [impl_PermOk.f, Option.some.injEq] at h
  by_cases c1 : (l0.length : Int) > 24
  · rw [if_pos c1] at h
    subst h
    have c1b0 : decide (24 < (l0.length : Int)) = true := decide_eq_true c1
    have c1b1 : decide (24 < l0.length) = true := decide_eq_true (by omega)
    clear c1
    go_enter Try.func33, Try.ntmps33
    go_wp2_with (first
      | (refine wpList_buildTo rfl 75 #[] rfl (some 6) rfl permZ (by as_aux_lemma => kernel_rfl) ?_)
      | (refine Go.Great.wpList_allocTo rfl (some 3) rfl (.pointer (some ⟨w.heap.size, 0, none⟩)) (.cells permZ 75) (by as_aux_lemma => kernel_rfl) ?_)
      | (refine wpList_store_rowTo rfl 75 (.tmp 3) (.tmp 6) rfl rfl w.heap.size permZ (by as_aux_lemma => kernel_rfl) (by as_aux_lemma => kernel_rfl) 75 permZ (heap_alloc_new _ _) (by as_aux_lemma => kernel_rfl) rfl (by as_aux_lemma => kernel_rfl) ?_
         have HB := Aside0.mk (arr_below w 75)
         have HA := Aside0.mk (arr_new w 75)
         generalize (w.alloc (.cells permZ 75)).setRow w.heap.size permZ = W1 at *))
    go_ret
    exact ⟨rfl, HB.out⟩
  · rw [if_neg c1] at h
    have H := Aside0.mk h
    clear h
    have HN := Aside0.mk c1
    have c1b0 : decide (24 < (l0.length : Int)) = false := decide_eq_false c1
    have c1b1 : decide (24 < l0.length) = false := decide_eq_false (by omega)
    clear c1
    go_enter Try.func33, Try.ntmps33
    go_wp2_with (first
      | (refine wpList_buildTo rfl 75 #[] rfl (some 6) rfl permZ (by as_aux_lemma => kernel_rfl) ?_)
      | (refine Go.Great.wpList_allocTo rfl (some 3) rfl (.pointer (some ⟨w.heap.size, 0, none⟩)) (.cells permZ 75) (by as_aux_lemma => kernel_rfl) ?_)
      | (refine wpList_store_rowTo rfl 75 (.tmp 3) (.tmp 6) rfl rfl w.heap.size permZ (by as_aux_lemma => kernel_rfl) (by as_aux_lemma => kernel_rfl) 75 permZ (heap_alloc_new _ _) (by as_aux_lemma => kernel_rfl) rfl (by as_aux_lemma => kernel_rfl) ?_
         have HB := Aside0.mk (arr_below w 75)
         have HA := Aside0.mk (arr_new w 75)
         generalize (w.alloc (.cells permZ 75)).setRow w.heap.size permZ = W1 at *))
    go_loopg [12] l0.length (fun kq v12 w' => ∃ (i : Int) (seen : List Bool), v12 = .int .i64 i ∧ Aside0 (0 ≤ i ∧ i + kq = l0.length) ∧ Aside0 (seen.length = 24) ∧ Aside0 (permOkL (l0.drop i.toNat) l0.length seen = r) ∧ Aside0 (w'.heap[w.heap.size]? = some (.cells (bools seen).toArray 75 (0, 0))) ∧ Aside0 (Below w.heap.size w w'))
    case atStart => exact ⟨0, List.replicate 24 false, rfl, ⟨by omega⟩, ⟨rfl⟩, H, HA, HB⟩
    case round =>
      clear HA HB H c1b0 c1b1
      obtain ⟨i, seen, rfl, HI, HS, HP, HA, HB⟩ := hrel
      by_cases hlt : i < (l0.length : Int)
      · have hp := HP.out
        rw [permOk_drop l0 _ seen i HI.out.1 hlt] at hp
        obtain ⟨ad, e, hx⟩ := Kd.at_int HR0.out i HI.out.1 hlt
        cases e
        replace hx := (HB.out.cell (World.block_lt_of_cell? w _ hx)).trans hx
        have p0 := eq_true HI.out.1
        have p1 := eq_true hlt
        have p2 : decide (i < (l0.length : Int)) = true := decide_eq_true hlt
        have HL := Aside0.mk hlt
        clear hlt
        obtain ⟨x, hxe⟩ : ∃ x, rd l0 i = x := ⟨_, rfl⟩
        rw [hxe] at hp hx
        clear hxe
        by_cases a1 : x < 0
        · rw [if_pos a1] at hp
          subst hp
          have a1b : decide (x < 0) = true := decide_eq_true a1
          clear a1
          go_wp2
          go_ret
          exact ⟨rfl, HB.out⟩
        · rw [if_neg a1] at hp
          have a1b : decide (x < 0) = false := decide_eq_false a1
          by_cases a2 : (l0.length : Int) ≤ x
          · rw [if_pos a2] at hp
            subst hp
            have a2b : decide ((l0.length : Int) ≤ x) = true := decide_eq_true a2
            clear a1 a2
            go_wp2
            go_ret
            exact ⟨rfl, HB.out⟩
          · rw [if_neg a2] at hp
            have a2b : decide ((l0.length : Int) ≤ x) = false := decide_eq_false a2
            have hc := arr_cell HA.out x (by omega) (by have := HS.out; have := HN.out; omega)
            have hf := blk_frozen HA.out x.toNat
            have b0 : 0 ≤ x := by omega
            have b1 : x < 24 := by have := HN.out; omega
            clear a1 a2
            by_cases a3 : rdOf false seen x = true
            · rw [if_pos a3] at hp
              subst hp
              rw [a3] at hc
              clear a3
              go_wp2
              go_ret
              exact ⟨rfl, HB.out⟩
            · rw [if_neg a3] at hp
              have HP' := Aside0.mk hp
              clear hp HP
              rw [show rdOf false seen x = false by simpa using a3] at hc
              clear a3
              have HA' := Aside0.mk (arr_set HA.out x)
              go_wp2
              have hi1 : wrap64 (i + 1) = i + 1 := by
                have := HL.out; have := HN.out; have := HI.out; unfold wrap64; omega
              go_roundg (gk - 1)
              case measure => have := HI.out; have := HL.out; omega
              case rel => exact ⟨i + 1, seen.set x.toNat true, by rw [hi1], ⟨by have := HI.out; have := HL.out; omega⟩, ⟨by rw [List.length_set]; exact HS.out⟩, HP', HA', ⟨below_set HB.out (Nat.le_refl _)⟩⟩
      · have hp := HP.out
        rw [List.drop_of_length_le (by omega), permOkL] at hp
        subst hp
        have p2 : decide (i < (l0.length : Int)) = false := decide_eq_false hlt
        clear hlt
        go_wp2
        go_ret
        exact ⟨rfl, HB.out⟩


end Go.Proofs.Ytlohmpgbjgidpaa.P
