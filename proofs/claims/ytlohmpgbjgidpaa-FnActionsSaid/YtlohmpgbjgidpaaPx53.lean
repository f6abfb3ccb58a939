-- MADE by this project's printer (wip/mk) out of the translation; Lean checks it.
import Derived.Test.YtlohmpgbjgidpaaPx0
import Derived.Test.YtlohmpgbjgidpaaPx47
import Derived.Test.YtlohmpgbjgidpaaPx52
import Derived.StillTailTactics
namespace Go.Proofs.Ytlohmpgbjgidpaa.P
open Go.RowKit Go.Proofs.YtlohmpgbjgidpaaW.PrintWords Go.Proofs.YtlohmpgbjgidpaaW.PrintLast Go.Proofs.YtlohmpgbjgidpaaW.PrintMore
attribute [local go_sem] max2_int min2_int max_two min_two max_three min_three max_four min_four   -- for this text's walks alone
set_option linter.unusedVariables false
set_option linter.unusedSimpArgs false

--IMPORT Derived.StillTailTactics
/-! ### impl_CanonOf: function 27 -/
/-- slices.MinFunc at compareSurfaces: the least; of equals the first. -/
def minOf.l0 : Nat → List S33 → Int → S33 → Option S33
  | 0, _, _, _ => none
  | k + 1, xs, i, m => if i < (xs.length : Int) then ((impl_compareSurfaces.f k (rd_T33 xs i).f0 (rd_T33 xs i).f1 m.f0 m.f1).bind fun c => if c < 0 then minOf.l0 k xs (wrap64 (i + 1)) (rd_T33 xs i) else minOf.l0 k xs (wrap64 (i + 1)) m) else some m
/-- Element j of the row, where it lies. -/
def ElemAt (w : World) (ad : Addr) (xs : List S33) (j : Nat) (A0 : Option Addr) (c0 : Nat) (A1 : Option Addr) (c1 : Nat) : Prop :=
  j < xs.length ∧ w.cell? (ad.add (j * 2)) = some (.slice A0 (rd_T33 xs j).f0.length c0) ∧ w.cell? ⟨(ad.add (j * 2)).block, (ad.add (j * 2)).off + 1, none⟩ = some (.slice A1 (rd_T33 xs j).f1.length c1) ∧ (rd_T33 xs j).f0.length ≤ c0 ∧ (Kd.int .i64).C w A0 (rd_T33 xs j).f0.length (rd_T33 xs j).f0 ∧ (rd_T33 xs j).f1.length ≤ c1 ∧ (Kd.int .i64).C w A1 (rd_T33 xs j).f1.length (rd_T33 xs j).f1
theorem elem_at {w : World} {ad : Addr} {xs : List S33} (h : Kd.C k33 w (some ad) xs.length xs) (j : Nat) (hj : j < xs.length) : ∃ A0 c0 A1 c1, ElemAt w ad xs j A0 c0 A1 c1 := by
  obtain ⟨ad', A0, c0, A1, c1, e, h0, h1, h2⟩ := at_T33 h (j : Int) (by omega) (by omega)
  cases e
  rw [Int.toNat_natCast] at h0 h1
  exact ⟨A0, c0, A1, c1, hj, h0, h1, h2⟩
set_option maxHeartbeats 8000000 in
set_option maxRecDepth 100000 in
theorem minFunc_calls (k : Nat) (ad : Addr) (c : Nat) (xs : List S33) (m : S33) (w : World) (hC : Kd.C k33 w (some ad) xs.length xs) (hn : 0 < xs.length) (hc : xs.length ≤ c) (hlen : xs.length ≤ 9223372036854775807) (h : minOf.l0 k xs 1 (rd_T33 xs 0) = some m) :
    Calls Try.prog 70 #[.slice (some ad) xs.length c, .func (.func 71) #[] #[]] w fun e w' => ∃ (j : Nat) (A0 : Option Addr) (c0 : Nat) (A1 : Option Addr) (c1 : Nat), ElemAt w ad xs j A0 c0 A1 c1 ∧ rd_T33 xs j = m ∧ e = .returned (.agg #[.slice A0 m.f0.length c0, .slice A1 m.f1.length c1]) ∧ Below w.heap.size w w' := by
  have hu33 := Try.underlying33
  have HC := Aside0.mk hC
  have H := Aside0.mk h
  have HN := Aside0.mk hlen
  have c1b0 : decide ((xs.length : Int) < 1) = false := decide_eq_false (by omega)
  have c1b1 : decide (xs.length < 1) = false := decide_eq_false (by omega)
  obtain ⟨A0, c0, A1, c1, he⟩ := elem_at hC 0 hn
  have HE := Aside0.mk he
  have HZ := Aside0.mk (show ad.add (0 * 2) = ad by simp [Addr.add])
  clear hC h hlen he
  go_enter Try.func70, Try.ntmps70
  go_wp2_with (first
    | ((with_reducible refine gate_dst (N := 4) rfl ?_); refine box_event ?hg (N := 4) ?hd (cs := #[.slice none 0 0, .slice none 0 0]) (t := 33) ?hr ?_; (case hd => rfl); (case hg => rfl); (case hr => first | (go_simp; done) | (go_simp; rfl)); intro gb4 hg w1 hbox hb; have BK4 := Aside0.mk hbox; have HB1 := Aside0.mk hb; have G4 := Aside0.mk hg; have hx0 := (hb.cell (World.block_lt_of_cell? w _ HE.out.2.1)).trans HE.out.2.1; have hx1 := (hb.cell (World.block_lt_of_cell? w _ HE.out.2.2.1)).trans HE.out.2.2.1; rw [HZ.out] at hx0 hx1; clear hg hbox hb)
    | ((with_reducible refine gate_dst (N := 5) rfl ?_); refine box_event ?hg (N := 5) ?hd (cs := #[.slice none 0 0, .slice none 0 0]) (t := 33) ?hr ?_; (case hd => rfl); (case hg => rfl); (case hr => first | (go_simp; done) | (go_simp; rfl)); intro gb5 hg w2 hbox hb; have BK5 := Aside0.mk hbox; have HB2 := Aside0.mk hb; have G5 := Aside0.mk hg; have hk0 := (blk_cell BK5.out 0).trans rfl; have hk1 := (blk_cell BK5.out 1).trans rfl; have hf0 := blk_frozen BK5.out 0; have hf1 := blk_frozen BK5.out 1; clear hg hbox hb))
  have L1 : w.heap.size ≤ w1.heap.size := HB1.out.size
  have L4 : gb4 < w1.heap.size := blk_lt BK4.out
  have HBw2 := Aside0.mk (below_then HB1.out L1 HB2.out)
  have GE5 := Aside0.mk (show w.heap.size ≤ gb5 by have := G5.out; omega)
  have GE4 := Aside0.mk (show w.heap.size ≤ gb4 by have := G4.out; omega)
  have NE := Aside0.mk (show gb4 ≠ gb5 by have := G5.out; omega)
  have BK4' := Aside0.mk (blk_far (blk_far (blk_below BK4.out HB2.out) (p := ⟨gb5, 0, none⟩) NE.out (.slice A0 (rd_T33 xs (0 : Nat)).f0.length c0)) (p := ⟨gb5, 1, none⟩) NE.out (.slice A1 (rd_T33 xs (0 : Nat)).f1.length c1))
  have BK5' := Aside0.mk (blk_put (blk_put BK5.out 0 (.slice A0 (rd_T33 xs (0 : Nat)).f0.length c0) rfl) 1 (.slice A1 (rd_T33 xs (0 : Nat)).f1.length c1) rfl)
  have HBw3 := Aside0.mk (below_set (g := gb5) (j := 1) (v := .slice A1 (rd_T33 xs (0 : Nat)).f1.length c1) (below_set (g := gb5) (j := 0) (v := .slice A0 (rd_T33 xs (0 : Nat)).f0.length c0) HBw2.out GE5.out) GE5.out)
  clear L1 L4 hx0 hx1 hk0 hk1 hf0 hf1 c1b0 c1b1
  go_loopg [6] k (fun kq v6 w' => ∃ (i : Int) (j : Nat) (A0 : Option Addr) (c0 : Nat) (A1 : Option Addr) (c1 : Nat), v6 = .int .i64 i ∧ Aside0 (0 ≤ i) ∧ Aside0 (minOf.l0 kq xs i (rd_T33 xs j) = some m) ∧ Aside0 (ElemAt w ad xs j A0 c0 A1 c1) ∧ Aside0 (w'.heap[gb5]? = some (.cells #[.slice A0 (rd_T33 xs j).f0.length c0, .slice A1 (rd_T33 xs j).f1.length c1] 33 (0, 0))) ∧ Aside0 (w'.heap[gb4]? = some (.cells #[.slice none 0 0, .slice none 0 0] 33 (0, 0))) ∧ Aside0 (Below w.heap.size w w'))
  case atStart => exact ⟨1, 0, A0, c0, A1, c1, rfl, ⟨by decide⟩, H, HE, BK5', BK4', HBw3⟩
  case round =>
    clear H HE BK5 BK4 HB1 HB2 G4 G5 HBw2 BK4' BK5' HBw3
    obtain ⟨i, j, A0, c0, A1, c1, rfl, HI, H, HE, BK5, BK4, HB⟩ := hrel
    obtain ⟨n, rfl⟩ : ∃ n : Nat, i = n := ⟨i.toNat, by have := HI.out; omega⟩
    cases gk with
    | zero => exact absurd H.out (by simp [minOf.l0])
    | succ k1 =>
      have h := H.out
      clear H
      simp only [minOf.l0] at h
      by_cases hlt : (n : Int) < (xs.length : Int)
      · rw [if_pos hlt] at h
        obtain ⟨cv, A, h⟩ := Option.bind_eq_some_iff.mp h
        have AC := Aside0.mk A
        have H := Aside0.mk h
        clear A h
        obtain ⟨B0, d0, B1, d1, he2⟩ := elem_at HC.out n (by omega)
        have HE2 := Aside0.mk he2
        have hy0 := (HB.out.cell (World.block_lt_of_cell? w _ he2.2.1)).trans he2.2.1
        have hy1 := (HB.out.cell (World.block_lt_of_cell? w _ he2.2.2.1)).trans he2.2.2.1
        have b0 : decide ((n : Int) < (xs.length : Int)) = true := decide_eq_true hlt
        have b1 : decide (n < xs.length) = true := decide_eq_true (by omega)
        have b2 : (0 : Int) ≤ n := by omega
        have b3 := hlt
        clear he2 hlt
        have hk0 := (blk_cell BK5.out 0).trans rfl
        have hk1 := (blk_cell BK5.out 1).trans rfl
        go_wp2_with fail
        go_still_tail 6, (by kernel_rfl)
        have HB' := Aside0.mk (below_drew1 HB.out)
        have BK4' := Aside0.mk (blk_drew BK4.out)
        have BK5' := Aside0.mk (blk_drew BK5.out)
        clear HB BK4 BK5 hy0 hy1 hk0 hk1
        change wpList _ _ _ _ _ wr.drew
        generalize wr.drew = w3 at HB' BK4' BK5' ⊢
        have hw1 : wrap64 ((n : Int) + 1) = ((n + 1 : Nat) : Int) := by have := HN.out; unfold wrap64; omega
        have HW := Aside0.mk hw1
        clear hw1
        by_cases hcv : cv < 0
        · have H' := H.out
          rw [if_pos hcv] at H'
          have H2 := Aside0.mk H'
          have q0 : decide (cv < 0) = true := decide_eq_true hcv
          clear H H' hcv
          go_wp2_with (go_at_call 71; (refine (impl_compareSurfaces.calls k1 B0 d0 _ B1 d1 _ A0 c0 _ A1 c1 _ cv _ (Kd.C_below HE2.out.2.2.2.2.1 HB'.out) HE2.out.2.2.2.1 (Kd.C_below HE2.out.2.2.2.2.2.2 HB'.out) HE2.out.2.2.2.2.2.1 (Kd.C_below HE.out.2.2.2.2.1 HB'.out) HE.out.2.2.2.1 (Kd.C_below HE.out.2.2.2.2.2.2 HB'.out) HE.out.2.2.2.2.2.1 AC.out).mono ?_); rintro e w4 ⟨rfl, hb⟩; have HB4 := Aside0.mk (below_then HB'.out HB'.out.size hb); have zb := Aside0.mk (blk_below BK4'.out hb); have za := Aside0.mk (blk_below BK5'.out hb); have hy0 := (HB4.out.cell (World.block_lt_of_cell? w _ HE2.out.2.1)).trans HE2.out.2.1; have hy1 := (HB4.out.cell (World.block_lt_of_cell? w _ HE2.out.2.2.1)).trans HE2.out.2.2.1; have hk0 := (blk_cell za.out 0).trans rfl; have hk1 := (blk_cell za.out 1).trans rfl; have hf0 := blk_frozen za.out 0; have hf1 := blk_frozen za.out 1; clear hb)
          go_roundg k1
          case measure => omega
          case rel =>
            exact ⟨((n + 1 : Nat) : Int), n, B0, d0, B1, d1, by rw [HW.out], ⟨by omega⟩, ⟨by rw [← HW.out]; exact H2.out⟩, HE2, ⟨blk_put (blk_put za.out 0 _ rfl) 1 _ rfl⟩, ⟨blk_far (blk_far zb.out (p := ⟨gb5, 0, none⟩) NE.out _) (p := ⟨gb5, 1, none⟩) NE.out _⟩, ⟨below_set (g := gb5) (j := 1) (below_set (g := gb5) (j := 0) HB4.out GE5.out) GE5.out⟩⟩
        · have H' := H.out
          rw [if_neg hcv] at H'
          have H2 := Aside0.mk H'
          have q0 : decide (cv < 0) = false := decide_eq_false hcv
          clear H H' hcv
          go_wp2_with (go_at_call 71; (refine (impl_compareSurfaces.calls k1 B0 d0 _ B1 d1 _ A0 c0 _ A1 c1 _ cv _ (Kd.C_below HE2.out.2.2.2.2.1 HB'.out) HE2.out.2.2.2.1 (Kd.C_below HE2.out.2.2.2.2.2.2 HB'.out) HE2.out.2.2.2.2.2.1 (Kd.C_below HE.out.2.2.2.2.1 HB'.out) HE.out.2.2.2.1 (Kd.C_below HE.out.2.2.2.2.2.2 HB'.out) HE.out.2.2.2.2.2.1 AC.out).mono ?_); rintro e w4 ⟨rfl, hb⟩; have HB4 := Aside0.mk (below_then HB'.out HB'.out.size hb); have zb := Aside0.mk (blk_below BK4'.out hb); have za := Aside0.mk (blk_below BK5'.out hb); have hy0 := (HB4.out.cell (World.block_lt_of_cell? w _ HE2.out.2.1)).trans HE2.out.2.1; have hy1 := (HB4.out.cell (World.block_lt_of_cell? w _ HE2.out.2.2.1)).trans HE2.out.2.2.1; have hk0 := (blk_cell za.out 0).trans rfl; have hk1 := (blk_cell za.out 1).trans rfl; have hf0 := blk_frozen za.out 0; have hf1 := blk_frozen za.out 1; clear hb)
          go_roundg k1
          case measure => omega
          case rel =>
            exact ⟨((n + 1 : Nat) : Int), j, A0, c0, A1, c1, by rw [HW.out], ⟨by omega⟩, ⟨by rw [← HW.out]; exact H2.out⟩, HE, za, zb, HB4⟩
      · rw [if_neg hlt] at h
        obtain rfl := Option.some.inj h
        clear h
        have b0 : decide ((n : Int) < (xs.length : Int)) = false := decide_eq_false hlt
        have b1 : decide (n < xs.length) = false := decide_eq_false (by omega)
        have hk0 := (blk_cell BK5.out 0).trans rfl
        have hk1 := (blk_cell BK5.out 1).trans rfl
        have hg0 := (blk_cell BK4.out 0).trans rfl
        have hg1 := (blk_cell BK4.out 1).trans rfl
        have hf0 := blk_frozen BK4.out 0
        have hf1 := blk_frozen BK4.out 1
        clear hlt
        go_wp2
        refine bodyPost_ret (results_cell_row rfl _ _ gb4 33 #[.slice A0 (rd_T33 xs j).f0.length c0, .slice A1 (rd_T33 xs j).f1.length c1] (0, 0) _ rfl (blk_put (blk_put BK4.out 0 _ rfl) 1 _ rfl) Try.underlying33 rfl (by kernel_rfl)) rfl ?_
        exact ⟨j, A0, c0, A1, c1, HE.out, rfl, rfl, below_set (g := gb4) (j := 1) (below_set (g := gb4) (j := 0) HB.out GE4.out) GE4.out⟩
def impl_CanonOf.f (k : Nat) (l0_0 : List Int) (l0_1 : List Int) : Option (List Int × List Int × Bool) := (impl_namedFrom.f k l0_0 l0_1).bind fun xs => if (xs.length : Int) = 0 then some ([], [], false) else (minOf.l0 k xs 1 (rd_T33 xs 0)).bind fun m => some (m.f0, m.f1, true)
theorem minOf.mono : ∀ k xs i m, LeO (minOf.l0 k xs i m) (minOf.l0 (k + 1) xs i m)
  | 0 => fun _ _ _ r h => by simp [minOf.l0] at h
  | k + 1 => by
    have ih := minOf.mono k
    intro xs i m
    unfold minOf.l0
    exact LeO.ite (LeO.bind (impl_compareSurfaces.mono _ _ _ _ k) fun c => LeO.ite (ih _ _ _) (ih _ _ _)) (LeO.refl _)
theorem impl_CanonOf.mono : ∀ a0 a1 k, LeO (impl_CanonOf.f k a0 a1) (impl_CanonOf.f (k + 1) a0 a1) := by
  intro a0 a1 k
  unfold impl_CanonOf.f
  exact LeO.bind (impl_namedFrom.mono a0 a1 k) fun xs => LeO.ite (LeO.refl _) (LeO.bind (minOf.mono k _ _ _) fun _ => LeO.refl _)
set_option maxHeartbeats 8000000 in
set_option maxRecDepth 100000 in
theorem impl_CanonOf.calls (k : Nat) (A0_0 : Option Addr) (c0_0 : Nat) (l0_0 : List Int) (A0_1 : Option Addr) (c0_1 : Nat) (l0_1 : List Int) (r1 : List Int) (r2 : List Int) (r3 : Bool) (w : World) (hr0_0 : Kd.C (Kd.int .i64) w A0_0 l0_0.length l0_0) (hc0_0 : l0_0.length ≤ c0_0) (hr0_1 : Kd.C (Kd.int .i64) w A0_1 l0_1.length l0_1) (hc0_1 : l0_1.length ≤ c0_1) (h : impl_CanonOf.f k l0_0 l0_1 = some (r1, r2, r3)) :
    Calls Try.prog 27 #[.agg #[.slice A0_0 l0_0.length c0_0, .slice A0_1 l0_1.length c0_1]] w fun e w' => ∃ v0_ v1_ : Value, e = .returned (.tuple #[.agg #[v0_, v1_], .bool r3]) ∧ Kd.R (Kd.int .i64) 3 w' w.heap.size (fun k_ => some k_ ≠ (v1_ : Value).ownBlock) v0_ r1 ∧ Kd.R (Kd.int .i64) 3 w' w.heap.size (fun k_ => some k_ ≠ (v0_ : Value).ownBlock) v1_ r2 ∧ Below w.heap.size w w' := by
  have hu33 := Try.underlying33
  have HR0 := Aside0.mk hr0_0
  have HC0 := Aside0.mk hc0_0
  have HR1 := Aside0.mk hr0_1
  have HC1 := Aside0.mk hc0_1
  clear hr0_0 hc0_0 hr0_1 hc0_1
  simp only [impl_CanonOf.f] at h
  have h1 := Option.bind_eq_some_iff.mp h
  clear h
  obtain ⟨xs, A, h⟩ := h1
  have AN := Aside0.mk A
  have H := Aside0.mk h
  clear A h
  by_cases hz : (xs.length : Int) = 0
  · have H' := H.out
    rw [if_pos hz] at H'
    simp only [Option.some.injEq, Prod.mk.injEq] at H'
    obtain ⟨rfl, rfl, rfl⟩ := H'
    have b0 : ((xs.length : Int) == 0) = true := beq_iff_eq.mpr hz
    have b1 : (xs.length == 0) = true := by simpa using hz
    clear H hz
    go_enter Try.func27, Try.ntmps27
    go_wp2_with (first
      | ((with_reducible refine gate_dst (N := 1) rfl ?_); refine box_event ?hg (N := 1) ?hd (cs := #[.slice A0_0 l0_0.length c0_0, .slice A0_1 l0_1.length c0_1]) (t := 33) ?hr ?_; (case hd => rfl); (case hg => rfl); (case hr => first | (go_simp; done) | (go_simp; rfl)); intro gb1 hg w1 hbox hb; have BK1 := Aside0.mk hbox; have HB1 := Aside0.mk hb; have G1 := Aside0.mk hg; clear hg hbox hb)
      | ((with_reducible refine gate_dst (N := 2) rfl ?_); refine box_event ?hg (N := 2) ?hd (cs := #[.slice none 0 0, .slice none 0 0]) (t := 33) ?hr ?_; (case hd => rfl); (case hg => rfl); (case hr => first | (go_simp; done) | (go_simp; rfl)); intro gb2 hg w2 hbox hb; have BK2 := Aside0.mk hbox; have GE2 := Aside0.mk (show w.heap.size ≤ gb2 by have := HB1.out.size; omega); have HB2 := Aside0.mk (below_then HB1.out HB1.out.size hb); have hk0 := (blk_cell (blk_below BK1.out hb) 0).trans rfl; have hk1 := (blk_cell (blk_below BK1.out hb) 1).trans rfl; clear hg hbox hb)
      | (go_at_call 69; (refine (impl_namedFrom.calls k A0_0 c0_0 l0_0 A0_1 c0_1 l0_1 xs _ (Kd.C_below HR0.out HB2.out) HC0.out (Kd.C_below HR1.out HB2.out) HC1.out AN.out).mono ?_); rintro e w3 ⟨v, rfl, hS, hb⟩; obtain ⟨AA, cc, rfl⟩ := Kd.S_slice hS; have HS := Aside0.mk hS; have HB3 := Aside0.mk (below_then HB2.out HB2.out.size hb); have BK3 := Aside0.mk (blk_below BK2.out hb); have HBs := Aside0.mk HB2.out.size; have hg0 := (blk_cell BK3.out 0).trans rfl; have hg1 := (blk_cell BK3.out 1).trans rfl; have hf0 := blk_frozen BK3.out 0; have hf1 := blk_frozen BK3.out 1; clear hS hb))
    refine bodyPost_ret (results_ct rfl _ _ gb2 33 #[.slice none 0 0, .slice none 0 0] (0, 0) _ rfl (blk_put (blk_put BK3.out 0 _ rfl) 1 _ rfl) Try.underlying33 rfl (by kernel_rfl)) rfl ?_
    exact ⟨_, _, rfl, Kd.R_nil _ _ _ _ _, Kd.R_nil _ _ _ _ _, below_set (g := gb2) (j := 1) (below_set (g := gb2) (j := 0) HB3.out GE2.out) GE2.out⟩
  · have H' := H.out
    rw [if_neg hz] at H'
    obtain ⟨m, A, h⟩ := Option.bind_eq_some_iff.mp H'
    simp only [Option.some.injEq, Prod.mk.injEq] at h
    obtain ⟨rfl, rfl, rfl⟩ := h
    have AM := Aside0.mk A
    have HN := Aside0.mk (show 0 < xs.length by omega)
    have b0 : ((xs.length : Int) == 0) = false := beq_eq_false_iff_ne.mpr hz
    have b1 : (xs.length == 0) = false := by simpa using hz
    clear H H' A hz
    go_enter Try.func27, Try.ntmps27
    go_wp2_with (first
      | ((with_reducible refine gate_dst (N := 1) rfl ?_); refine box_event ?hg (N := 1) ?hd (cs := #[.slice A0_0 l0_0.length c0_0, .slice A0_1 l0_1.length c0_1]) (t := 33) ?hr ?_; (case hd => rfl); (case hg => rfl); (case hr => first | (go_simp; done) | (go_simp; rfl)); intro gb1 hg w1 hbox hb; have BK1 := Aside0.mk hbox; have HB1 := Aside0.mk hb; have G1 := Aside0.mk hg; clear hg hbox hb)
      | ((with_reducible refine gate_dst (N := 2) rfl ?_); refine box_event ?hg (N := 2) ?hd (cs := #[.slice none 0 0, .slice none 0 0]) (t := 33) ?hr ?_; (case hd => rfl); (case hg => rfl); (case hr => first | (go_simp; done) | (go_simp; rfl)); intro gb2 hg w2 hbox hb; have BK2 := Aside0.mk hbox; have GE2 := Aside0.mk (show w.heap.size ≤ gb2 by have := HB1.out.size; omega); have HB2 := Aside0.mk (below_then HB1.out HB1.out.size hb); have hk0 := (blk_cell (blk_below BK1.out hb) 0).trans rfl; have hk1 := (blk_cell (blk_below BK1.out hb) 1).trans rfl; clear hg hbox hb)
      | (go_at_call 69; (refine (impl_namedFrom.calls k A0_0 c0_0 l0_0 A0_1 c0_1 l0_1 xs _ (Kd.C_below HR0.out HB2.out) HC0.out (Kd.C_below HR1.out HB2.out) HC1.out AN.out).mono ?_); rintro e w3 ⟨v, rfl, hS, hb⟩; obtain ⟨AA, cc, rfl⟩ := Kd.S_slice hS; have HS := Aside0.mk hS; have HB3 := Aside0.mk (below_then HB2.out HB2.out.size hb); have BK3 := Aside0.mk (blk_below BK2.out hb); have HBs := Aside0.mk HB2.out.size; have hg0 := (blk_cell BK3.out 0).trans rfl; have hg1 := (blk_cell BK3.out 1).trans rfl; have hf0 := blk_frozen BK3.out 0; have hf1 := blk_frozen BK3.out 1; clear hS hb))
    obtain ⟨g, cap, e, hbase, hlt, _⟩ := Kd.S_form HS.out HN.out
    injection e with e1 e2 e3
    subst e1 e3
    clear e2
    have hrd := Kd.S_reads' HS.out
    refine (minFunc_calls k ⟨g, 0, none⟩ cc xs m w3 hrd.2.2 HN.out hrd.2.1 hrd.2.2.2.1 AM.out).mono ?_
    rintro e w4 ⟨j, A0, c0, A1, c1, he, hm, rfl, hb⟩
    have HS4 := Kd.S_below HS.out hb
    have HB4 := Aside0.mk (below_then HB3.out HB3.out.size hb)
    have BK4 := Aside0.mk (blk_below BK3.out hb)
    have hg0 := (blk_cell BK4.out 0).trans rfl
    have hg1 := (blk_cell BK4.out 1).trans rfl
    have hf0 := blk_frozen BK4.out 0
    have hf1 := blk_frozen BK4.out 1
    have HE := Aside0.mk he
    have HM := Aside0.mk hm
    have HT := Aside0.mk HS4
    have HBB := Aside0.mk hb
    clear he hm HS4 hrd hb hbase hlt
    go_wp2
    have he := HE.out
    have hm := HM.out
    subst hm
    obtain ⟨c', hl', hM, hcells⟩ := Kd.S_get HT.out z33 (j : Int) (by omega) (by have := he.1; omega)
    obtain ⟨v0, v1, rfl, R0, R1⟩ := k33_openM (x := rd_T33 xs j) hM
    have hap := k33_apart hM
    have z0 := hcells 0 v0 rfl
    have z1 := hcells 1 v1 rfl
    have y0 := (HBB.out.cell (World.block_lt_of_cell? w3 _ he.2.1)).trans he.2.1
    have y1 := (HBB.out.cell (World.block_lt_of_cell? w3 _ he.2.2.1)).trans he.2.2.1
    rw [Int.toNat_natCast] at z0 z1
    have e0 := Option.some.inj (z0.symm.trans y0)
    have e1 := Option.some.inj (z1.symm.trans (by rw [← add_field _ _ 1 (by omega)] at y1; exact y1))
    have L2 := blk_lt BK2.out
    have r0 := Kd.R_lower (Kd.R_reok (ok := fun k => k ≠ gb2 ∧ some k ≠ v1.ownBlock) rfl R0 (fun k hk => ⟨by have := Kd.R_base R0 k hk; omega, fun e => hap k hk e.symm⟩)) HBs.out
    have r1 := Kd.R_lower (Kd.R_reok (ok := fun k => k ≠ gb2 ∧ some k ≠ v0.ownBlock) rfl R1 (fun k hk => ⟨by have := Kd.R_base R1 k hk; omega, fun e => hap k e.symm hk⟩)) HBs.out
    subst e0 e1
    refine bodyPost_ret (results_ct rfl _ _ gb2 33 #[.slice A0 (rd_T33 xs j).f0.length c0, .slice A1 (rd_T33 xs j).f1.length c1] (0, 0) _ rfl (blk_put (blk_put BK4.out 0 _ rfl) 1 _ rfl) Try.underlying33 rfl (by kernel_rfl)) rfl ?_
    exact ⟨_, _, rfl, Kd.R_mono (Kd.R_far (Kd.R_far r0 (p := ⟨gb2, 0, none⟩) (fun k hk => hk.1) _) (p := ⟨gb2, 1, none⟩) (fun k hk => hk.1) _) (fun k hk => hk.2), Kd.R_mono (Kd.R_far (Kd.R_far r1 (p := ⟨gb2, 0, none⟩) (fun k hk => hk.1) _) (p := ⟨gb2, 1, none⟩) (fun k hk => hk.1) _) (fun k hk => hk.2), below_set (g := gb2) (j := 1) (below_set (g := gb2) (j := 0) HB4.out GE2.out) GE2.out⟩

end Go.Proofs.Ytlohmpgbjgidpaa.P
