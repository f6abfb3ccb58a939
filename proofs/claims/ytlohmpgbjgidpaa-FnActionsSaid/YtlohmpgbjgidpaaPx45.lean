-- MADE by this project's printer (wip/mk) out of the translation; Lean checks it.
import Derived.Test.YtlohmpgbjgidpaaPx0
import Derived.Test.YtlohmpgbjgidpaaPx42
namespace Go.Proofs.Ytlohmpgbjgidpaa.P
open Go.RowKit Go.Proofs.YtlohmpgbjgidpaaW.PrintWords Go.Proofs.YtlohmpgbjgidpaaW.PrintLast Go.Proofs.YtlohmpgbjgidpaaW.PrintMore
attribute [local go_sem] max2_int min2_int max_two min_two max_three min_three max_four min_four   -- for this text's walks alone
set_option linter.unusedVariables false
set_option linter.unusedSimpArgs false

/-! ### impl_NamesFrom: function 31 -/
mutual
def impl_NamesFrom.j0 : Nat → Int → Bool → List Int → List Int → Option (List Int)
 | 0, _, _, _, _ => none
 | k + 1, x1, x24, zd, zf => if x24 = true then (some ([] : List Int)) else (if 0 ≤ (zd.length : Int) then (if ((zd.length : Int) : Int).toNat ≤ 35184372088832 then ((some (List.replicate ((zd.length : Int) : Int).toNat 0 : List Int)).bind fun y380 => (impl_NamesFrom.l0 k x1 y380 (y380.length : Int) 0 zd zf)) else (none)) else (none))
def impl_NamesFrom.l0 : Nat → Int → List Int → Int → Int → List Int → List Int → Option (List Int)
 | 0, _, _, _, _, _, _ => none
 | k + 1, x1, x5, x30, x31, zd, zf => if x31 < x30 then (if 0 ≤ x31 then (if x31 < (x5.length : Int) then (impl_NamesFrom.l0 k x1 (x5.set (x31 : Int).toNat (-1)) x30 (wrap64 (x31 + 1)) zd zf) else (none)) else (none)) else (if 0 ≤ x1 then (if x1 < (x5.length : Int) then (impl_NamesFrom.l1 k (x5.set (x1 : Int).toNat 0) (([x1] : List Int)) 0 zd zf) else (none)) else (none))
def impl_NamesFrom.l1 : Nat → List Int → List Int → Int → List Int → List Int → Option (List Int)
 | 0, _, _, _, _, _ => none
 | k + 1, x5, x7, x8, zd, zf => if x8 < (x7.length : Int) then (if 0 ≤ x8 then (if 0 ≤ (rd x7 x8) then (if (rd x7 x8) < (zd.length : Int) then (if (rd x7 x8) < (zf.length : Int) then ((some (([rd zd (rd x7 x8), rd zf (rd x7 x8)] : List Int) : List Int)).bind fun y392 => (impl_NamesFrom.l2 k x5 x7 x8 y392 (y392.length : Int) 0 zd zf)) else (none)) else (none)) else (none)) else (none)) else (some x5)
def impl_NamesFrom.l2 : Nat → List Int → List Int → Int → List Int → Int → Int → List Int → List Int → Option (List Int)
 | 0, _, _, _, _, _, _, _, _ => none
 | k + 1, x5, x7, x8, x65, x66, x67, zd, zf => if x67 < x66 then (if 0 ≤ x67 then (if x67 < (x65.length : Int) then (if 0 ≤ (rd x65 x67) then (if (rd x65 x67) < (x5.length : Int) then (if (rd x5 (rd x65 x67)) < 0 then (if x7.length < 17592186044416 then (impl_NamesFrom.l2 k (x5.set ((rd x65 x67) : Int).toNat (x7.length : Int)) (x7 ++ [rd x65 x67]) x8 x65 x66 (wrap64 (x67 + 1)) zd zf) else (none)) else (impl_NamesFrom.l2 k x5 x7 x8 x65 x66 (wrap64 (x67 + 1)) zd zf)) else (none)) else (none)) else (none)) else (none)) else (impl_NamesFrom.l1 k x5 x7 (wrap64 (x8 + 1)) zd zf)
end
def impl_NamesFrom.f (k : Nat) (l0_0 : List Int) (l0_1 : List Int) (a1 : Int) : Option (List Int) := (impl_SurfaceOk.f k l0_0 l0_1).bind fun t379 => (if t379 = true then (if a1 < 0 then (impl_NamesFrom.j0 k a1 true l0_0 l0_1) else (impl_NamesFrom.j0 k a1 (decide (a1 ≥ (l0_0.length : Int))) l0_0 l0_1)) else (impl_NamesFrom.j0 k a1 true l0_0 l0_1))
theorem impl_NamesFrom.mono_l : ∀ k, (∀ y0 y1 y2 y3, LeO (impl_NamesFrom.j0 k y0 y1 y2 y3) (impl_NamesFrom.j0 (k + 1) y0 y1 y2 y3)) ∧ (∀ y0 y1 y2 y3 y4 y5, LeO (impl_NamesFrom.l0 k y0 y1 y2 y3 y4 y5) (impl_NamesFrom.l0 (k + 1) y0 y1 y2 y3 y4 y5)) ∧ (∀ y0 y1 y2 y3 y4, LeO (impl_NamesFrom.l1 k y0 y1 y2 y3 y4) (impl_NamesFrom.l1 (k + 1) y0 y1 y2 y3 y4)) ∧ (∀ y0 y1 y2 y3 y4 y5 y6 y7, LeO (impl_NamesFrom.l2 k y0 y1 y2 y3 y4 y5 y6 y7) (impl_NamesFrom.l2 (k + 1) y0 y1 y2 y3 y4 y5 y6 y7))
 | 0 => ⟨fun _ _ _ _ r h => by simp [impl_NamesFrom.j0] at h, fun _ _ _ _ _ _ r h => by simp [impl_NamesFrom.l0] at h, fun _ _ _ _ _ r h => by simp [impl_NamesFrom.l1] at h, fun _ _ _ _ _ _ _ _ r h => by simp [impl_NamesFrom.l2] at h⟩
 | k + 1 => by
  obtain ⟨ih0, ih1, ih2, ih3⟩ := impl_NamesFrom.mono_l k
  refine ⟨?_, ?_, ?_, ?_⟩
  ·intro y0 y1 y2 y3
   unfold impl_NamesFrom.j0
   repeat' first
   | (with_reducible exact ih0 _ _ _ _)
   | (with_reducible exact ih1 _ _ _ _ _ _)
   | (with_reducible exact ih2 _ _ _ _ _)
   | (with_reducible exact ih3 _ _ _ _ _ _ _ _)
   | (with_reducible exact impl_SurfaceOk.mono _ _ _)
   | (with_reducible exact LeO.refl _)
   | (with_reducible exact LeO.none _)
   | (with_reducible refine LeO.ite ?_ ?_)
   | (with_reducible refine LeO.bind ?_ (fun _ => ?_))
   | exact ih0 _ _ _ _
   | exact ih1 _ _ _ _ _ _
   | exact ih2 _ _ _ _ _
   | exact ih3 _ _ _ _ _ _ _ _
   | exact impl_SurfaceOk.mono _ _ _
   | exact LeO.none _
   | refine LeO.ite ?_ ?_
   | refine LeO.bind ?_ (fun _ => ?_)
  ·intro y0 y1 y2 y3 y4 y5
   unfold impl_NamesFrom.l0
   repeat' first
   | (with_reducible exact ih0 _ _ _ _)
   | (with_reducible exact ih1 _ _ _ _ _ _)
   | (with_reducible exact ih2 _ _ _ _ _)
   | (with_reducible exact ih3 _ _ _ _ _ _ _ _)
   | (with_reducible exact impl_SurfaceOk.mono _ _ _)
   | (with_reducible exact LeO.refl _)
   | (with_reducible exact LeO.none _)
   | (with_reducible refine LeO.ite ?_ ?_)
   | (with_reducible refine LeO.bind ?_ (fun _ => ?_))
   | exact ih0 _ _ _ _
   | exact ih1 _ _ _ _ _ _
   | exact ih2 _ _ _ _ _
   | exact ih3 _ _ _ _ _ _ _ _
   | exact impl_SurfaceOk.mono _ _ _
   | exact LeO.none _
   | refine LeO.ite ?_ ?_
   | refine LeO.bind ?_ (fun _ => ?_)
  ·intro y0 y1 y2 y3 y4
   unfold impl_NamesFrom.l1
   repeat' first
   | (with_reducible exact ih0 _ _ _ _)
   | (with_reducible exact ih1 _ _ _ _ _ _)
   | (with_reducible exact ih2 _ _ _ _ _)
   | (with_reducible exact ih3 _ _ _ _ _ _ _ _)
   | (with_reducible exact impl_SurfaceOk.mono _ _ _)
   | (with_reducible exact LeO.refl _)
   | (with_reducible exact LeO.none _)
   | (with_reducible refine LeO.ite ?_ ?_)
   | (with_reducible refine LeO.bind ?_ (fun _ => ?_))
   | exact ih0 _ _ _ _
   | exact ih1 _ _ _ _ _ _
   | exact ih2 _ _ _ _ _
   | exact ih3 _ _ _ _ _ _ _ _
   | exact impl_SurfaceOk.mono _ _ _
   | exact LeO.none _
   | refine LeO.ite ?_ ?_
   | refine LeO.bind ?_ (fun _ => ?_)
  ·intro y0 y1 y2 y3 y4 y5 y6 y7
   unfold impl_NamesFrom.l2
   repeat' first
   | (with_reducible exact ih0 _ _ _ _)
   | (with_reducible exact ih1 _ _ _ _ _ _)
   | (with_reducible exact ih2 _ _ _ _ _)
   | (with_reducible exact ih3 _ _ _ _ _ _ _ _)
   | (with_reducible exact impl_SurfaceOk.mono _ _ _)
   | (with_reducible exact LeO.refl _)
   | (with_reducible exact LeO.none _)
   | (with_reducible refine LeO.ite ?_ ?_)
   | (with_reducible refine LeO.bind ?_ (fun _ => ?_))
   | exact ih0 _ _ _ _
   | exact ih1 _ _ _ _ _ _
   | exact ih2 _ _ _ _ _
   | exact ih3 _ _ _ _ _ _ _ _
   | exact impl_SurfaceOk.mono _ _ _
   | exact LeO.none _
   | refine LeO.ite ?_ ?_
   | refine LeO.bind ?_ (fun _ => ?_)
theorem impl_NamesFrom.mono : ∀ a0 a1 a2 k, LeO (impl_NamesFrom.f k a0 a1 a2) (impl_NamesFrom.f (k + 1) a0 a1 a2) := by
 intro a0 a1 a2 k
 obtain ⟨ih0, ih1, ih2, ih3⟩ := impl_NamesFrom.mono_l k
 unfold impl_NamesFrom.f
 repeat' first
   | (with_reducible exact ih0 _ _ _ _)
   | (with_reducible exact ih1 _ _ _ _ _ _)
   | (with_reducible exact ih2 _ _ _ _ _)
   | (with_reducible exact ih3 _ _ _ _ _ _ _ _)
   | (with_reducible exact impl_SurfaceOk.mono _ _ _)
   | (with_reducible exact LeO.refl _)
   | (with_reducible exact LeO.none _)
   | (with_reducible refine LeO.ite ?_ ?_)
   | (with_reducible refine LeO.bind ?_ (fun _ => ?_))
   | exact ih0 _ _ _ _
   | exact ih1 _ _ _ _ _ _
   | exact ih2 _ _ _ _ _
   | exact ih3 _ _ _ _ _ _ _ _
   | exact impl_SurfaceOk.mono _ _ _
   | exact LeO.none _
   | refine LeO.ite ?_ ?_
   | refine LeO.bind ?_ (fun _ => ?_)
def impl_NamesFrom.T14 : Bool × List (List Nat × List Nat) := (true, [([], []), ([0], [0]), ([], []), ([], []), ([2, 3], [2, 3]), ([4], [4]), ([1, 5], [1, 5]), ([6], [6]), ([], []), ([8], [8]), ([], []), ([], []), ([10, 11], [10, 11]), ([12], [12]), ([9, 13], [9, 13]), ([14], [14]), ([7, 15], [7, 15]), ([16], [16]), ([], [])])
def impl_NamesFrom.B14 : List Nat := [0, 1, 0, 0, 12, 28, 63, 127, 0, 256, 0, 0, 3072, 7168, 16128, 32512, 65535, 131071, 0]
theorem impl_NamesFrom.tab14 : rtab .any (opsOf Try.f31 14) = impl_NamesFrom.T14 := by kernel_rfl
theorem impl_NamesFrom.bits14 : waitsOk impl_NamesFrom.T14.2 impl_NamesFrom.B14 = true := by kernel_rfl
set_option maxHeartbeats 8000000 in
set_option maxRecDepth 100000 in
theorem impl_NamesFrom.calls (k : Nat) (A0_0 : Option Addr) (c0_0 : Nat) (l0_0 : List Int) (A0_1 : Option Addr) (c0_1 : Nat) (l0_1 : List Int) (a1 : Int) (r : List Int) (w : World) (hr0_0 : Kd.C (Kd.int .i64) w A0_0 l0_0.length l0_0) (hc0_0 : l0_0.length ≤ c0_0) (hr0_1 : Kd.C (Kd.int .i64) w A0_1 l0_1.length l0_1) (hc0_1 : l0_1.length ≤ c0_1) (h : impl_NamesFrom.f k l0_0 l0_1 a1 = some r) :
  Calls Try.prog 31 #[.agg #[.slice A0_0 l0_0.length c0_0, .slice A0_1 l0_1.length c0_1], .int .i64 a1] w fun e w' => ∃ v0_ : Value, e = .returned (v0_) ∧ Kd.R (Kd.int .i64) 3 w' w.heap.size (fun _ => True) v0_ r ∧ Below w.heap.size w w' := by
 have hu33 := Try.underlying33
 have zL := Aside0.mk hr0_0
 have zO := Aside0.mk hc0_0
 clear hr0_0 hc0_0
 have zM := Aside0.mk hr0_1
 have zP := Aside0.mk hc0_1
 clear hr0_1 hc0_1
 have HB := Aside0.mk (Below.refl w.heap.size w)
 have H : ((impl_SurfaceOk.f k l0_0 l0_1).bind fun t379 => (if t379 = true then (if a1 < 0 then (impl_NamesFrom.j0 k a1 true l0_0 l0_1) else (impl_NamesFrom.j0 k a1 (decide (a1 ≥ (l0_0.length : Int))) l0_0 l0_1)) else (impl_NamesFrom.j0 k a1 true l0_0 l0_1))) = some r := h
 clear h
 have HC3 := Aside0.mk H
 clear H
 go_enter Try.func31, Try.ntmps31
 go_upto_region 1 with (first | ((with_reducible refine gate_dst (N := 2) rfl ?_); (try (refine gate_guard (by rfl) ?_; dsimp only)); refine box_event ?hg (N := 2) ?hd (cs := #[.slice A0_0 l0_0.length c0_0, .slice A0_1 l0_1.length c0_1]) (t := 33) ?hr ?_; (case hd => rfl); (case hg => rfl); (case hr => first | (go_simp; done) | (go_simp; rfl)); intro zc hg w4 hbox hb; have za := Aside0.mk (hbox); have GW378 := Aside0.mk ((by rw [hg]; exact (below_size (HB.out)) : w.heap.size ≤ zc)); have GE378 := Aside0.mk ((by rw [hg]; exact (below_size (HB.out)) : w.heap.size ≤ zc)); replace HB := Aside0.mk (below_step (HB.out) hb); clear hb hbox hg))
 (try simp only [Act.put, List.setIfInBounds_toArray, List.set_cons_zero, List.set_cons_succ])
 go_cut [24] (fun v24 wc => ∃ (kq : Nat) (x24_2 : Bool), v24 = .bool x24_2 ∧ Aside0 (impl_NamesFrom.j0 kq a1 x24_2 l0_0 l0_1 = some r) ∧ Aside0 (kq ≤ k) ∧ Aside0 (wc.heap[zc]? = some (.cells #[(.slice A0_0 l0_0.length c0_0), (.slice A0_1 l0_1.length c0_1)] 33 (0, 0))) ∧ Aside0 (Below w.heap.size w wc))
 case first =>
  have H := HC3.out
  clear HC3
  replace H := Option.bind_eq_some_iff.mp H
  obtain ⟨t379, A50, H⟩ := H
  try dsimp only at H
  have A5 := Aside0.mk A50
  clear A50
  by_cases c6 : t379 = true
  ·subst c6
   replace H := ifp_ H
   by_cases c7 : a1 < 0
   ·rw [if_pos c7] at H
    have zl : decide (a1 < 0) = true := decide_eq_true c7
    clear c7
    (first | rw [zl] | (simp only [i64_w, i32_w]; rw [zl]) | skip)
    have H' := Aside0.mk H
    clear H
    have zA : w4.cell? ⟨zc, 0, none⟩ = some (.slice A0_0 l0_0.length c0_0) := (blk_cell za.out 0).trans rfl
    have zB : w4.cell? ⟨zc, 1, none⟩ = some (.slice A0_1 l0_1.length c0_1) := (blk_cell za.out 1).trans rfl
    have zC := blk_frozen za.out 0
    have zD := blk_frozen za.out 1
    go_wp2_with (first | ((with_reducible refine gate_callee (f := 67) rfl ?_); refine goesL_ (some 12) rfl rfl Try.func67 (by kernel_rfl) rfl #[.agg #[.slice A0_0 l0_0.length c0_0, .slice A0_1 l0_1.length c0_1]] rfl (by (try simp only [List.map_toArray, List.map_cons, List.map_nil]); first | done | rfl | (simp only [List.length_drop, List.length_take]; rfl)) ?_; (with_reducible refine (impl_SurfaceOk.calls k _ _ l0_0 _ _ l0_1 true _ ?side1 ?side2 ?side3 ?side4 A5.out).mono ?_); (case side1 => repeat (first | exact (Kd.C_below zL.out HB.out) | (with_reducible refine Kd.C_alloc ?_ _) | (with_reducible refine Kd.C_drewN ?_ _) | (with_reducible refine Kd.C_drew ?_))); (case side2 => exact zO.out); (case side3 => repeat (first | exact (Kd.C_below zM.out HB.out) | (with_reducible refine Kd.C_alloc ?_ _) | (with_reducible refine Kd.C_drewN ?_ _) | (with_reducible refine Kd.C_drew ?_))); (case side4 => exact zP.out); rintro e w9 ⟨rfl, hb⟩; refine ⟨_, rfl, ?_⟩; replace za := bb_ za hb; replace HB := Aside0.mk (below_step (HB.out) hb); (try clear hb); (try clear hb2); (try clear hk); (try clear hi)))
    go_meet
    case rel => exact ⟨_, (true), (by first | rfl | (simp; done) | (simp [*]; done)), H', ⟨by first | omega | exact Nat.le_refl _⟩, ⟨za.out⟩, ⟨HB.out⟩⟩
   ·rw [if_neg c7] at H
    have zl : decide (a1 < 0) = false := decide_eq_false c7
    clear c7
    (first | rw [zl] | (simp only [i64_w, i32_w]; rw [zl]) | skip)
    have H' := Aside0.mk H
    clear H
    have zm : w4.cell? ⟨zc, 0, none⟩ = some (.slice A0_0 l0_0.length c0_0) := (blk_cell za.out 0).trans rfl
    have zn : w4.cell? ⟨zc, 1, none⟩ = some (.slice A0_1 l0_1.length c0_1) := (blk_cell za.out 1).trans rfl
    have zo := blk_frozen za.out 0
    have zp := blk_frozen za.out 1
    go_wp2_with (first | ((with_reducible refine gate_callee (f := 67) rfl ?_); refine goesL_ (some 12) rfl rfl Try.func67 (by kernel_rfl) rfl #[.agg #[.slice A0_0 l0_0.length c0_0, .slice A0_1 l0_1.length c0_1]] rfl (by (try simp only [List.map_toArray, List.map_cons, List.map_nil]); first | done | rfl | (simp only [List.length_drop, List.length_take]; rfl)) ?_; (with_reducible refine (impl_SurfaceOk.calls k _ _ l0_0 _ _ l0_1 true _ ?side1 ?side2 ?side3 ?side4 A5.out).mono ?_); (case side1 => repeat (first | exact (Kd.C_below zL.out HB.out) | (with_reducible refine Kd.C_alloc ?_ _) | (with_reducible refine Kd.C_drewN ?_ _) | (with_reducible refine Kd.C_drew ?_))); (case side2 => exact zO.out); (case side3 => repeat (first | exact (Kd.C_below zM.out HB.out) | (with_reducible refine Kd.C_alloc ?_ _) | (with_reducible refine Kd.C_drewN ?_ _) | (with_reducible refine Kd.C_drew ?_))); (case side4 => exact zP.out); rintro e w11 ⟨rfl, hb⟩; refine ⟨_, rfl, ?_⟩; replace za := bb_ za hb; replace HB := Aside0.mk (below_step (HB.out) hb); (try clear hb); (try clear hb2); (try clear hk); (try clear hi); have zq : w11.cell? ⟨zc, 0, none⟩ = some (.slice A0_0 l0_0.length c0_0) := (blk_cell za.out 0).trans rfl; have zr : w11.cell? ⟨zc, 1, none⟩ = some (.slice A0_1 l0_1.length c0_1) := (blk_cell za.out 1).trans rfl; have zs := blk_frozen za.out 0; have zt := blk_frozen za.out 1))
    go_meet
    case rel => exact ⟨_, (decide (a1 ≥ (l0_0.length : Int))), (by first | rfl | (simp; done) | (simp [*]; done)), H', ⟨by first | omega | exact Nat.le_refl _⟩, ⟨za.out⟩, ⟨HB.out⟩⟩
  ·replace c6 := Bool.eq_false_iff.mpr c6
   subst c6
   replace H := ifn_ H
   have H' := Aside0.mk H
   clear H
   have zu : w4.cell? ⟨zc, 0, none⟩ = some (.slice A0_0 l0_0.length c0_0) := (blk_cell za.out 0).trans rfl
   have zv : w4.cell? ⟨zc, 1, none⟩ = some (.slice A0_1 l0_1.length c0_1) := (blk_cell za.out 1).trans rfl
   have zw := blk_frozen za.out 0
   have zx := blk_frozen za.out 1
   go_wp2_with (first | ((with_reducible refine gate_callee (f := 67) rfl ?_); refine goesL_ (some 12) rfl rfl Try.func67 (by kernel_rfl) rfl #[.agg #[.slice A0_0 l0_0.length c0_0, .slice A0_1 l0_1.length c0_1]] rfl (by (try simp only [List.map_toArray, List.map_cons, List.map_nil]); first | done | rfl | (simp only [List.length_drop, List.length_take]; rfl)) ?_; (with_reducible refine (impl_SurfaceOk.calls k _ _ l0_0 _ _ l0_1 false _ ?side1 ?side2 ?side3 ?side4 A5.out).mono ?_); (case side1 => repeat (first | exact (Kd.C_below zL.out HB.out) | (with_reducible refine Kd.C_alloc ?_ _) | (with_reducible refine Kd.C_drewN ?_ _) | (with_reducible refine Kd.C_drew ?_))); (case side2 => exact zO.out); (case side3 => repeat (first | exact (Kd.C_below zM.out HB.out) | (with_reducible refine Kd.C_alloc ?_ _) | (with_reducible refine Kd.C_drewN ?_ _) | (with_reducible refine Kd.C_drew ?_))); (case side4 => exact zP.out); rintro e w14 ⟨rfl, hb⟩; refine ⟨_, rfl, ?_⟩; replace za := bb_ za hb; replace HB := Aside0.mk (below_step (HB.out) hb); (try clear hb); (try clear hb2); (try clear hk); (try clear hi)))
   go_meet
   case rel => exact ⟨_, (true), (by first | rfl | (simp; done) | (simp [*]; done)), H', ⟨by first | omega | exact Nat.le_refl _⟩, ⟨za.out⟩, ⟨HB.out⟩⟩
 case rest =>
  clear HC3
  try clear p2
  try clear c3
  try clear c6
  try clear c7
  try clear zl
  try clear zm
  try clear zn
  try clear zq
  try clear zr
  try clear zu
  try clear zv
  try clear zA
  try clear zB
  try clear zo
  try clear zp
  try clear zs
  try clear zt
  try clear zw
  try clear zx
  try clear zC
  try clear zD
  obtain ⟨kq, x24_2, rfl, HA, HJ2, za, HB⟩ := hcut
  cases kq with
  | zero => exact absurd HA.out (by simp [impl_NamesFrom.j0])
  | succ kj2 =>
   have H := HA.out
   clear HA
   simp only [impl_NamesFrom.j0] at H
   by_cases c15 : x24_2 = true
   ·subst c15
    replace H := ifp_ H
    obtain rfl := Option.some.inj H
    go_wp2
    go_ret
    exact ⟨_, by first | rfl | (simp [errW_none, errW_some] <;> rfl) | (simp [*, errW_none, errW_some] <;> rfl), by first | exact Kd.R_nil _ _ _ _ _ | exact Kd.N_nil _ _ _ _ _ | exact Kd.V_nil _ _ _ _ _ | exact Kd.Q_nil _ _ _ _ _ | exact Kd.S_nil _ _ _ _ _, HB.out⟩
   ·replace c15 := Bool.eq_false_iff.mpr c15
    subst c15
    replace H := ifn_ H
    by_cases c16 : 0 ≤ (l0_0.length : Int)
    ·rw [if_pos c16] at H
     have zQ := eq_true c16
     have zR : decide (0 ≤ (l0_0.length : Int)) = true := decide_eq_true c16
     clear c16
     by_cases c17 : ((l0_0.length : Int) : Int).toNat ≤ 35184372088832
     ·rw [if_pos c17] at H
      have zS := eq_true c17
      have zT : decide (((l0_0.length : Int) : Int).toNat ≤ 35184372088832) = true := decide_eq_true c17
      clear c17
      obtain ⟨y380, hy380⟩ : ∃ y_ : List Int, y_ = (List.replicate ((l0_0.length : Int) : Int).toNat 0) := ⟨_, rfl⟩
      replace H : (impl_NamesFrom.l0 kj2 a1 y380 (y380.length : Int) 0 l0_0 l0_1) = some r := by first | (rw [hy380]; with_reducible exact H) | (rw [hy380]; exact H)
      have Ny380 := Aside0.mk hy380
      clear hy380
      have H' := Aside0.mk H
      clear H
      have zF : wc.cell? ⟨zc, 0, none⟩ = some (.slice A0_0 l0_0.length c0_0) := (blk_cell za.out 0).trans rfl
      have zG : wc.cell? ⟨zc, 1, none⟩ = some (.slice A0_1 l0_1.length c0_1) := (blk_cell za.out 1).trans rfl
      have zH := blk_frozen za.out 0
      have zI := blk_frozen za.out 1
      go_wp2_with (first | ((with_reducible refine gate_dst (N := 28) rfl ?_); (try (refine gate_guard (by rfl) ?_; dsimp only)); refine Kd.R_make (Kd.int .i64) _ 3 rfl (N := 28) rfl 31 _ _ rfl (l0_0.length : Int) rfl rfl Try.underlying31 (.int .i64 0) 8 info3 rfl (by decide) (by omega) 0 (ok := fun _ => True) (okp := fun _ => True) rfl (fun _ hk => hk) trivial (of_decide_eq_true (by first | (with_reducible assumption) | assumption)) (Nat.le_trans (Nat.mul_le_mul_right _ (of_decide_eq_true (by first | (with_reducible assumption) | assumption) : (l0_0.length : Int).toNat ≤ 35184372088832)) (by omega)) (Below.refl _ _) (Nat.le_refl _) ?_; intro v381 w19 ho20 hb hg_ hnew_; clear hg_ hnew_; (first | rw [← Ny380.out] at ho20 | (simp only [Int.reduceToNat] at ho20; rw [← Ny380.out] at ho20)); have zZ := Aside0.mk (Kd.R_lower ho20 (below_size (HB.out))); replace za := bb_ za hb; replace HB := Aside0.mk (below_step (HB.out) hb); clear hb ho20; obtain ⟨Ao21, zg, eo21⟩ := Kd.R_slice zZ.out; subst eo21))
      go_loopg [31] kj2 (fun kq v31 w' => ∃ (x5_2 : List Int) (x31_2 : Int), v31 = .int .i64 x31_2 ∧ Aside0 (impl_NamesFrom.l0 kq a1 x5_2 (y380.length : Int) x31_2 l0_0 l0_1 = some r) ∧ Aside0 (kq ≤ kj2) ∧ Aside0 (Kd.R (Kd.int .i64) 3 w' w.heap.size (fun _ => True) (.slice Ao21 y380.length zg) x5_2) ∧ Aside0 (w'.heap[zc]? = some (.cells #[(.slice A0_0 l0_0.length c0_0), (.slice A0_1 l0_1.length c0_1)] 33 (0, 0))) ∧ Aside0 (Below w.heap.size w w'))
      case atStart => exact ⟨(y380), (0), (by first | rfl | (simp; done) | (simp [*]; done)), H', ⟨Nat.le_refl _⟩, ⟨zZ.out⟩, ⟨za.out⟩, ⟨HB.out⟩⟩
      case round =>
       clear H'
       try clear c1
       try clear p2
       try clear c3
       try clear c6
       try clear c7
       try clear zl
       try clear c15
       try clear c16
       try clear zQ
       try clear zR
       try clear c17
       try clear zS
       try clear zT
       try clear zm
       try clear zn
       try clear zq
       try clear zr
       try clear zu
       try clear zv
       try clear zF
       try clear zG
       try clear zA
       try clear zB
       try clear zo
       try clear zp
       try clear zs
       try clear zt
       try clear zw
       try clear zx
       try clear zH
       try clear zI
       try clear zC
       try clear zD
       try clear p2
       obtain ⟨x5_2, x31_2, rfl, HA, HK2, zb, za, HB⟩ := hrel
       have hl5_2 := (Kd.R_reads' zb.out).1
       rw [hl5_2] at zb
       (try simp only [hl5_2])
       (try simp only [hl5_2] at za)
       cases gk with
       | zero => exact absurd HA.out (by simp [impl_NamesFrom.l0])
       | succ k2 =>
        have H := HA.out
        clear HA
        simp only [impl_NamesFrom.l0] at H
        by_cases c22 : x31_2 < (y380.length : Int)
        ·rw [if_pos c22] at H
         have zy : decide (x31_2 < (y380.length : Int)) = true := decide_eq_true c22
         clear c22
         by_cases c23 : 0 ≤ x31_2
         ·rw [if_pos c23] at H
          have za1 : decide (0 ≤ x31_2) = true := decide_eq_true c23
          clear c23
          by_cases c24 : x31_2 < (x5_2.length : Int)
          ·rw [if_pos c24] at H
           have zb1 : decide (x31_2 < (x5_2.length : Int)) = true := decide_eq_true c24
           clear c24
           obtain ⟨y383, hy383⟩ : ∃ y_ : List Int, y_ = (x5_2.set (x31_2 : Int).toNat (-1)) := ⟨_, rfl⟩
           replace H : (impl_NamesFrom.l0 k2 a1 y383 (y380.length : Int) (wrap64 (x31_2 + 1)) l0_0 l0_1) = some r := by first | (rw [hy383]; with_reducible exact H) | (rw [hy383]; exact H)
           have Ny383 := Aside0.mk hy383
           clear hy383
           have H' := Aside0.mk H
           clear H
           have p25 : 0 ≤ (x31_2 : Int) := of_decide_eq_true (by first | (with_reducible assumption) | assumption)
           have q25 : (x31_2 : Int) < ((x5_2.length : Int) : Int) := of_decide_eq_true (by first | (with_reducible assumption) | assumption)
           obtain ⟨go25, co25, eo25, zf1, gl25, cl25, HG25⟩ := Kd.R_form zb.out (by omega)
           (first | cases eo25 | (injection eo25 with ea_ en_ ec_; (first | subst ea_ | (injection ea_ with ea_; subst ea_)); subst ec_; clear en_))
           have GB25 := Aside0.mk zf1
           have GG25 := Aside0.mk HG25
           clear zf1 gl25 HG25
           obtain ⟨zU, hf25_0⟩ := Kd.R_celln 0 zb.out (x31_2 : Int) p25 q25
           replace p25 := eq_true p25
           replace q25 := eq_true q25
           have HP26 := Kd.R_putg zb.out (x31_2 : Int) (-1)
           go_wp2_with (first | ((with_reducible refine gate_store (t := 3) (p := 36) rfl ?_); refine store_event (t := 3) (p := 36) (v := ?vo_w27) (w1 := (wr.setCell ⟨go25, (x31_2 : Int).toNat, none⟩ (.int .i64 (-1)))) ?hg ?ho ?hn ?hr ?_; (case ho => rfl); (case hg => rfl); (case hn => rfl); (case hr => first | (go_simp; done) | (go_simp; rfl)); intro w27 hw; have hg : wr.grownBy w27 (some go25) := (by rw [hw]; exact HP26.2); have hp_ : Kd.R (Kd.int .i64) 3 w27 w.heap.size (fun _ => True) (.slice (some ⟨go25, 0, none⟩) x5_2.length zg) y383 := (by rw [hw, Ny383.out]; exact HP26.1); clear HP26; replace za := Aside0.mk (blk_grown (g := zc) (o := .cells #[.slice A0_0 l0_0.length c0_0, .slice A0_1 l0_1.length c0_1] 33 (0, 0)) (za.out) hg (Kd.R_ne zb.out za.out (by decide))); replace zb := Aside0.mk (hp_); replace HB := Aside0.mk ((by rw [hw]; exact below_set (HB.out) GB25.out : Below w.heap.size w w27)); clear hg hw hp_))
           (try simp only [← hl5_2])
           go_roundg k2
           case measure => have := HJ2.out; have := HK2.out; omega
           case rel => exact ⟨(y383), (wrap64 (x31_2 + 1)), (by first | rfl | (simp; done) | (simp [*]; done)), H', ⟨by have := HJ2.out; have := HK2.out; omega⟩, ⟨by (try simp only [hl5_2]); (with_reducible repeat (first | apply Kd.R_alloc | apply Kd.R_drewN | apply Kd.R_drew)); exact zb.out⟩, ⟨by (try simp only [hl5_2]); (with_reducible repeat (first | refine blk_drewN ?_ _ | refine blk_drew ?_ | refine blk_alloc ?_ _)); exact za.out⟩, ⟨HB.out⟩⟩
          ·rw [if_neg c24] at H
           exact absurd H (by simp)
         ·rw [if_neg c23] at H
          exact absurd H (by simp)
        ·rw [if_neg c22] at H
         have zy : decide (x31_2 < (y380.length : Int)) = false := decide_eq_false c22
         (try simp only [hl5_2] at zy; try simp only [hl5_3] at zy; try simp only [hl5_4] at zy)
         clear c22
         by_cases c28 : 0 ≤ a1
         ·rw [if_pos c28] at H
          have zc1 : decide (0 ≤ a1) = true := decide_eq_true c28
          clear c28
          by_cases c29 : a1 < (x5_2.length : Int)
          ·rw [if_pos c29] at H
           have zd1 : decide (a1 < (x5_2.length : Int)) = true := decide_eq_true c29
           clear c29
           obtain ⟨y384, hy384⟩ : ∃ y_ : List Int, y_ = (x5_2.set (a1 : Int).toNat 0) := ⟨_, rfl⟩
           replace H : (impl_NamesFrom.l1 k2 y384 (([a1] : List Int)) 0 l0_0 l0_1) = some r := by first | (rw [hy384]; with_reducible exact H) | (rw [hy384]; exact H)
           have Ny384 := Aside0.mk hy384
           clear hy384
           obtain ⟨y385, hy385⟩ : ∃ y_ : List Int, y_ = (([a1] : List Int)) := ⟨_, rfl⟩
           replace H : (impl_NamesFrom.l1 k2 y384 y385 0 l0_0 l0_1) = some r := by first | (rw [hy385]; with_reducible exact H) | (rw [hy385]; exact H)
           have Ny385 := Aside0.mk hy385
           clear hy385
           have H' := Aside0.mk H
           clear H
           have p30 : 0 ≤ (a1 : Int) := of_decide_eq_true (by first | (with_reducible assumption) | assumption)
           have q30 : (a1 : Int) < ((x5_2.length : Int) : Int) := of_decide_eq_true (by first | (with_reducible assumption) | assumption)
           obtain ⟨go30, co30, eo30, zg1, gl30, cl30, HG30⟩ := Kd.R_form zb.out (by omega)
           (first | cases eo30 | (injection eo30 with ea_ en_ ec_; (first | subst ea_ | (injection ea_ with ea_; subst ea_)); subst ec_; clear en_))
           have GB30 := Aside0.mk zg1
           have GG30 := Aside0.mk HG30
           clear zg1 gl30 HG30
           obtain ⟨zV, hf30_0⟩ := Kd.R_celln 0 zb.out (a1 : Int) p30 q30
           replace p30 := eq_true p30
           replace q30 := eq_true q30
           have HP31 := Kd.R_putg zb.out (a1 : Int) 0
           go_wp2_with (first | ((with_reducible refine gate_store (t := 3) (p := 40) rfl ?_); refine store_event (t := 3) (p := 40) (v := ?vo_w32) (w1 := (wr.setCell ⟨go30, (a1 : Int).toNat, none⟩ (.int .i64 0))) ?hg ?ho ?hn ?hr ?_; (case ho => rfl); (case hg => rfl); (case hn => rfl); (case hr => first | (go_simp; done) | (go_simp; rfl)); intro w32 hw; have hg : wr.grownBy w32 (some go30) := (by rw [hw]; exact HP31.2); have hp_ : Kd.R (Kd.int .i64) 3 w32 w.heap.size (fun _ => True) (.slice (some ⟨go30, 0, none⟩) x5_2.length zg) y384 := (by rw [hw, Ny384.out]; exact HP31.1); clear HP31; replace za := Aside0.mk (blk_grown (g := zc) (o := .cells #[.slice A0_0 l0_0.length c0_0, .slice A0_1 l0_1.length c0_1] 33 (0, 0)) (za.out) hg (Kd.R_ne zb.out za.out (by decide))); replace zb := Aside0.mk (hp_); replace HB := Aside0.mk ((by rw [hw]; exact below_set (HB.out) GB30.out : Below w.heap.size w w32)); clear hg hw hp_) | ((with_reducible refine gate_dst (N := 42) rfl ?_); (try (refine gate_guard (by rfl) ?_; dsimp only)); refine Kd.R_lit (Kd.int .i64) _ 3 ?hg (N := 42) ?hd (xs := ([a1] : List Int)) (inner := [.int .i64 a1]) (ok := fun _ => True) (okp := fun _ => True) ?hr ?hp (fun _ hk => hk) trivial (Below.refl _ _) (Nat.le_refl _) (by simp) ?_; (case hd => rfl); (case hg => rfl); (case hr => first | (go_simp; done) | (go_simp; rfl)); (case hp => exact (Reps.one (show Kd.M (Kd.int .i64) _ _ _ a1 [.int .i64 a1] from rfl) (Reps.none _ _))); intro v386 w33 ho34 hb hg_ hnew_; clear hg_ hnew_; (first | rw [← Ny385.out] at ho34 | (simp only [Int.reduceToNat] at ho34; rw [← Ny385.out] at ho34)); have HO387 := Aside0.mk (Kd.R_lower (Kd.R_new' ho34 (Kd.R_lt (zb.out))) (below_size (HB.out))); replace zb := Aside0.mk (Kd.R_elder' (zb.out) (Kd.R_base ho34) hb); replace za := bb_ za hb; replace HB := Aside0.mk (below_step (HB.out) hb); clear hb ho34))
           go_loopg [7, 8] k2 (fun kq v7 v8 w' => ∃ (x5_3 : List Int) (x7_3 : List Int) (x8_3 : Int), v8 = .int .i64 x8_3 ∧ Aside0 (impl_NamesFrom.l1 kq x5_3 x7_3 x8_3 l0_0 l0_1 = some r) ∧ Aside0 (kq ≤ k2) ∧ Aside0 (Kd.R (Kd.int .i64) 3 w' w.heap.size (fun k_ => some k_ ≠ (v7 : Value).ownBlock) (.slice (some ⟨go30, 0, none⟩) x5_2.length zg) x5_3) ∧ Aside0 (Kd.R (Kd.int .i64) 3 w' w.heap.size (fun k_ => some k_ ≠ ((.slice (some ⟨go30, 0, none⟩) x5_2.length zg) : Value).ownBlock) v7 x7_3) ∧ Aside0 (w'.heap[zc]? = some (.cells #[(.slice A0_0 l0_0.length c0_0), (.slice A0_1 l0_1.length c0_1)] 33 (0, 0))) ∧ Aside0 (Below w.heap.size w w'))
           case atStart => exact ⟨(y384), (y385), (0), (by first | rfl | (simp; done) | (simp [*]; done)), H', ⟨Nat.le_refl _⟩, ⟨by (try simp only [hl5_2]); (with_reducible repeat (first | apply Kd.R_alloc | apply Kd.R_drewN | apply Kd.R_drew)); exact Kd.R_mono zb.out (fun _ hk => hk.2)⟩, ⟨by (try simp only [hl5_2]); (with_reducible repeat (first | apply Kd.R_alloc | apply Kd.R_drewN | apply Kd.R_drew)); exact Kd.R_mono HO387.out (fun _ hk => hk.2)⟩, ⟨by (try simp only [hl5_2]); (with_reducible repeat (first | refine blk_drewN ?_ _ | refine blk_drew ?_ | refine blk_alloc ?_ _)); exact za.out⟩, ⟨HB.out⟩⟩
           case round =>
            clear H'
            try clear c1
            try clear c2
            try clear p2
            try clear q2
            try clear hx2
            try clear hf2
            try clear c3
            try clear p3
            try clear q3
            try clear hx3
            try clear hf3
            try clear c6
            try clear p6
            try clear c7
            try clear zl
            try clear c15
            try clear c16
            try clear zQ
            try clear zR
            try clear c17
            try clear zS
            try clear zT
            try clear c22
            try clear zy
            try clear c23
            try clear za1
            try clear c24
            try clear zb1
            try clear p25
            try clear q25
            try clear hx25
            try clear hf25
            try clear c28
            try clear zc1
            try clear c29
            try clear zd1
            try clear p30
            try clear q30
            try clear hx30
            try clear hf30
            try clear c31
            try clear zm
            try clear zn
            try clear zq
            try clear zr
            try clear zu
            try clear zv
            try clear zF
            try clear zG
            try clear zA
            try clear zB
            try clear zo
            try clear zp
            try clear zs
            try clear zt
            try clear zw
            try clear zx
            try clear zH
            try clear zI
            try clear zC
            try clear zD
            try clear zU
            try clear zV
            try clear p2
            try clear p25
            try clear p30
            try clear q25
            try clear q30
            obtain ⟨x5_3, x7_3, x8_3, rfl, HA, HK3, zb, ze, za, HB⟩ := hrel
            have hl5_3 := (Kd.R_reads' zb.out).1
            rw [hl5_3] at zb
            (try simp only [hl5_3])
            (try simp only [hl5_3] at za)
            (try simp only [hl5_3] at ze)
            cases gk with
            | zero => exact absurd HA.out (by simp [impl_NamesFrom.l1])
            | succ k3 =>
             have H := HA.out
             clear HA
             simp only [impl_NamesFrom.l1] at H
             by_cases c35 : x8_3 < (x7_3.length : Int)
             ·rw [if_pos c35] at H
              have zE : decide (x8_3 < (x7_3.length : Int)) = true := decide_eq_true c35
              clear c35
              by_cases c36 : 0 ≤ x8_3
              ·rw [if_pos c36] at H
               have c36b0 : decide (0 ≤ x8_3) = true := decide_eq_true c36
               clear c36
               by_cases c37 : 0 ≤ (rd x7_3 x8_3)
               ·rw [if_pos c37] at H
                have c37b0 : decide (0 ≤ (rd x7_3 x8_3)) = true := decide_eq_true c37
                clear c37
                by_cases c38 : (rd x7_3 x8_3) < (l0_0.length : Int)
                ·rw [if_pos c38] at H
                 have c38b0 : decide ((rd x7_3 x8_3) < (l0_0.length : Int)) = true := decide_eq_true c38
                 clear c38
                 by_cases c39 : (rd x7_3 x8_3) < (l0_1.length : Int)
                 ·rw [if_pos c39] at H
                  have c39b0 : decide ((rd x7_3 x8_3) < (l0_1.length : Int)) = true := decide_eq_true c39
                  clear c39
                  obtain ⟨y392, hy392⟩ : ∃ y_ : List Int, y_ = (([rd l0_0 (rd x7_3 x8_3), rd l0_1 (rd x7_3 x8_3)] : List Int)) := ⟨_, rfl⟩
                  replace H : (impl_NamesFrom.l2 k3 x5_3 x7_3 x8_3 y392 (y392.length : Int) 0 l0_0 l0_1) = some r := by first | (rw [hy392]; with_reducible exact H) | (rw [hy392]; exact H)
                  have Ny392 := Aside0.mk hy392
                  clear hy392
                  have H' := Aside0.mk H
                  clear H
                  obtain ⟨Ao40, co40, eo40⟩ := Kd.R_slice ze.out
                  subst eo40
                  try go_wp2
                  have n0_ := Aside0.mk (Kd.R_drew zb.out)
                  have n1_ := Aside0.mk (Kd.R_drew ze.out)
                  have n2_ := Aside0.mk (blk_drew za.out)
                  have n3_ := Aside0.mk (below_drew1 HB.out)
                  clear zb
                  clear ze
                  clear za
                  clear HB
                  have zb := n0_
                  have ze := n1_
                  have za := n2_
                  have HB := n3_
                  clear n0_ n1_ n2_ n3_
                  have p388 : 0 ≤ (x8_3 : Int) := of_decide_eq_true (by first | (with_reducible assumption) | assumption)
                  have q388 : x8_3 < (x7_3.length : Int) := of_decide_eq_true (by first | (with_reducible assumption) | assumption)
                  obtain ⟨ad388, e388, zJ⟩ := Kd.at_int (Kd.R_reads' ze.out).2.2 x8_3 p388 q388
                  cases e388
                  replace p388 := eq_true p388
                  replace q388 := eq_true q388
                  have p389 : 0 ≤ ((rd x7_3 x8_3) : Int) := of_decide_eq_true (by first | (with_reducible assumption) | assumption)
                  have q389 : (rd x7_3 x8_3) < (l0_0.length : Int) := of_decide_eq_true (by first | (with_reducible assumption) | assumption)
                  obtain ⟨ad389, e389, zj⟩ := Kd.at_int zL.out (rd x7_3 x8_3) p389 q389
                  have hw389_0 := zj
                  cases e389
                  replace zj := (HB.out.cell (World.block_lt_of_cell? w _ zj)).trans zj
                  replace p389 := eq_true p389
                  replace q389 := eq_true q389
                  have p390 : 0 ≤ (x8_3 : Int) := of_decide_eq_true (by first | (with_reducible assumption) | assumption)
                  have q390 : x8_3 < (x7_3.length : Int) := of_decide_eq_true (by first | (with_reducible assumption) | assumption)
                  obtain ⟨ad390, e390, zK⟩ := Kd.at_int (Kd.R_reads' ze.out).2.2 x8_3 p390 q390
                  obtain rfl : ad388 = ad390 := (by injection e390)
                  replace p390 := eq_true p390
                  replace q390 := eq_true q390
                  have p391 : 0 ≤ ((rd x7_3 x8_3) : Int) := of_decide_eq_true (by first | (with_reducible assumption) | assumption)
                  have q391 : (rd x7_3 x8_3) < (l0_1.length : Int) := of_decide_eq_true (by first | (with_reducible assumption) | assumption)
                  obtain ⟨ad391, e391, zk⟩ := Kd.at_int zM.out (rd x7_3 x8_3) p391 q391
                  have hw391_0 := zk
                  cases e391
                  replace zk := (HB.out.cell (World.block_lt_of_cell? w _ zk)).trans zk
                  replace p391 := eq_true p391
                  replace q391 := eq_true q391
                  refine start_ (n := 19) (S := fun w' => w'.cell? ⟨zc, 0, none⟩ = some (.slice (some ad389) l0_0.length c0_0) ∧ w'.cell? ⟨zc, 1, none⟩ = some (.slice (some ad391) l0_1.length c0_1) ∧ w'.cell? (ad388.add (x8_3).toNat) = some (.int .i64 (rd x7_3 x8_3)) ∧ w'.cell? (ad389.add ((rd x7_3 x8_3)).toNat) = some (.int .i64 (rd l0_0 (rd x7_3 x8_3))) ∧ w'.cell? (ad388.add (x8_3).toNat) = some (.int .i64 (rd x7_3 x8_3)) ∧ w'.cell? (ad391.add ((rd x7_3 x8_3)).toNat) = some (.int .i64 (rd l0_1 (rd x7_3 x8_3)))) (ds := []) #[false, false, false, false, false, false, false, false, false, false, false, false, false, false, false, false, false, false, false] (by kernel_rfl) rfl rfl ⟨(blk_cell za.out 0).trans rfl, (blk_cell za.out 1).trans rfl, zJ, ((HB.out.cell (World.block_lt_of_cell? w _ hw389_0)).trans hw389_0), zK, ((HB.out.cell (World.block_lt_of_cell? w _ hw391_0)).trans hw391_0)⟩ (fun hHeld => ?_); refine with_tabW impl_NamesFrom.tab14 impl_NamesFrom.bits14 (fun HT_ HW_ => ?_)
                  generalize wr.drew = w41 at zb ze za HB zJ zj zK zk hHeld ⊢
                  refine pure_ (i := 0) (N := some 49) (v := ?_) (a' := ?_) #[true, false, false, false, false, false, false, false, false, false, false, false, false, false, false, false, false, false, false] rfl rfl (any_of HT_.out (by kernel_rfl)) (fun _ _ _ h => h) (Or.inl ⟨by rfl, ?_⟩) ?_ ?_
                  rotate_left
                  ·intro w'
                   go_simp
                   with_reducible rfl
                  rotate_left
                  ·simp only [Act.put, List.setIfInBounds_toArray, List.set_cons_zero, List.set_cons_succ, i64_w, i32_w]
                   rfl
                  refine pure_ (i := 2) (N := some 51) (v := ?_) (a' := ?_) #[true, false, true, false, false, false, false, false, false, false, false, false, false, false, false, false, false, false, false] rfl rfl (any_of HT_.out (by kernel_rfl)) (fun _ _ _ h => h) (Or.inl ⟨by rfl, ?_⟩) ?_ ?_
                  rotate_left
                  ·intro w'
                   go_simp
                   with_reducible rfl
                  rotate_left
                  ·simp only [Act.put, List.setIfInBounds_toArray, List.set_cons_zero, List.set_cons_succ, i64_w, i32_w]
                   rfl
                  refine pure_ (i := 3) (N := some 52) (v := ?_) (a' := ?_) #[true, false, true, true, false, false, false, false, false, false, false, false, false, false, false, false, false, false, false] rfl rfl (any_of HT_.out (by kernel_rfl)) (fun _ _ _ h => h) (Or.inl ⟨by rfl, ?_⟩) ?_ ?_
                  rotate_left
                  ·intro w'
                   go_simp
                   with_reducible rfl
                  rotate_left
                  ·simp only [Act.put, List.setIfInBounds_toArray, List.set_cons_zero, List.set_cons_succ, i64_w, i32_w]
                   rfl
                  refine pure_ (i := 4) (N := some 53) (v := ?_) (a' := ?_) #[true, false, true, true, true, false, false, false, false, false, false, false, false, false, false, false, false, false, false] rfl rfl (any_of HT_.out (by kernel_rfl)) (fun _ _ _ h => h) (Or.inl ⟨by rfl, ?_⟩) ?_ ?_
                  rotate_left
                  ·intro w'
                   go_simp
                   with_reducible rfl
                  rotate_left
                  ·simp only [Act.put, List.setIfInBounds_toArray, List.set_cons_zero, List.set_cons_succ, i64_w, i32_w]
                   rfl
                  refine pure_ (i := 8) (N := some 57) (v := ?_) (a' := ?_) #[true, false, true, true, true, false, false, false, true, false, false, false, false, false, false, false, false, false, false] rfl rfl (any_of HT_.out (by kernel_rfl)) (fun _ _ _ h => h) (Or.inl ⟨by rfl, ?_⟩) ?_ ?_
                  rotate_left
                  ·intro w'
                   go_simp
                   with_reducible rfl
                  rotate_left
                  ·simp only [Act.put, List.setIfInBounds_toArray, List.set_cons_zero, List.set_cons_succ, i64_w, i32_w]
                   rfl
                  refine pure_ (i := 10) (N := some 59) (v := ?_) (a' := ?_) #[true, false, true, true, true, false, false, false, true, false, true, false, false, false, false, false, false, false, false] rfl rfl (any_of HT_.out (by kernel_rfl)) (fun _ _ _ h => h) (Or.inl ⟨by rfl, ?_⟩) ?_ ?_
                  rotate_left
                  ·intro w'
                   go_simp
                   with_reducible rfl
                  rotate_left
                  ·simp only [Act.put, List.setIfInBounds_toArray, List.set_cons_zero, List.set_cons_succ, i64_w, i32_w]
                   rfl
                  refine pure_ (i := 11) (N := some 60) (v := ?_) (a' := ?_) #[true, false, true, true, true, false, false, false, true, false, true, true, false, false, false, false, false, false, false] rfl rfl (any_of HT_.out (by kernel_rfl)) (fun _ _ _ h => h) (Or.inl ⟨by rfl, ?_⟩) ?_ ?_
                  rotate_left
                  ·intro w'
                   go_simp
                   with_reducible rfl
                  rotate_left
                  ·simp only [Act.put, List.setIfInBounds_toArray, List.set_cons_zero, List.set_cons_succ, i64_w, i32_w]
                   rfl
                  refine pure_ (i := 12) (N := some 61) (v := ?_) (a' := ?_) #[true, false, true, true, true, false, false, false, true, false, true, true, true, false, false, false, false, false, false] rfl rfl (any_of HT_.out (by kernel_rfl)) (fun _ _ _ h => h) (Or.inl ⟨by rfl, ?_⟩) ?_ ?_
                  rotate_left
                  ·intro w'
                   go_simp
                   with_reducible rfl
                  rotate_left
                  ·simp only [Act.put, List.setIfInBounds_toArray, List.set_cons_zero, List.set_cons_succ, i64_w, i32_w]
                   rfl
                  refine pure_ (i := 18) (N := some 67) (v := ?_) (a' := ?_) #[true, false, true, true, true, false, false, false, true, false, true, true, true, false, false, false, false, false, true] rfl rfl (any_of HT_.out (by kernel_rfl)) (fun _ _ _ h => h) (Or.inl ⟨by rfl, ?_⟩) ?_ ?_
                  rotate_left
                  ·intro w'
                   go_simp
                   with_reducible rfl
                  rotate_left
                  ·simp only [Act.put, List.setIfInBounds_toArray, List.set_cons_zero, List.set_cons_succ, i64_w, i32_w]
                   rfl
                  refine take_ (i := 1) (N := some 50) (v := ?_) (a' := ?_) #[true, true, true, true, true, false, false, false, true, false, true, true, true, false, false, false, false, false, true] rfl rfl (take_ofW HT_.out HW_.out (by kernel_rfl)) (fun _ _ _ h => h) (Or.inl ⟨by rfl, ?_⟩) hHeld ?_ ?_
                  rotate_left
                  ·rintro w' ⟨s0, s1, s2, s3, s4, s5⟩
                   go_simp
                   with_reducible rfl
                  rotate_left
                  ·simp only [Act.put, List.setIfInBounds_toArray, List.set_cons_zero, List.set_cons_succ, i64_w, i32_w]
                   rfl
                  refine take_ (i := 5) (N := some 54) (v := ?_) (a' := ?_) #[true, true, true, true, true, true, false, false, true, false, true, true, true, false, false, false, false, false, true] rfl rfl (take_ofW HT_.out HW_.out (by kernel_rfl)) (fun _ _ _ h => h) (Or.inl ⟨by rfl, ?_⟩) hHeld ?_ ?_
                  rotate_left
                  ·rintro w' ⟨s0, s1, s2, s3, s4, s5⟩
                   go_simp
                   with_reducible rfl
                  rotate_left
                  ·simp only [Act.put, List.setIfInBounds_toArray, List.set_cons_zero, List.set_cons_succ, i64_w, i32_w]
                   rfl
                  refine pure_ (i := 6) (N := some 55) (v := ?_) (a' := ?_) #[true, true, true, true, true, true, true, false, true, false, true, true, true, false, false, false, false, false, true] rfl rfl (any_of HT_.out (by kernel_rfl)) (fun _ _ _ h => h) (Or.inl ⟨by rfl, ?_⟩) ?_ ?_
                  rotate_left
                  ·intro w'
                   go_simp
                   with_reducible rfl
                  rotate_left
                  ·simp only [Act.put, List.setIfInBounds_toArray, List.set_cons_zero, List.set_cons_succ, i64_w, i32_w]
                   rfl
                  refine take_ (i := 7) (N := some 56) (v := ?_) (a' := ?_) #[true, true, true, true, true, true, true, true, true, false, true, true, true, false, false, false, false, false, true] rfl rfl (take_ofW HT_.out HW_.out (by kernel_rfl)) (fun _ _ _ h => h) (Or.inl ⟨by rfl, ?_⟩) hHeld ?_ ?_
                  rotate_left
                  ·rintro w' ⟨s0, s1, s2, s3, s4, s5⟩
                   go_simp
                   with_reducible rfl
                  rotate_left
                  ·simp only [Act.put, List.setIfInBounds_toArray, List.set_cons_zero, List.set_cons_succ, i64_w, i32_w]
                   rfl
                  refine take_ (i := 9) (N := some 58) (v := ?_) (a' := ?_) #[true, true, true, true, true, true, true, true, true, true, true, true, true, false, false, false, false, false, true] rfl rfl (take_ofW HT_.out HW_.out (by kernel_rfl)) (fun _ _ _ h => h) (Or.inl ⟨by rfl, ?_⟩) hHeld ?_ ?_
                  rotate_left
                  ·rintro w' ⟨s0, s1, s2, s3, s4, s5⟩
                   go_simp
                   with_reducible rfl
                  rotate_left
                  ·simp only [Act.put, List.setIfInBounds_toArray, List.set_cons_zero, List.set_cons_succ, i64_w, i32_w]
                   rfl
                  refine take_ (i := 13) (N := some 62) (v := ?_) (a' := ?_) #[true, true, true, true, true, true, true, true, true, true, true, true, true, true, false, false, false, false, true] rfl rfl (take_ofW HT_.out HW_.out (by kernel_rfl)) (fun _ _ _ h => h) (Or.inl ⟨by rfl, ?_⟩) hHeld ?_ ?_
                  rotate_left
                  ·rintro w' ⟨s0, s1, s2, s3, s4, s5⟩
                   go_simp
                   with_reducible rfl
                  rotate_left
                  ·simp only [Act.put, List.setIfInBounds_toArray, List.set_cons_zero, List.set_cons_succ, i64_w, i32_w]
                   rfl
                  refine pure_ (i := 14) (N := some 63) (v := ?_) (a' := ?_) #[true, true, true, true, true, true, true, true, true, true, true, true, true, true, true, false, false, false, true] rfl rfl (any_of HT_.out (by kernel_rfl)) (fun _ _ _ h => h) (Or.inl ⟨by rfl, ?_⟩) ?_ ?_
                  rotate_left
                  ·intro w'
                   go_simp
                   with_reducible rfl
                  rotate_left
                  ·simp only [Act.put, List.setIfInBounds_toArray, List.set_cons_zero, List.set_cons_succ, i64_w, i32_w]
                   rfl
                  refine take_ (i := 15) (N := some 64) (v := ?_) (a' := ?_) #[true, true, true, true, true, true, true, true, true, true, true, true, true, true, true, true, false, false, true] rfl rfl (take_ofW HT_.out HW_.out (by kernel_rfl)) (fun _ _ _ h => h) (Or.inl ⟨by rfl, ?_⟩) hHeld ?_ ?_
                  rotate_left
                  ·rintro w' ⟨s0, s1, s2, s3, s4, s5⟩
                   go_simp
                   with_reducible rfl
                  rotate_left
                  ·simp only [Act.put, List.setIfInBounds_toArray, List.set_cons_zero, List.set_cons_succ, i64_w, i32_w]
                   rfl
                  refine one_ (i := 16) (N := some 65) #[true, true, true, true, true, true, true, true, true, true, true, true, true, true, true, true, true, false, true] rfl rfl (one_of HT_.out (by kernel_rfl)) (by decide) (fun K hK => ?_)
                  refine Kd.R_lit_step (Kd.int .i64) _ 3 ?hg (N := 65) ?hd (xs := ([rd l0_0 (rd x7_3 x8_3), rd l0_1 (rd x7_3 x8_3)] : List Int)) (inner := [.int .i64 (rd l0_0 (rd x7_3 x8_3)), .int .i64 (rd l0_1 (rd x7_3 x8_3))]) (ok := fun _ => True) (okp := fun _ => True) ?hr ?hp (fun _ hk => hk) trivial (Below.refl _ _) (Nat.le_refl _) (by simp) ?_; (case hd => rfl); (case hg => rfl); (case hr => first | (go_simp; done) | (go_simp; rfl)); (case hp => exact (Reps.one (show Kd.M (Kd.int .i64) _ _ _ (rd l0_0 (rd x7_3 x8_3)) [.int .i64 (rd l0_0 (rd x7_3 x8_3))] from rfl) (Reps.one (show Kd.M (Kd.int .i64) _ _ _ (rd l0_1 (rd x7_3 x8_3)) [.int .i64 (rd l0_1 (rd x7_3 x8_3))] from rfl) (Reps.none _ _))))
                  intro v393 w42 ho43 hb hg_ hnew_
                  have HS2_ := (hb.cell (World.block_lt_of_cell? _ _ (hHeld.2.2.1))).trans (hHeld.2.2.1)
                  have HS4_ := (hb.cell (World.block_lt_of_cell? _ _ (hHeld.2.2.2.2.1))).trans (hHeld.2.2.2.2.1)
                  clear hg_ hnew_
                  (first | rw [← Ny392.out] at ho43 | (simp only [Int.reduceToNat] at ho43; rw [← Ny392.out] at ho43))
                  have n0_ := Aside0.mk (Kd.R_elder' (zb.out) (Kd.R_base ho43) hb)
                  have n1_ := Aside0.mk (Kd.R_elder' (ze.out) (Kd.R_base ho43) hb)
                  have n2_ := Aside0.mk (Kd.R_lower (Kd.R_new' (Kd.R_new' ho43 (Kd.R_lt (zb.out))) (Kd.R_lt (ze.out))) (below_size (HB.out)))
                  have n3_ := Aside0.mk (blk_below (g := zc) (o := .cells #[.slice (some ad389) l0_0.length c0_0, .slice (some ad391) l0_1.length c0_1] 33 (0, 0)) (za.out) hb)
                  have n4_ := Aside0.mk (below_step (HB.out) hb)
                  clear zb
                  clear ze
                  clear za
                  clear HB
                  have zb := n0_
                  have ze := n1_
                  have ze1 := n2_
                  have za := n3_
                  have HB := n4_
                  clear n0_ n1_ n2_ n3_ n4_
                  clear hb ho43
                  obtain ⟨zW, zz, eo44⟩ := Kd.R_slice ze1.out
                  (first | subst eo44 | (injection eo44 with f1_ f2_ f3_; have f4_ := f1_.symm; have f5_ := f3_.symm; clear f1_ f2_ f3_; subst f4_; subst f5_))
                  refine hK.out _ _ ⟨(blk_cell za.out 0).trans rfl, (blk_cell za.out 1).trans rfl, HS2_, ((HB.out.cell (World.block_lt_of_cell? w _ hw389_0)).trans hw389_0), HS4_, ((HB.out.cell (World.block_lt_of_cell? w _ hw391_0)).trans hw391_0)⟩ (fun hHeld => ?_)
                  clear hK K
                  refine norm_ (a' := ?_) ?_ ?_
                  rotate_left
                  ·show Act.put _ (some 65) _ = _
                   simp only [Act.put, List.setIfInBounds_toArray, List.set_cons_zero, List.set_cons_succ, i64_w, i32_w]
                   rfl
                  refine pure_ (i := 17) (N := some 66) (v := ?_) (a' := ?_) #[true, true, true, true, true, true, true, true, true, true, true, true, true, true, true, true, true, true, true] rfl rfl (any_of HT_.out (by kernel_rfl)) (fun _ _ _ h => h) (Or.inl ⟨by rfl, ?_⟩) ?_ ?_
                  rotate_left
                  ·intro w'
                   go_simp
                   with_reducible rfl
                  rotate_left
                  ·simp only [Act.put, List.setIfInBounds_toArray, List.set_cons_zero, List.set_cons_succ, i64_w, i32_w]
                   rfl
                  refine done_ (done_of HT_.out (by kernel_rfl)) ?_
                  try go_wp2
                  go_loopg [7, 67] k3 (fun kq v7 v67 w' => ∃ (x5_4 : List Int) (x7_4 : List Int) (x67_4 : Int), v67 = .int .i64 x67_4 ∧ Aside0 (impl_NamesFrom.l2 kq x5_4 x7_4 x8_3 y392 (y392.length : Int) x67_4 l0_0 l0_1 = some r) ∧ Aside0 (kq ≤ k3) ∧ Aside0 (Kd.R (Kd.int .i64) 3 w' w.heap.size (fun k_ => some k_ ≠ (v7 : Value).ownBlock ∧ some k_ ≠ ((.slice zW y392.length zz) : Value).ownBlock) (.slice (some ⟨go30, 0, none⟩) x5_3.length zg) x5_4) ∧ Aside0 (Kd.R (Kd.int .i64) 3 w' w.heap.size (fun k_ => some k_ ≠ ((.slice (some ⟨go30, 0, none⟩) x5_3.length zg) : Value).ownBlock ∧ some k_ ≠ ((.slice zW y392.length zz) : Value).ownBlock) v7 x7_4) ∧ Aside0 (Kd.R (Kd.int .i64) 3 w' w.heap.size (fun k_ => some k_ ≠ ((.slice (some ⟨go30, 0, none⟩) x5_3.length zg) : Value).ownBlock ∧ some k_ ≠ (v7 : Value).ownBlock) (.slice zW y392.length zz) y392) ∧ Aside0 (w'.heap[zc]? = some (.cells #[(.slice (some ad389) l0_0.length c0_0), (.slice (some ad391) l0_1.length c0_1)] 33 (0, 0))) ∧ Aside0 (Below w.heap.size w w'))
                  case atStart => exact ⟨(x5_3), (x7_3), (0), (by first | rfl | (simp; done) | (simp [*]; done)), H', ⟨Nat.le_refl _⟩, ⟨by (try simp only [hl5_2]); (try simp only [hl5_3]); (with_reducible repeat (first | apply Kd.R_alloc | apply Kd.R_drewN | apply Kd.R_drew)); exact zb.out⟩, ⟨by (try simp only [hl5_2]); (try simp only [hl5_3]); (with_reducible repeat (first | apply Kd.R_alloc | apply Kd.R_drewN | apply Kd.R_drew)); exact ze.out⟩, ⟨by (try simp only [hl5_2]); (try simp only [hl5_3]); (with_reducible repeat (first | apply Kd.R_alloc | apply Kd.R_drewN | apply Kd.R_drew)); exact Kd.R_mono ze1.out (fun _ hk => ⟨hk.1.2, hk.2⟩)⟩, ⟨by (try simp only [hl5_2]); (try simp only [hl5_3]); (with_reducible repeat (first | refine blk_drewN ?_ _ | refine blk_drew ?_ | refine blk_alloc ?_ _)); exact za.out⟩, ⟨HB.out⟩⟩
                  case round =>
                   clear H'
                   try clear c1
                   try clear c2
                   try clear p2
                   try clear q2
                   try clear hx2
                   try clear hf2
                   try clear c3
                   try clear p3
                   try clear q3
                   try clear hx3
                   try clear hf3
                   try clear c6
                   try clear p6
                   try clear c7
                   try clear zl
                   try clear c15
                   try clear c16
                   try clear zQ
                   try clear zR
                   try clear c17
                   try clear zS
                   try clear zT
                   try clear c22
                   try clear zy
                   try clear c23
                   try clear za1
                   try clear c24
                   try clear zb1
                   try clear p25
                   try clear q25
                   try clear hx25
                   try clear hf25
                   try clear c28
                   try clear zc1
                   try clear c29
                   try clear zd1
                   try clear p30
                   try clear q30
                   try clear hx30
                   try clear hf30
                   try clear c31
                   try clear c35
                   try clear zE
                   try clear c36
                   try clear c36b0
                   try clear c37
                   try clear c37b0
                   try clear c38
                   try clear c38b0
                   try clear p38
                   try clear q38
                   try clear hx38
                   try clear c39
                   try clear c39b0
                   try clear p39
                   try clear q39
                   try clear hx39
                   try clear zm
                   try clear zn
                   try clear zq
                   try clear zr
                   try clear zu
                   try clear zv
                   try clear zF
                   try clear zG
                   try clear zA
                   try clear zB
                   try clear zo
                   try clear zp
                   try clear zs
                   try clear zt
                   try clear zw
                   try clear zx
                   try clear zH
                   try clear zI
                   try clear zC
                   try clear zD
                   try clear zU
                   try clear zV
                   try clear zJ
                   try clear zj
                   try clear zK
                   try clear zk
                   try clear p2
                   try clear p25
                   try clear p3
                   try clear p30
                   try clear p388
                   try clear p389
                   try clear p390
                   try clear p391
                   try clear p6
                   try clear q2
                   try clear q25
                   try clear q3
                   try clear q30
                   try clear q388
                   try clear q389
                   try clear q390
                   try clear q391
                   obtain ⟨x5_4, x7_4, x67_4, rfl, HA, HK4, zb, ze, zi, za, HB⟩ := hrel
                   have hl5_4 := (Kd.R_reads' zb.out).1
                   rw [hl5_4] at zb
                   (try simp only [hl5_4])
                   (try simp only [hl5_4] at za)
                   (try simp only [hl5_4] at ze)
                   (try simp only [hl5_4] at zi)
                   cases gk with
                   | zero => exact absurd HA.out (by simp [impl_NamesFrom.l2])
                   | succ k4 =>
                    have H := HA.out
                    clear HA
                    simp only [impl_NamesFrom.l2] at H
                    by_cases c45 : x67_4 < (y392.length : Int)
                    ·rw [if_pos c45] at H
                     have zN : decide (x67_4 < (y392.length : Int)) = true := decide_eq_true c45
                     clear c45
                     by_cases c46 : 0 ≤ x67_4
                     ·rw [if_pos c46] at H
                      have c46b0 : decide (0 ≤ x67_4) = true := decide_eq_true c46
                      clear c46
                      by_cases c47 : x67_4 < (y392.length : Int)
                      ·rw [if_pos c47] at H
                       have c47b0 : decide (x67_4 < (y392.length : Int)) = true := decide_eq_true c47
                       clear c47
                       by_cases c48 : 0 ≤ (rd y392 x67_4)
                       ·rw [if_pos c48] at H
                        have c48b0 : decide (0 ≤ (rd y392 x67_4)) = true := decide_eq_true c48
                        clear c48
                        by_cases c49 : (rd y392 x67_4) < (x5_4.length : Int)
                        ·rw [if_pos c49] at H
                         have c49b0 : decide ((rd y392 x67_4) < (x5_4.length : Int)) = true := decide_eq_true c49
                         clear c49
                         by_cases c50 : (rd x5_4 (rd y392 x67_4)) < 0
                         ·rw [if_pos c50] at H
                          have c50b0 : decide ((rd x5_4 (rd y392 x67_4)) < 0) = true := decide_eq_true c50
                          clear c50
                          obtain ⟨y397, hy397⟩ : ∃ y_ : List Int, y_ = (x5_4.set ((rd y392 x67_4) : Int).toNat (x7_4.length : Int)) := ⟨_, rfl⟩
                          replace H : (if x7_4.length < 17592186044416 then (impl_NamesFrom.l2 k4 y397 (x7_4 ++ [rd y392 x67_4]) x8_3 y392 (y392.length : Int) (wrap64 (x67_4 + 1)) l0_0 l0_1) else (none)) = some r := by first | (rw [hy397]; with_reducible exact H) | (rw [hy397]; exact H)
                          have Ny397 := Aside0.mk hy397
                          clear hy397
                          by_cases c52 : x7_4.length < 17592186044416
                          ·rw [if_pos c52] at H
                           have LMc52 := Aside0.mk c52
                           clear c52
                           obtain ⟨y398, hy398⟩ : ∃ y_ : List Int, y_ = (x7_4 ++ [rd y392 x67_4]) := ⟨_, rfl⟩
                           replace H : (impl_NamesFrom.l2 k4 y397 y398 x8_3 y392 (y392.length : Int) (wrap64 (x67_4 + 1)) l0_0 l0_1) = some r := by first | (rw [hy398]; with_reducible exact H) | (rw [hy398]; exact H)
                           have Ny398 := Aside0.mk hy398
                           clear hy398
                           have H' := Aside0.mk H
                           clear H
                           have p395 : 0 ≤ (x67_4 : Int) := of_decide_eq_true (by first | (with_reducible assumption) | assumption)
                           have q395 : x67_4 < (y392.length : Int) := of_decide_eq_true (by first | (with_reducible assumption) | assumption)
                           obtain ⟨ad395, e395, hx395_0⟩ := Kd.at_int (Kd.R_reads' zi.out).2.2 x67_4 p395 q395
                           cases e395
                           replace p395 := eq_true p395
                           replace q395 := eq_true q395
                           have p396 : 0 ≤ ((rd y392 x67_4) : Int) := of_decide_eq_true (by first | (with_reducible assumption) | assumption)
                           have q396 : (rd y392 x67_4) < (x5_4.length : Int) := of_decide_eq_true (by first | (with_reducible assumption) | assumption)
                           obtain ⟨ad396, e396, zh⟩ := Kd.at_int (Kd.R_reads' zb.out).2.2 (rd y392 x67_4) p396 q396
                           obtain rfl : (⟨go30, 0, none⟩ : Addr) = ad396 := (by injection e396)
                           (first | simp only [add_plain] at zh | simp only [add_at] at zh | simp only [Addr.add, Nat.zero_add] at zh | skip)
                           replace p396 := eq_true p396
                           replace q396 := eq_true q396
                           obtain ⟨zX, zY, eo53⟩ := Kd.R_slice ze.out
                           subst eo53
                           have p51 : 0 ≤ ((rd y392 x67_4) : Int) := of_decide_eq_true (by first | (with_reducible assumption) | assumption)
                           have q51 : ((rd y392 x67_4) : Int) < ((x5_4.length : Int) : Int) := of_decide_eq_true (by first | (with_reducible assumption) | assumption)
                           obtain ⟨hx51_0, hf51_0⟩ := Kd.R_celln 0 zb.out ((rd y392 x67_4) : Int) p51 q51
                           replace p51 := eq_true p51
                           replace q51 := eq_true q51
                           have HP54 := Kd.R_putg zb.out ((rd y392 x67_4) : Int) (x7_4.length : Int)
                           go_wp2_with (first | ((with_reducible refine gate_store (t := 3) (p := 80) rfl ?_); refine store_event (t := 3) (p := 80) (v := ?vo_w55) (w1 := (wr.setCell ⟨go30, ((rd y392 x67_4) : Int).toNat, none⟩ (.int .i64 (x7_4.length : Int)))) ?hg ?ho ?hn ?hr ?_; (case ho => rfl); (case hg => rfl); (case hn => rfl); (case hr => first | (go_simp; done) | (go_simp; rfl)); intro w55 hw; have hg : wr.grownBy w55 (some go30) := (by rw [hw]; exact HP54.2); have hp_ : Kd.R (Kd.int .i64) 3 w55 w.heap.size (fun k_ => some k_ ≠ (.slice zX x7_4.length zY : Value).ownBlock ∧ some k_ ≠ (.slice (some ad395) y392.length zz : Value).ownBlock) (.slice (some ⟨go30, 0, none⟩) x5_4.length zg) y397 := (by rw [hw, Ny397.out]; exact HP54.1); clear HP54; replace ze := Aside0.mk (Kd.R_after (v := (.slice (some ⟨go30, 0, none⟩) x5_4.length zg)) (v1 := (.slice (some ⟨go30, 0, none⟩) x5_4.length zg)) (ok := (fun k_ => some k_ ≠ (.slice (some ad395) y392.length zz : Value).ownBlock)) (Kd.R_mono ze.out (fun _ hk => ⟨hk.2, hk.1⟩)) hg (.inl rfl)); replace zi := Aside0.mk (Kd.R_after (v := (.slice (some ⟨go30, 0, none⟩) x5_4.length zg)) (v1 := (.slice (some ⟨go30, 0, none⟩) x5_4.length zg)) (ok := (fun k_ => some k_ ≠ (.slice zX x7_4.length zY : Value).ownBlock)) (Kd.R_mono zi.out (fun _ hk => ⟨hk.2, hk.1⟩)) hg (.inl rfl)); replace za := Aside0.mk (blk_grown (g := zc) (o := .cells #[.slice (some ad389) l0_0.length c0_0, .slice (some ad391) l0_1.length c0_1] 33 (0, 0)) (za.out) hg (Kd.R_ne zb.out za.out (by decide))); replace zb := Aside0.mk (hp_); replace HB := Aside0.mk ((by rw [hw]; exact below_set (HB.out) GB30.out : Below w.heap.size w w55)); clear hg hw hp_) | ((with_reducible refine gate_builtin (b := .append) (xs := #[.tmp 81, .tmp 83]) rfl ?_); (try (refine gate_guard (by rfl) ?_; dsimp only)); at_builtin; refine Kd.R_append (Kd.int .i64) (w0 := w) w.heap.size rfl (.tmp 81) (.tmp 83) 31 3 (.int .i64 0) 8 rfl Try.underlying31 info3 rfl (by decide) (by omega) (.slice zX x7_4.length zY) x7_4 (rd y392 x67_4) [.int .i64 (rd y392 x67_4)] (fun k_ => some k_ ≠ (.slice (some ⟨go30, 0, none⟩) x5_4.length zg : Value).ownBlock ∧ some k_ ≠ (.slice (some ad395) y392.length zz : Value).ownBlock) (fun _ => False) rfl rfl ?aP (fun _ hk => hk.elim) ?aF ?aO ?aB ?aS ?aL ?_; (case aP => exact rfl); (case aB => exact (HB.out)); (case aF => exact (fun k_ hk => ⟨Kd.fresh' (Kd.R_lt (zb.out)) k_ hk, Kd.fresh' (Kd.R_lt (zi.out)) k_ hk⟩)); (case aO => exact (Kd.R_mono ze.out (fun _ hk => ⟨hk.2, hk.1⟩))); (case aS => exact (below_size (HB.out))); (case aL => have := LMc52.out; omega); intro v399 w56 ho hb hg hat; rw [← Ny398.out] at ho; have HO400 := Aside0.mk (ho); replace zb := Aside0.mk (Kd.R_after (ok := (fun k_ => some k_ ≠ (.slice (some ad395) y392.length zz : Value).ownBlock)) (Kd.R_mono zb.out (fun _ hk => ⟨hk.2, hk.1⟩)) hg hat); replace zi := Aside0.mk (Kd.R_after (ok := (fun k_ => some k_ ≠ (.slice (some ⟨go30, 0, none⟩) x5_4.length zg : Value).ownBlock)) (Kd.R_mono zi.out (fun _ hk => ⟨hk.2, hk.1⟩)) hg hat); replace za := Aside0.mk (blk_grown (g := zc) (o := .cells #[.slice (some ad389) l0_0.length c0_0, .slice (some ad391) l0_1.length c0_1] 33 (0, 0)) (za.out) hg (Kd.R_ne ze.out za.out (by decide))); replace HB := Aside0.mk (hb); clear ze; clear ho hb hg hat))
                           (try simp only [← hl5_4])
                           go_roundg k4
                           case measure => have := HJ2.out; have := HK2.out; have := HK3.out; have := HK4.out; omega
                           case rel => exact ⟨(y397), (y398), (wrap64 (x67_4 + 1)), (by first | rfl | (simp; done) | (simp [*]; done)), H', ⟨by have := HJ2.out; have := HK2.out; have := HK3.out; have := HK4.out; omega⟩, ⟨by (try simp only [hl5_2]); (try simp only [hl5_3]); (try simp only [hl5_4]); (with_reducible repeat (first | apply Kd.R_alloc | apply Kd.R_drewN | apply Kd.R_drew)); exact Kd.R_mono zb.out (fun _ hk => ⟨hk.2, hk.1⟩)⟩, ⟨by (try simp only [hl5_2]); (try simp only [hl5_3]); (try simp only [hl5_4]); (with_reducible repeat (first | apply Kd.R_alloc | apply Kd.R_drewN | apply Kd.R_drew)); exact HO400.out⟩, ⟨by (try simp only [hl5_2]); (try simp only [hl5_3]); (try simp only [hl5_4]); (with_reducible repeat (first | apply Kd.R_alloc | apply Kd.R_drewN | apply Kd.R_drew)); exact zi.out⟩, ⟨by (try simp only [hl5_2]); (try simp only [hl5_3]); (try simp only [hl5_4]); (with_reducible repeat (first | refine blk_drewN ?_ _ | refine blk_drew ?_ | refine blk_alloc ?_ _)); exact za.out⟩, ⟨HB.out⟩⟩
                          ·rw [if_neg c52] at H
                           exact absurd H (by simp)
                         ·rw [if_neg c50] at H
                          have c50b0 : decide ((rd x5_4 (rd y392 x67_4)) < 0) = false := decide_eq_false c50
                          clear c50
                          have H' := Aside0.mk H
                          clear H
                          have p395 : 0 ≤ (x67_4 : Int) := of_decide_eq_true (by first | (with_reducible assumption) | assumption)
                          have q395 : x67_4 < (y392.length : Int) := of_decide_eq_true (by first | (with_reducible assumption) | assumption)
                          obtain ⟨ad395, e395, hx395_0⟩ := Kd.at_int (Kd.R_reads' zi.out).2.2 x67_4 p395 q395
                          cases e395
                          replace p395 := eq_true p395
                          replace q395 := eq_true q395
                          have p396 : 0 ≤ ((rd y392 x67_4) : Int) := of_decide_eq_true (by first | (with_reducible assumption) | assumption)
                          have q396 : (rd y392 x67_4) < (x5_4.length : Int) := of_decide_eq_true (by first | (with_reducible assumption) | assumption)
                          obtain ⟨ad396, e396, zh⟩ := Kd.at_int (Kd.R_reads' zb.out).2.2 (rd y392 x67_4) p396 q396
                          obtain rfl : (⟨go30, 0, none⟩ : Addr) = ad396 := (by injection e396)
                          (first | simp only [add_plain] at zh | simp only [add_at] at zh | simp only [Addr.add, Nat.zero_add] at zh | skip)
                          replace p396 := eq_true p396
                          replace q396 := eq_true q396
                          go_wp2
                          (try simp only [← hl5_4])
                          go_roundg k4
                          case measure => have := HJ2.out; have := HK2.out; have := HK3.out; have := HK4.out; omega
                          case rel => exact ⟨(x5_4), (x7_4), (wrap64 (x67_4 + 1)), (by first | rfl | (simp; done) | (simp [*]; done)), H', ⟨by have := HJ2.out; have := HK2.out; have := HK3.out; have := HK4.out; omega⟩, ⟨by (try simp only [hl5_2]); (try simp only [hl5_3]); (try simp only [hl5_4]); (with_reducible repeat (first | apply Kd.R_alloc | apply Kd.R_drewN | apply Kd.R_drew)); exact zb.out⟩, ⟨by (try simp only [hl5_2]); (try simp only [hl5_3]); (try simp only [hl5_4]); (with_reducible repeat (first | apply Kd.R_alloc | apply Kd.R_drewN | apply Kd.R_drew)); exact ze.out⟩, ⟨by (try simp only [hl5_2]); (try simp only [hl5_3]); (try simp only [hl5_4]); (with_reducible repeat (first | apply Kd.R_alloc | apply Kd.R_drewN | apply Kd.R_drew)); exact zi.out⟩, ⟨by (try simp only [hl5_2]); (try simp only [hl5_3]); (try simp only [hl5_4]); (with_reducible repeat (first | refine blk_drewN ?_ _ | refine blk_drew ?_ | refine blk_alloc ?_ _)); exact za.out⟩, ⟨HB.out⟩⟩
                        ·rw [if_neg c49] at H
                         exact absurd H (by simp)
                       ·rw [if_neg c48] at H
                        exact absurd H (by simp)
                      ·rw [if_neg c47] at H
                       exact absurd H (by simp)
                     ·rw [if_neg c46] at H
                      exact absurd H (by simp)
                    ·rw [if_neg c45] at H
                     have zN : decide (x67_4 < (y392.length : Int)) = false := decide_eq_false c45
                     (try simp only [hl5_2] at zN; try simp only [hl5_3] at zN; try simp only [hl5_4] at zN)
                     clear c45
                     have H' := Aside0.mk H
                     clear H
                     go_wp2
                     (try simp only [← hl5_3, ← hl5_4])
                     go_roundg k4
                     case measure => have := HJ2.out; have := HK2.out; have := HK3.out; have := HK4.out; omega
                     case rel => exact ⟨(x5_4), (x7_4), (wrap64 (x8_3 + 1)), (by first | rfl | (simp; done) | (simp [*]; done)), H', ⟨by have := HJ2.out; have := HK2.out; have := HK3.out; have := HK4.out; omega⟩, ⟨by (try simp only [hl5_2]); (try simp only [hl5_3]); (try simp only [hl5_4]); (with_reducible repeat (first | apply Kd.R_alloc | apply Kd.R_drewN | apply Kd.R_drew)); exact Kd.R_mono zb.out (fun _ hk => hk.1)⟩, ⟨by (try simp only [hl5_2]); (try simp only [hl5_3]); (try simp only [hl5_4]); (with_reducible repeat (first | apply Kd.R_alloc | apply Kd.R_drewN | apply Kd.R_drew)); exact Kd.R_mono ze.out (fun _ hk => hk.1)⟩, ⟨by (try simp only [hl5_2]); (try simp only [hl5_3]); (try simp only [hl5_4]); (with_reducible repeat (first | refine blk_drewN ?_ _ | refine blk_drew ?_ | refine blk_alloc ?_ _)); exact za.out⟩, ⟨HB.out⟩⟩
                 ·rw [if_neg c39] at H
                  exact absurd H (by simp)
                ·rw [if_neg c38] at H
                 exact absurd H (by simp)
               ·rw [if_neg c37] at H
                exact absurd H (by simp)
              ·rw [if_neg c36] at H
               exact absurd H (by simp)
             ·rw [if_neg c35] at H
              have zE : decide (x8_3 < (x7_3.length : Int)) = false := decide_eq_false c35
              (try simp only [hl5_2] at zE; try simp only [hl5_3] at zE; try simp only [hl5_4] at zE)
              clear c35
              obtain rfl := Option.some.inj H
              obtain ⟨Ao57, co57, eo57⟩ := Kd.R_slice ze.out
              subst eo57
              go_wp2
              go_ret
              exact ⟨_, by first | rfl | (simp [errW_none, errW_some] <;> rfl) | (simp [*, errW_none, errW_some] <;> rfl), Kd.R_mono zb.out (fun _ hk => trivial), HB.out⟩
          ·rw [if_neg c29] at H
           exact absurd H (by simp)
         ·rw [if_neg c28] at H
          exact absurd H (by simp)
     ·rw [if_neg c17] at H
      exact absurd H (by simp)
    ·rw [if_neg c16] at H
     exact absurd H (by simp)

end Go.Proofs.Ytlohmpgbjgidpaa.P
