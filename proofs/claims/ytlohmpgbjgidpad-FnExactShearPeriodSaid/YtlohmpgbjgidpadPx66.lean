-- MADE by this project's printer (wip/mk) out of the translation; Lean checks it.
import Derived.Test.YtlohmpgbjgidpadPx0
import Derived.Test.YtlohmpgbjgidpadPx62
import Derived.Test.YtlohmpgbjgidpadPx63
import Derived.Test.YtlohmpgbjgidpadPx65
namespace Go.Proofs.Ytlohmpgbjgidpad.P
open Go.RowKit Go.Proofs.YtlohmpgbjgidpadW.PrintWords Go.Proofs.YtlohmpgbjgidpadW.PrintLast Go.Proofs.YtlohmpgbjgidpadW.PrintMore
attribute [local go_sem] max2_int min2_int max_two min_two max_three min_three max_four min_four   -- for this text's walks alone
set_option linter.unusedVariables false
set_option linter.unusedSimpArgs false

/-! ### spec_l03Canon: function 56 -/
def spec_l03Canon.l0 : Nat → Int → List Int → List Int → List Int → List Int → Option (List Int × List Int)
 | 0, _, _, _, _, _ => none
 | k + 1, x4, zT, zZ, zg1, zh1 => if x4 < (zT.length : Int) then ((spec_l03Names.f k zT zZ x4).bind fun t693 => ((spec_l03Rename.f k zT zZ t693).bind fun zR => ((spec_l03Before.f k zR.1 zR.2 zg1 zh1).bind fun t703 => (if t703 = true then (spec_l03Canon.l0 k (wrap64 (x4 + 1)) zT zZ zR.1 zR.2) else (spec_l03Canon.l0 k (wrap64 (x4 + 1)) zT zZ zg1 zh1))))) else (some (zg1, zh1))
def spec_l03Canon.f (k : Nat) (l0_0 : List Int) (l0_1 : List Int) : Option (List Int × List Int) := (spec_l03Names.f k l0_0 l0_1 0).bind fun t683 => ((spec_l03Rename.f k l0_0 l0_1 t683).bind fun zS => (spec_l03Canon.l0 k 1 l0_0 l0_1 zS.1 zS.2))
theorem spec_l03Canon.mono_l : ∀ k, (∀ y0 y1 y2 y3 y4, LeO (spec_l03Canon.l0 k y0 y1 y2 y3 y4) (spec_l03Canon.l0 (k + 1) y0 y1 y2 y3 y4))
 | 0 => fun _ _ _ _ _ r h => by simp [spec_l03Canon.l0] at h
 | k + 1 => by
  have ih0 := spec_l03Canon.mono_l k
  ·intro y0 y1 y2 y3 y4
   unfold spec_l03Canon.l0
   repeat' first
   | (with_reducible exact ih0 _ _ _ _ _)
   | (with_reducible exact spec_l03Before.mono _ _ _ _ _)
   | (with_reducible exact spec_l03Names.mono _ _ _ _)
   | (with_reducible exact spec_l03Rename.mono _ _ _ _)
   | (with_reducible exact LeO.refl _)
   | (with_reducible exact LeO.none _)
   | (with_reducible refine LeO.ite ?_ ?_)
   | (with_reducible refine LeO.bind ?_ (fun _ => ?_))
   | exact ih0 _ _ _ _ _
   | exact spec_l03Before.mono _ _ _ _ _
   | exact spec_l03Names.mono _ _ _ _
   | exact spec_l03Rename.mono _ _ _ _
   | exact LeO.none _
   | refine LeO.ite ?_ ?_
   | refine LeO.bind ?_ (fun _ => ?_)
theorem spec_l03Canon.mono : ∀ a0 a1 k, LeO (spec_l03Canon.f k a0 a1) (spec_l03Canon.f (k + 1) a0 a1) := by
 intro a0 a1 k
 have ih0 := spec_l03Canon.mono_l k
 unfold spec_l03Canon.f
 repeat' first
   | (with_reducible exact ih0 _ _ _ _ _)
   | (with_reducible exact spec_l03Before.mono _ _ _ _ _)
   | (with_reducible exact spec_l03Names.mono _ _ _ _)
   | (with_reducible exact spec_l03Rename.mono _ _ _ _)
   | (with_reducible exact LeO.refl _)
   | (with_reducible exact LeO.none _)
   | (with_reducible refine LeO.ite ?_ ?_)
   | (with_reducible refine LeO.bind ?_ (fun _ => ?_))
   | exact ih0 _ _ _ _ _
   | exact spec_l03Before.mono _ _ _ _ _
   | exact spec_l03Names.mono _ _ _ _
   | exact spec_l03Rename.mono _ _ _ _
   | exact LeO.none _
   | refine LeO.ite ?_ ?_
   | refine LeO.bind ?_ (fun _ => ?_)
set_option maxHeartbeats 8000000 in
set_option maxRecDepth 100000 in
theorem spec_l03Canon.calls (k : Nat) (A0_0 : Option Addr) (c0_0 : Nat) (l0_0 : List Int) (A0_1 : Option Addr) (c0_1 : Nat) (l0_1 : List Int) (r1 : List Int) (r2 : List Int) (w : World) (hr0_0 : Kd.C (Kd.int .i64) w A0_0 l0_0.length l0_0) (hc0_0 : l0_0.length ≤ c0_0) (hr0_1 : Kd.C (Kd.int .i64) w A0_1 l0_1.length l0_1) (hc0_1 : l0_1.length ≤ c0_1) (h : spec_l03Canon.f k l0_0 l0_1 = some (r1, r2)) :
  Calls Try.prog 56 #[.agg #[.slice A0_0 l0_0.length c0_0, .slice A0_1 l0_1.length c0_1]] w fun e w' => ∃ v0_ v1_ : Value, e = .returned (.agg #[v0_, v1_]) ∧ Kd.R (Kd.int .i64) 3 w' w.heap.size (fun k_ => some k_ ≠ (v1_ : Value).ownBlock) v0_ r1 ∧ Kd.R (Kd.int .i64) 3 w' w.heap.size (fun k_ => some k_ ≠ (v0_ : Value).ownBlock) v1_ r2 ∧ Below w.heap.size w w' := by
 have hu27 := Try.underlying27
 have zD := Aside0.mk hr0_0
 have zE := Aside0.mk hc0_0
 clear hr0_0 hc0_0
 have zF := Aside0.mk hr0_1
 have zG := Aside0.mk hc0_1
 clear hr0_1 hc0_1
 have HB := Aside0.mk (Below.refl w.heap.size w)
 have H : ((spec_l03Names.f k l0_0 l0_1 0).bind fun t683 => ((spec_l03Rename.f k l0_0 l0_1 t683).bind fun zS => (spec_l03Canon.l0 k 1 l0_0 l0_1 zS.1 zS.2))) = some (r1, r2) := h
 clear h
 replace H := Option.bind_eq_some_iff.mp H
 obtain ⟨t683, A20, H⟩ := H
 replace H : ((spec_l03Rename.f k l0_0 l0_1 t683).bind fun zS => (spec_l03Canon.l0 k 1 l0_0 l0_1 zS.1 zS.2)) = some (r1, r2) := H
 have A2 := Aside0.mk A20
 clear A20
 replace H := Option.bind_eq_some_iff.mp H
 obtain ⟨⟨t686, t689⟩, A30, H⟩ := H
 replace H : (spec_l03Canon.l0 k 1 l0_0 l0_1 t686 t689) = some (r1, r2) := H
 have A3 := Aside0.mk A30
 clear A30
 have H' := Aside0.mk H
 clear H
 go_enter Try.func56, Try.ntmps56
 try go_wp2_with (first | ((with_reducible refine gate_dst (N := 1) rfl ?_); refine box_event ?hg (N := 1) ?hd (cs := #[.slice A0_0 l0_0.length c0_0, .slice A0_1 l0_1.length c0_1]) (t := 27) ?hr ?_; (case hd => rfl); (case hg => rfl); (case hr => first | (go_simp; done) | (go_simp; rfl)); intro zg hg w4 hbox hb; have n0_ := Aside0.mk (below_step (HB.out) hb); have n1_ := Aside0.mk (hbox); have n2_ := Aside0.mk ((by rw [hg]; exact (below_size (HB.out)) : w.heap.size ≤ zg)); have n3_ := Aside0.mk ((by rw [hg]; exact (below_size (HB.out)) : w.heap.size ≤ zg)); clear HB; have HB := n0_; have za := n1_; have GW681 := n2_; have ze1 := n3_; clear n0_ n1_ n2_ n3_; clear hb hbox hg) | ((with_reducible refine gate_dst (N := 2) rfl ?_); refine box_event ?hg (N := 2) ?hd (cs := #[.slice none 0 0, .slice none 0 0]) (t := 27) ?hr ?_; (case hd => rfl); (case hg => rfl); (case hr => first | (go_simp; done) | (go_simp; rfl)); intro zi hg w5 hbox hb; have n0_ := Aside0.mk (blk_below (g := zg) (o := .cells #[.slice A0_0 l0_0.length c0_0, .slice A0_1 l0_1.length c0_1] 27 (0, 0)) (za.out) hb); have n1_ := Aside0.mk (below_step (HB.out) hb); have n2_ := Aside0.mk (hbox); have n3_ := Aside0.mk ((by rw [hg]; exact (below_size (HB.out)) : w.heap.size ≤ zi)); have n4_ := Aside0.mk ((by rw [hg]; exact (below_size (HB.out)) : w.heap.size ≤ zi)); have n5_ := Aside0.mk ((by rw [hg]; exact Nat.ne_of_lt (blk_lt (g := zg) (o := .cells #[.slice A0_0 l0_0.length c0_0, .slice A0_1 l0_1.length c0_1] 27 (0, 0)) (za.out)) : zg ≠ zi)); have n6_ := Aside0.mk ((by rw [hg]; exact Nat.ne_of_gt (blk_lt (g := zg) (o := .cells #[.slice A0_0 l0_0.length c0_0, .slice A0_1 l0_1.length c0_1] 27 (0, 0)) (za.out)) : zi ≠ zg)); clear za; clear HB; have za := n0_; have HB := n1_; have ze := n2_; have GW682 := n3_; have zf1 := n4_; have zV := n5_; have zW := n6_; clear n0_ n1_ n2_ n3_ n4_ n5_ n6_; clear hb hbox hg))
 have n0_ := Aside0.mk (blk_drew za.out)
 have n1_ := Aside0.mk (blk_drew ze.out)
 have n2_ := Aside0.mk (below_drew1 HB.out)
 clear za
 clear ze
 clear HB
 have za := n0_
 have ze := n1_
 have HB := n2_
 clear n0_ n1_ n2_
 refine start_ (n := 6) (S := fun w' => w'.cell? ⟨zg, 0, none⟩ = some (.slice A0_0 l0_0.length c0_0) ∧ w'.cell? ⟨zg, 1, none⟩ = some (.slice A0_1 l0_1.length c0_1)) (ds := []) #[false, false, false, false, false, false] (by kernel_rfl) rfl rfl ⟨(blk_cell za.out 0).trans rfl, (blk_cell za.out 1).trans rfl⟩ (fun hHeld => ?_)
 generalize w5.drew = w6 at za ze HB hHeld ⊢
 refine take_ (i := 0) (N := some 6) (v := ?_) (a' := ?_) #[true, false, false, false, false, false] rfl rfl (by kernel_rfl) (fun _ _ _ h => h) (Or.inl ⟨by rfl, ?_⟩) hHeld ?_ ?_
 rotate_left
 ·rintro w' ⟨s0, s1⟩
  go_simp
  with_reducible rfl
 rotate_left
 ·simp only [Act.put, List.setIfInBounds_toArray, List.set_cons_zero, List.set_cons_succ, i64_w, i32_w]
  rfl
 refine take_ (i := 1) (N := some 7) (v := ?_) (a' := ?_) #[true, true, false, false, false, false] rfl rfl (by kernel_rfl) (fun _ _ _ h => h) (Or.inl ⟨by rfl, ?_⟩) hHeld ?_ ?_
 rotate_left
 ·rintro w' ⟨s0, s1⟩
  go_simp
  with_reducible rfl
 rotate_left
 ·simp only [Act.put, List.setIfInBounds_toArray, List.set_cons_zero, List.set_cons_succ, i64_w, i32_w]
  rfl
 refine join_ (σ := Value × Value × Value × Nat) 1 #[true, true, true, true, true, false] (fun s_ => [(8, s_.1), (9, .agg #[s_.2.1, s_.2.2.1]), (3, .pointer (some ⟨s_.2.2.2, 0, none⟩))]) (fun s_ w' => (w'.cell? ⟨zg, 0, none⟩ = some (.slice A0_0 l0_0.length c0_0) ∧ w'.cell? ⟨zg, 1, none⟩ = some (.slice A0_1 l0_1.length c0_1)) ∧ (Kd.R (Kd.int .i64) 3 w' w.heap.size (fun k_ => some k_ ≠ (s_.2.1 : Value).ownBlock ∧ some k_ ≠ (s_.2.2.1 : Value).ownBlock) s_.1 t683) ∧ (Kd.R (Kd.int .i64) 3 w' w.heap.size (fun k_ => some k_ ≠ (s_.1 : Value).ownBlock ∧ some k_ ≠ (s_.2.2.1 : Value).ownBlock) s_.2.1 t686) ∧ (Kd.R (Kd.int .i64) 3 w' w.heap.size (fun k_ => some k_ ≠ (s_.1 : Value).ownBlock ∧ some k_ ≠ (s_.2.1 : Value).ownBlock) s_.2.2.1 t689) ∧ (w'.heap[zg]? = some (.cells #[.slice A0_0 l0_0.length c0_0, .slice A0_1 l0_1.length c0_1] 27 (0, 0))) ∧ (w'.heap[zi]? = some (.cells #[.slice none 0 0, .slice none 0 0] 27 (0, 0))) ∧ (w'.heap[s_.2.2.2]? = some (.cells #[.slice none 0 0, .slice none 0 0] 27 (0, 0))) ∧ (w.heap.size ≤ s_.2.2.2) ∧ (w.heap.size ≤ s_.2.2.2) ∧ (zg ≠ s_.2.2.2) ∧ (s_.2.2.2 ≠ zg) ∧ (zi ≠ s_.2.2.2) ∧ (s_.2.2.2 ≠ zi) ∧ (Below w.heap.size w w')) ?_ ?_
 rotate_left
 ·intro hCont
  refine two_ (i := 2) (j := 4) (Ni := some 8) (Nj := some 3) #[true, true, true, false, false, false] #[true, true, false, false, true, false] rfl rfl rfl rfl (by kernel_rfl) (by decide) (by decide) (fun K hK => ?_) (fun K hK => ?_)
  ·skip
   refine goes_ Try.func62 (by kernel_rfl) rfl #[.agg #[.slice A0_0 l0_0.length c0_0, .slice A0_1 l0_1.length c0_1], .int .i64 0] (by rfl) rfl rfl (by (try simp only [List.map_toArray, List.map_cons, List.map_nil]); first | done | rfl | (simp only [List.length_drop, List.length_take]; rfl)) ?_
   with_reducible refine (spec_l03Names.calls k _ _ l0_0 _ _ l0_1 0 t683 _ ?side1 ?side2 ?side3 ?side4 A2.out).mono ?_
   (case side1 => repeat (first | exact (Kd.C_below zD.out HB.out) | (with_reducible refine Kd.C_alloc ?_ _) | (with_reducible refine Kd.C_drewN ?_ _) | (with_reducible refine Kd.C_drew ?_)))
   (case side2 => exact zE.out)
   (case side3 => repeat (first | exact (Kd.C_below zF.out HB.out) | (with_reducible refine Kd.C_alloc ?_ _) | (with_reducible refine Kd.C_drewN ?_ _) | (with_reducible refine Kd.C_drew ?_)))
   (case side4 => exact zG.out)
   rintro e w7 ⟨v684, rfl, ho0, hb⟩
   refine ⟨_, rfl, ?_⟩
   have n0_ := Aside0.mk (Kd.R_lower ho0 (below_size (HB.out)))
   have n1_ := Aside0.mk (blk_below (g := zg) (o := .cells #[.slice A0_0 l0_0.length c0_0, .slice A0_1 l0_1.length c0_1] 27 (0, 0)) (za.out) hb)
   have n2_ := Aside0.mk (blk_below (g := zi) (o := .cells #[.slice none 0 0, .slice none 0 0] 27 (0, 0)) (ze.out) hb)
   have n3_ := Aside0.mk (below_step (HB.out) hb)
   clear za
   clear ze
   clear HB
   have zq := n0_
   have za := n1_
   have ze := n2_
   have HB := n3_
   clear n0_ n1_ n2_ n3_
   (try clear hb)
   (try clear hb2)
   (try clear hk)
   (try clear hi)
   (try clear ho0)
   obtain ⟨Ao8, co8, eo8⟩ := Kd.R_slice zq.out
   (first | subst eo8 | (injection eo8 with f1_ f2_ f3_; have f4_ := f1_.symm; have f5_ := f3_.symm; clear f1_ f2_ f3_; subst f4_; subst f5_))
   refine hK.out _ _ ⟨(blk_cell za.out 0).trans rfl, (blk_cell za.out 1).trans rfl⟩ (fun hHeld => ?_)
   clear hK K
   refine norm_ (a' := ?_) ?_ ?_
   rotate_left
   ·show Act.put _ (some 8) _ = _
    simp only [Act.put, List.setIfInBounds_toArray, List.set_cons_zero, List.set_cons_succ, i64_w, i32_w]
    rfl
   refine two_ (i := 3) (j := 4) (Ni := some 9) (Nj := some 3) #[true, true, true, true, false, false] #[true, true, true, false, true, false] rfl rfl rfl rfl (by kernel_rfl) (by decide) (by decide) (fun K hK => ?_) (fun K hK => ?_)
   ·skip
    refine goes_ Try.func61 (by kernel_rfl) rfl #[.agg #[.slice A0_0 l0_0.length c0_0, .slice A0_1 l0_1.length c0_1], .slice Ao8 t683.length co8] (by rfl) rfl rfl (by (try simp only [List.map_toArray, List.map_cons, List.map_nil]); first | done | rfl | (simp only [List.length_drop, List.length_take]; rfl)) ?_
    with_reducible refine (spec_l03Rename.calls k _ _ l0_0 _ _ l0_1 _ _ t683 t686 t689 _ ?side1 ?side2 ?side3 ?side4 ?side5 ?side6 A3.out).mono ?_
    (case side1 => repeat (first | exact (Kd.C_below zD.out HB.out) | (with_reducible refine Kd.C_alloc ?_ _) | (with_reducible refine Kd.C_drewN ?_ _) | (with_reducible refine Kd.C_drew ?_)))
    (case side2 => exact zE.out)
    (case side3 => repeat (first | exact (Kd.C_below zF.out HB.out) | (with_reducible refine Kd.C_alloc ?_ _) | (with_reducible refine Kd.C_drewN ?_ _) | (with_reducible refine Kd.C_drew ?_)))
    (case side4 => exact zG.out)
    (case side5 => repeat (first | exact (Kd.R_reads' zq.out).2.2 | (with_reducible refine Kd.C_alloc ?_ _) | (with_reducible refine Kd.C_drewN ?_ _) | (with_reducible refine Kd.C_drew ?_)))
    (case side6 => exact (Kd.R_reads' zq.out).2.1)
    rintro e w9 ⟨v687, v690, rfl, ho0, ho1, hb⟩
    refine ⟨_, rfl, ?_⟩
    have n0_ := Aside0.mk (Kd.R_mono (Kd.R_told (Kd.R_told (Kd.R_old (zq.out) hb) (Kd.R_base ho0)) (Kd.R_base ho1)) (fun _ h_ => h_.1))
    have n1_ := Aside0.mk (Kd.R_lower (Kd.R_new' ho0 (Kd.R_lt (zq.out))) (below_size (HB.out)))
    have n2_ := Aside0.mk (Kd.R_lower (Kd.R_new' ho1 (Kd.R_lt (zq.out))) (below_size (HB.out)))
    have n3_ := Aside0.mk (blk_below (g := zg) (o := .cells #[.slice A0_0 l0_0.length c0_0, .slice A0_1 l0_1.length c0_1] 27 (0, 0)) (za.out) hb)
    have n4_ := Aside0.mk (blk_below (g := zi) (o := .cells #[.slice none 0 0, .slice none 0 0] 27 (0, 0)) (ze.out) hb)
    have n5_ := Aside0.mk (below_step (HB.out) hb)
    clear zq
    clear za
    clear ze
    clear HB
    have zq := n0_
    have zN := n1_
    have zO := n2_
    have za := n3_
    have ze := n4_
    have HB := n5_
    clear n0_ n1_ n2_ n3_ n4_ n5_
    (try clear hb)
    (try clear hb2)
    (try clear hk)
    (try clear hi)
    (try clear ho0)
    (try clear ho1)
    refine hK.out _ _ ⟨(blk_cell za.out 0).trans rfl, (blk_cell za.out 1).trans rfl⟩ (fun hHeld => ?_)
    clear hK K
    refine norm_ (a' := ?_) ?_ ?_
    rotate_left
    ·show Act.put _ (some 9) _ = _
     simp only [Act.put, List.setIfInBounds_toArray, List.set_cons_zero, List.set_cons_succ, i64_w, i32_w]
     rfl
    refine one_ (i := 4) (N := some 3) #[true, true, true, true, true, false] rfl rfl (by kernel_rfl) (by decide) (fun K hK => ?_)
    refine box_step ?hg (N := 3) ?hd (cs := #[.slice none 0 0, .slice none 0 0]) (t := 27) ?hr ?_; (case hd => rfl); (case hg => rfl); (case hr => first | (go_simp; done) | (go_simp; rfl))
    intro zh hg w10 hbox hb
    have n0_ := Aside0.mk (Kd.R_below (zq.out) hb)
    have n1_ := Aside0.mk (Kd.R_below (zN.out) hb)
    have n2_ := Aside0.mk (Kd.R_below (zO.out) hb)
    have n3_ := Aside0.mk (blk_below (g := zg) (o := .cells #[.slice A0_0 l0_0.length c0_0, .slice A0_1 l0_1.length c0_1] 27 (0, 0)) (za.out) hb)
    have n4_ := Aside0.mk (blk_below (g := zi) (o := .cells #[.slice none 0 0, .slice none 0 0] 27 (0, 0)) (ze.out) hb)
    have n5_ := Aside0.mk (below_step (HB.out) hb)
    have n6_ := Aside0.mk (hbox)
    have n7_ := Aside0.mk ((by rw [hg]; exact (below_size (HB.out)) : w.heap.size ≤ zh))
    have n8_ := Aside0.mk ((by rw [hg]; exact (below_size (HB.out)) : w.heap.size ≤ zh))
    have n9_ := Aside0.mk ((by rw [hg]; exact Nat.ne_of_lt (blk_lt (g := zg) (o := .cells #[.slice A0_0 l0_0.length c0_0, .slice A0_1 l0_1.length c0_1] 27 (0, 0)) (za.out)) : zg ≠ zh))
    have n10_ := Aside0.mk ((by rw [hg]; exact Nat.ne_of_gt (blk_lt (g := zg) (o := .cells #[.slice A0_0 l0_0.length c0_0, .slice A0_1 l0_1.length c0_1] 27 (0, 0)) (za.out)) : zh ≠ zg))
    have n11_ := Aside0.mk ((by rw [hg]; exact Nat.ne_of_lt (blk_lt (g := zi) (o := .cells #[.slice none 0 0, .slice none 0 0] 27 (0, 0)) (ze.out)) : zi ≠ zh))
    have n12_ := Aside0.mk ((by rw [hg]; exact Nat.ne_of_gt (blk_lt (g := zi) (o := .cells #[.slice none 0 0, .slice none 0 0] 27 (0, 0)) (ze.out)) : zh ≠ zi))
    clear zq
    clear zN
    clear zO
    clear za
    clear ze
    clear HB
    have zq := n0_
    have zN := n1_
    have zO := n2_
    have za := n3_
    have ze := n4_
    have HB := n5_
    have zf := n6_
    have za1 := n7_
    have zP := n8_
    have zr := n9_
    have zy := n10_
    have zx := n11_
    have zz := n12_
    clear n0_ n1_ n2_ n3_ n4_ n5_ n6_ n7_ n8_ n9_ n10_ n11_ n12_
    clear hb hbox hg
    refine hK.out _ _ ⟨(blk_cell za.out 0).trans rfl, (blk_cell za.out 1).trans rfl⟩ (fun hHeld => ?_)
    clear hK K
    refine norm_ (a' := ?_) ?_ ?_
    rotate_left
    ·show Act.put _ (some 3) _ = _
     simp only [Act.put, List.setIfInBounds_toArray, List.set_cons_zero, List.set_cons_succ, i64_w, i32_w]
     rfl
    exact norm_ (by simp only [putAll, Act.put, List.setIfInBounds_toArray, List.set_cons_zero, List.set_cons_succ]) (hCont (.slice Ao8 t683.length co8, v687, v690, zh) _ ⟨hHeld, (Kd.R_mono zq.out (fun _ hk => ⟨hk.1.2, hk.2⟩)), (Kd.R_mono zN.out (fun _ hk => ⟨hk.2, hk.1⟩)), (Kd.R_mono zO.out (fun _ hk => ⟨hk.2, hk.1⟩)), (za.out), (ze.out), (zf.out), za1.out, zP.out, zr.out, zy.out, zx.out, zz.out, (HB.out)⟩)
   ·skip
    refine box_step ?hg (N := 3) ?hd (cs := #[.slice none 0 0, .slice none 0 0]) (t := 27) ?hr ?_; (case hd => rfl); (case hg => rfl); (case hr => first | (go_simp; done) | (go_simp; rfl))
    intro zh hg w8 hbox hb
    have n0_ := Aside0.mk (Kd.R_below (zq.out) hb)
    have n1_ := Aside0.mk (blk_below (g := zg) (o := .cells #[.slice A0_0 l0_0.length c0_0, .slice A0_1 l0_1.length c0_1] 27 (0, 0)) (za.out) hb)
    have n2_ := Aside0.mk (blk_below (g := zi) (o := .cells #[.slice none 0 0, .slice none 0 0] 27 (0, 0)) (ze.out) hb)
    have n3_ := Aside0.mk (below_step (HB.out) hb)
    have n4_ := Aside0.mk (hbox)
    have n5_ := Aside0.mk ((by rw [hg]; exact (below_size (HB.out)) : w.heap.size ≤ zh))
    have n6_ := Aside0.mk ((by rw [hg]; exact (below_size (HB.out)) : w.heap.size ≤ zh))
    have n7_ := Aside0.mk ((by rw [hg]; exact Nat.ne_of_lt (blk_lt (g := zg) (o := .cells #[.slice A0_0 l0_0.length c0_0, .slice A0_1 l0_1.length c0_1] 27 (0, 0)) (za.out)) : zg ≠ zh))
    have n8_ := Aside0.mk ((by rw [hg]; exact Nat.ne_of_gt (blk_lt (g := zg) (o := .cells #[.slice A0_0 l0_0.length c0_0, .slice A0_1 l0_1.length c0_1] 27 (0, 0)) (za.out)) : zh ≠ zg))
    have n9_ := Aside0.mk ((by rw [hg]; exact Nat.ne_of_lt (blk_lt (g := zi) (o := .cells #[.slice none 0 0, .slice none 0 0] 27 (0, 0)) (ze.out)) : zi ≠ zh))
    have n10_ := Aside0.mk ((by rw [hg]; exact Nat.ne_of_gt (blk_lt (g := zi) (o := .cells #[.slice none 0 0, .slice none 0 0] 27 (0, 0)) (ze.out)) : zh ≠ zi))
    clear zq
    clear za
    clear ze
    clear HB
    have zq := n0_
    have za := n1_
    have ze := n2_
    have HB := n3_
    have zf := n4_
    have za1 := n5_
    have zP := n6_
    have zr := n7_
    have zy := n8_
    have zx := n9_
    have zz := n10_
    clear n0_ n1_ n2_ n3_ n4_ n5_ n6_ n7_ n8_ n9_ n10_
    clear hb hbox hg
    obtain ⟨Ao9, co9, eo9⟩ := Kd.R_slice zq.out
    (first | subst eo9 | (injection eo9 with f1_ f2_ f3_; have f4_ := f1_.symm; have f5_ := f3_.symm; clear f1_ f2_ f3_; subst f4_; subst f5_))
    refine hK.out _ _ ⟨(blk_cell za.out 0).trans rfl, (blk_cell za.out 1).trans rfl⟩ (fun hHeld => ?_)
    clear hK K
    refine norm_ (a' := ?_) ?_ ?_
    rotate_left
    ·show Act.put _ (some 3) _ = _
     simp only [Act.put, List.setIfInBounds_toArray, List.set_cons_zero, List.set_cons_succ, i64_w, i32_w]
     rfl
    refine one_ (i := 3) (N := some 9) #[true, true, true, true, true, false] rfl rfl (by kernel_rfl) (by decide) (fun K hK => ?_)
    refine goes_ Try.func61 (by kernel_rfl) rfl #[.agg #[.slice A0_0 l0_0.length c0_0, .slice A0_1 l0_1.length c0_1], .slice Ao9 t683.length co9] (by rfl) rfl rfl (by (try simp only [List.map_toArray, List.map_cons, List.map_nil]); first | done | rfl | (simp only [List.length_drop, List.length_take]; rfl)) ?_
    with_reducible refine (spec_l03Rename.calls k _ _ l0_0 _ _ l0_1 _ _ t683 t686 t689 _ ?side1 ?side2 ?side3 ?side4 ?side5 ?side6 A3.out).mono ?_
    (case side1 => repeat (first | exact (Kd.C_below zD.out HB.out) | (with_reducible refine Kd.C_alloc ?_ _) | (with_reducible refine Kd.C_drewN ?_ _) | (with_reducible refine Kd.C_drew ?_)))
    (case side2 => exact zE.out)
    (case side3 => repeat (first | exact (Kd.C_below zF.out HB.out) | (with_reducible refine Kd.C_alloc ?_ _) | (with_reducible refine Kd.C_drewN ?_ _) | (with_reducible refine Kd.C_drew ?_)))
    (case side4 => exact zG.out)
    (case side5 => repeat (first | exact (Kd.R_reads' zq.out).2.2 | (with_reducible refine Kd.C_alloc ?_ _) | (with_reducible refine Kd.C_drewN ?_ _) | (with_reducible refine Kd.C_drew ?_)))
    (case side6 => exact (Kd.R_reads' zq.out).2.1)
    rintro e w10 ⟨v687, v690, rfl, ho0, ho1, hb⟩
    refine ⟨_, rfl, ?_⟩
    have n0_ := Aside0.mk (Kd.R_mono (Kd.R_told (Kd.R_told (Kd.R_old (zq.out) hb) (Kd.R_base ho0)) (Kd.R_base ho1)) (fun _ h_ => h_.1))
    have n1_ := Aside0.mk (Kd.R_lower (Kd.R_new' ho0 (Kd.R_lt (zq.out))) (below_size (HB.out)))
    have n2_ := Aside0.mk (Kd.R_lower (Kd.R_new' ho1 (Kd.R_lt (zq.out))) (below_size (HB.out)))
    have n3_ := Aside0.mk (blk_below (g := zg) (o := .cells #[.slice A0_0 l0_0.length c0_0, .slice A0_1 l0_1.length c0_1] 27 (0, 0)) (za.out) hb)
    have n4_ := Aside0.mk (blk_below (g := zi) (o := .cells #[.slice none 0 0, .slice none 0 0] 27 (0, 0)) (ze.out) hb)
    have n5_ := Aside0.mk (blk_below (g := zh) (o := .cells #[.slice none 0 0, .slice none 0 0] 27 (0, 0)) (zf.out) hb)
    have n6_ := Aside0.mk (below_step (HB.out) hb)
    clear zq
    clear za
    clear ze
    clear zf
    clear HB
    have zq := n0_
    have zN := n1_
    have zO := n2_
    have za := n3_
    have ze := n4_
    have zf := n5_
    have HB := n6_
    clear n0_ n1_ n2_ n3_ n4_ n5_ n6_
    (try clear hb)
    (try clear hb2)
    (try clear hk)
    (try clear hi)
    (try clear ho0)
    (try clear ho1)
    refine hK.out _ _ ⟨(blk_cell za.out 0).trans rfl, (blk_cell za.out 1).trans rfl⟩ (fun hHeld => ?_)
    clear hK K
    refine norm_ (a' := ?_) ?_ ?_
    rotate_left
    ·show Act.put _ (some 9) _ = _
     simp only [Act.put, List.setIfInBounds_toArray, List.set_cons_zero, List.set_cons_succ, i64_w, i32_w]
     rfl
    exact norm_ (by simp only [putAll, Act.put, List.setIfInBounds_toArray, List.set_cons_zero, List.set_cons_succ]) (hCont (.slice Ao9 t683.length co9, v687, v690, zh) _ ⟨hHeld, (Kd.R_mono zq.out (fun _ hk => ⟨hk.1.2, hk.2⟩)), (Kd.R_mono zN.out (fun _ hk => ⟨hk.2, hk.1⟩)), (Kd.R_mono zO.out (fun _ hk => ⟨hk.2, hk.1⟩)), (za.out), (ze.out), (zf.out), za1.out, zP.out, zr.out, zy.out, zx.out, zz.out, (HB.out)⟩)
  ·skip
   refine box_step ?hg (N := 3) ?hd (cs := #[.slice none 0 0, .slice none 0 0]) (t := 27) ?hr ?_; (case hd => rfl); (case hg => rfl); (case hr => first | (go_simp; done) | (go_simp; rfl))
   intro zh hg w7 hbox hb
   have n0_ := Aside0.mk (blk_below (g := zg) (o := .cells #[.slice A0_0 l0_0.length c0_0, .slice A0_1 l0_1.length c0_1] 27 (0, 0)) (za.out) hb)
   have n1_ := Aside0.mk (blk_below (g := zi) (o := .cells #[.slice none 0 0, .slice none 0 0] 27 (0, 0)) (ze.out) hb)
   have n2_ := Aside0.mk (below_step (HB.out) hb)
   have n3_ := Aside0.mk (hbox)
   have n4_ := Aside0.mk ((by rw [hg]; exact (below_size (HB.out)) : w.heap.size ≤ zh))
   have n5_ := Aside0.mk ((by rw [hg]; exact (below_size (HB.out)) : w.heap.size ≤ zh))
   have n6_ := Aside0.mk ((by rw [hg]; exact Nat.ne_of_lt (blk_lt (g := zg) (o := .cells #[.slice A0_0 l0_0.length c0_0, .slice A0_1 l0_1.length c0_1] 27 (0, 0)) (za.out)) : zg ≠ zh))
   have n7_ := Aside0.mk ((by rw [hg]; exact Nat.ne_of_gt (blk_lt (g := zg) (o := .cells #[.slice A0_0 l0_0.length c0_0, .slice A0_1 l0_1.length c0_1] 27 (0, 0)) (za.out)) : zh ≠ zg))
   have n8_ := Aside0.mk ((by rw [hg]; exact Nat.ne_of_lt (blk_lt (g := zi) (o := .cells #[.slice none 0 0, .slice none 0 0] 27 (0, 0)) (ze.out)) : zi ≠ zh))
   have n9_ := Aside0.mk ((by rw [hg]; exact Nat.ne_of_gt (blk_lt (g := zi) (o := .cells #[.slice none 0 0, .slice none 0 0] 27 (0, 0)) (ze.out)) : zh ≠ zi))
   clear za
   clear ze
   clear HB
   have za := n0_
   have ze := n1_
   have HB := n2_
   have zf := n3_
   have za1 := n4_
   have zP := n5_
   have zr := n6_
   have zy := n7_
   have zx := n8_
   have zz := n9_
   clear n0_ n1_ n2_ n3_ n4_ n5_ n6_ n7_ n8_ n9_
   clear hb hbox hg
   refine hK.out _ _ ⟨(blk_cell za.out 0).trans rfl, (blk_cell za.out 1).trans rfl⟩ (fun hHeld => ?_)
   clear hK K
   refine norm_ (a' := ?_) ?_ ?_
   rotate_left
   ·show Act.put _ (some 3) _ = _
    simp only [Act.put, List.setIfInBounds_toArray, List.set_cons_zero, List.set_cons_succ, i64_w, i32_w]
    rfl
   refine one_ (i := 2) (N := some 8) #[true, true, true, false, true, false] rfl rfl (by kernel_rfl) (by decide) (fun K hK => ?_)
   refine goes_ Try.func62 (by kernel_rfl) rfl #[.agg #[.slice A0_0 l0_0.length c0_0, .slice A0_1 l0_1.length c0_1], .int .i64 0] (by rfl) rfl rfl (by (try simp only [List.map_toArray, List.map_cons, List.map_nil]); first | done | rfl | (simp only [List.length_drop, List.length_take]; rfl)) ?_
   with_reducible refine (spec_l03Names.calls k _ _ l0_0 _ _ l0_1 0 t683 _ ?side1 ?side2 ?side3 ?side4 A2.out).mono ?_
   (case side1 => repeat (first | exact (Kd.C_below zD.out HB.out) | (with_reducible refine Kd.C_alloc ?_ _) | (with_reducible refine Kd.C_drewN ?_ _) | (with_reducible refine Kd.C_drew ?_)))
   (case side2 => exact zE.out)
   (case side3 => repeat (first | exact (Kd.C_below zF.out HB.out) | (with_reducible refine Kd.C_alloc ?_ _) | (with_reducible refine Kd.C_drewN ?_ _) | (with_reducible refine Kd.C_drew ?_)))
   (case side4 => exact zG.out)
   rintro e w8 ⟨v684, rfl, ho0, hb⟩
   refine ⟨_, rfl, ?_⟩
   have n0_ := Aside0.mk (Kd.R_lower ho0 (below_size (HB.out)))
   have n1_ := Aside0.mk (blk_below (g := zg) (o := .cells #[.slice A0_0 l0_0.length c0_0, .slice A0_1 l0_1.length c0_1] 27 (0, 0)) (za.out) hb)
   have n2_ := Aside0.mk (blk_below (g := zi) (o := .cells #[.slice none 0 0, .slice none 0 0] 27 (0, 0)) (ze.out) hb)
   have n3_ := Aside0.mk (blk_below (g := zh) (o := .cells #[.slice none 0 0, .slice none 0 0] 27 (0, 0)) (zf.out) hb)
   have n4_ := Aside0.mk (below_step (HB.out) hb)
   clear za
   clear ze
   clear zf
   clear HB
   have zq := n0_
   have za := n1_
   have ze := n2_
   have zf := n3_
   have HB := n4_
   clear n0_ n1_ n2_ n3_ n4_
   (try clear hb)
   (try clear hb2)
   (try clear hk)
   (try clear hi)
   (try clear ho0)
   obtain ⟨Ao9, co9, eo9⟩ := Kd.R_slice zq.out
   (first | subst eo9 | (injection eo9 with f1_ f2_ f3_; have f4_ := f1_.symm; have f5_ := f3_.symm; clear f1_ f2_ f3_; subst f4_; subst f5_))
   refine hK.out _ _ ⟨(blk_cell za.out 0).trans rfl, (blk_cell za.out 1).trans rfl⟩ (fun hHeld => ?_)
   clear hK K
   refine norm_ (a' := ?_) ?_ ?_
   rotate_left
   ·show Act.put _ (some 8) _ = _
    simp only [Act.put, List.setIfInBounds_toArray, List.set_cons_zero, List.set_cons_succ, i64_w, i32_w]
    rfl
   refine one_ (i := 3) (N := some 9) #[true, true, true, true, true, false] rfl rfl (by kernel_rfl) (by decide) (fun K hK => ?_)
   refine goes_ Try.func61 (by kernel_rfl) rfl #[.agg #[.slice A0_0 l0_0.length c0_0, .slice A0_1 l0_1.length c0_1], .slice Ao9 t683.length co9] (by rfl) rfl rfl (by (try simp only [List.map_toArray, List.map_cons, List.map_nil]); first | done | rfl | (simp only [List.length_drop, List.length_take]; rfl)) ?_
   with_reducible refine (spec_l03Rename.calls k _ _ l0_0 _ _ l0_1 _ _ t683 t686 t689 _ ?side1 ?side2 ?side3 ?side4 ?side5 ?side6 A3.out).mono ?_
   (case side1 => repeat (first | exact (Kd.C_below zD.out HB.out) | (with_reducible refine Kd.C_alloc ?_ _) | (with_reducible refine Kd.C_drewN ?_ _) | (with_reducible refine Kd.C_drew ?_)))
   (case side2 => exact zE.out)
   (case side3 => repeat (first | exact (Kd.C_below zF.out HB.out) | (with_reducible refine Kd.C_alloc ?_ _) | (with_reducible refine Kd.C_drewN ?_ _) | (with_reducible refine Kd.C_drew ?_)))
   (case side4 => exact zG.out)
   (case side5 => repeat (first | exact (Kd.R_reads' zq.out).2.2 | (with_reducible refine Kd.C_alloc ?_ _) | (with_reducible refine Kd.C_drewN ?_ _) | (with_reducible refine Kd.C_drew ?_)))
   (case side6 => exact (Kd.R_reads' zq.out).2.1)
   rintro e w10 ⟨v687, v690, rfl, ho0, ho1, hb⟩
   refine ⟨_, rfl, ?_⟩
   have n0_ := Aside0.mk (Kd.R_mono (Kd.R_told (Kd.R_told (Kd.R_old (zq.out) hb) (Kd.R_base ho0)) (Kd.R_base ho1)) (fun _ h_ => h_.1))
   have n1_ := Aside0.mk (Kd.R_lower (Kd.R_new' ho0 (Kd.R_lt (zq.out))) (below_size (HB.out)))
   have n2_ := Aside0.mk (Kd.R_lower (Kd.R_new' ho1 (Kd.R_lt (zq.out))) (below_size (HB.out)))
   have n3_ := Aside0.mk (blk_below (g := zg) (o := .cells #[.slice A0_0 l0_0.length c0_0, .slice A0_1 l0_1.length c0_1] 27 (0, 0)) (za.out) hb)
   have n4_ := Aside0.mk (blk_below (g := zi) (o := .cells #[.slice none 0 0, .slice none 0 0] 27 (0, 0)) (ze.out) hb)
   have n5_ := Aside0.mk (blk_below (g := zh) (o := .cells #[.slice none 0 0, .slice none 0 0] 27 (0, 0)) (zf.out) hb)
   have n6_ := Aside0.mk (below_step (HB.out) hb)
   clear zq
   clear za
   clear ze
   clear zf
   clear HB
   have zq := n0_
   have zN := n1_
   have zO := n2_
   have za := n3_
   have ze := n4_
   have zf := n5_
   have HB := n6_
   clear n0_ n1_ n2_ n3_ n4_ n5_ n6_
   (try clear hb)
   (try clear hb2)
   (try clear hk)
   (try clear hi)
   (try clear ho0)
   (try clear ho1)
   refine hK.out _ _ ⟨(blk_cell za.out 0).trans rfl, (blk_cell za.out 1).trans rfl⟩ (fun hHeld => ?_)
   clear hK K
   refine norm_ (a' := ?_) ?_ ?_
   rotate_left
   ·show Act.put _ (some 9) _ = _
    simp only [Act.put, List.setIfInBounds_toArray, List.set_cons_zero, List.set_cons_succ, i64_w, i32_w]
    rfl
   exact norm_ (by simp only [putAll, Act.put, List.setIfInBounds_toArray, List.set_cons_zero, List.set_cons_succ]) (hCont (.slice Ao9 t683.length co9, v687, v690, zh) _ ⟨hHeld, (Kd.R_mono zq.out (fun _ hk => ⟨hk.1.2, hk.2⟩)), (Kd.R_mono zN.out (fun _ hk => ⟨hk.2, hk.1⟩)), (Kd.R_mono zO.out (fun _ hk => ⟨hk.2, hk.1⟩)), (za.out), (ze.out), (zf.out), za1.out, zP.out, zr.out, zy.out, zx.out, zz.out, (HB.out)⟩)
 rintro ⟨v684, v687, v690, zh⟩ w11 ⟨hS_, h0_, h1_, h2_, h3_, h4_, h5_, h6_, h7_, h8_, h9_, h10_, h11_, h12_⟩
 have n0_ : Aside0 (Kd.R (Kd.int .i64) 3 w11 w.heap.size (fun k_ => some k_ ≠ (v687 : Value).ownBlock ∧ some k_ ≠ (v690 : Value).ownBlock) v684 t683) := ⟨h0_⟩
 have n1_ : Aside0 (Kd.R (Kd.int .i64) 3 w11 w.heap.size (fun k_ => some k_ ≠ (v684 : Value).ownBlock ∧ some k_ ≠ (v690 : Value).ownBlock) v687 t686) := ⟨h1_⟩
 have n2_ : Aside0 (Kd.R (Kd.int .i64) 3 w11 w.heap.size (fun k_ => some k_ ≠ (v684 : Value).ownBlock ∧ some k_ ≠ (v687 : Value).ownBlock) v690 t689) := ⟨h2_⟩
 have n3_ : Aside0 (w11.heap[zg]? = some (.cells #[.slice A0_0 l0_0.length c0_0, .slice A0_1 l0_1.length c0_1] 27 (0, 0))) := ⟨h3_⟩
 have n4_ : Aside0 (w11.heap[zi]? = some (.cells #[.slice none 0 0, .slice none 0 0] 27 (0, 0))) := ⟨h4_⟩
 have n5_ : Aside0 (w11.heap[zh]? = some (.cells #[.slice none 0 0, .slice none 0 0] 27 (0, 0))) := ⟨h5_⟩
 have n6_ : Aside0 (w.heap.size ≤ zh) := ⟨h6_⟩
 have n7_ : Aside0 (w.heap.size ≤ zh) := ⟨h7_⟩
 have n8_ : Aside0 (zg ≠ zh) := ⟨h8_⟩
 have n9_ : Aside0 (zh ≠ zg) := ⟨h9_⟩
 have n10_ : Aside0 (zi ≠ zh) := ⟨h10_⟩
 have n11_ : Aside0 (zh ≠ zi) := ⟨h11_⟩
 have n12_ : Aside0 (Below w.heap.size w w11) := ⟨h12_⟩
 clear za
 clear ze
 clear HB
 clear h0_ h1_ h2_ h3_ h4_ h5_ h6_ h7_ h8_ h9_ h10_ h11_ h12_
 have zq := n0_
 have zN := n1_
 have zO := n2_
 have za := n3_
 have ze := n4_
 have zf := n5_
 have za1 := n6_
 have zP := n7_
 have zr := n8_
 have zy := n9_
 have zx := n10_
 have zz := n11_
 have HB := n12_
 clear n0_ n1_ n2_ n3_ n4_ n5_ n6_ n7_ n8_ n9_ n10_ n11_ n12_
 have hHeld : w11.cell? ⟨zg, 0, none⟩ = some (.slice A0_0 l0_0.length c0_0) ∧ w11.cell? ⟨zg, 1, none⟩ = some (.slice A0_1 l0_1.length c0_1) := hS_
 obtain ⟨zo1, zp1, eo12⟩ := Kd.R_slice zN.out
 (first | subst eo12 | (injection eo12 with f1_ f2_ f3_; have f4_ := f1_.symm; have f5_ := f3_.symm; clear f1_ f2_ f3_; subst f4_; subst f5_))
 obtain ⟨zs1, zt1, eo14⟩ := Kd.R_slice zO.out
 (first | subst eo14 | (injection eo14 with f1_ f2_ f3_; have f4_ := f1_.symm; have f5_ := f3_.symm; clear f1_ f2_ f3_; subst f4_; subst f5_))
 refine norm_ (a' := ?_) ?_ ?_
 rotate_left
 ·simp only [putAll, Act.put, List.setIfInBounds_toArray, List.set_cons_zero, List.set_cons_succ]
  rfl
 refine one_ (i := 5) (N := none) #[true, true, true, true, true, true] rfl rfl (by kernel_rfl) (by decide) (fun K hK => ?_)
 have hs13 : w11.cell? ⟨zh, 0, none⟩ = some (.slice none 0 0) := (blk_cell zf.out 0).trans rfl
 have hfs13 := blk_frozen zf.out 0
 have hns13_0 := zr.out
 have hns13_1 := zx.out
 have hms13_0 := zy.out
 have hms13_1 := zz.out
 have hs15 : w11.cell? ⟨zh, 1, none⟩ = some (.slice none 0 0) := (blk_cell zf.out 1).trans rfl
 have hfs15 := blk_frozen zf.out 1
 have hns15_0 := zr.out
 have hns15_1 := zx.out
 have hms15_0 := zy.out
 have hms15_1 := zz.out
 refine skip_ (w1 := ?_) (by rfl) rfl ?_ ?_
 rotate_left
 ·go_simp
  rfl
 refine hK.out _ _ ⟨((cell_far (p := ⟨zh, _, none⟩) zr.out _).trans (((cell_far (p := ⟨zh, _, none⟩) zr.out _).trans (hHeld.1)))), ((cell_far (p := ⟨zh, _, none⟩) zr.out _).trans (((cell_far (p := ⟨zh, _, none⟩) zr.out _).trans (hHeld.2))))⟩ (fun hHeld => ?_)
 clear hK K
 refine done_ (by kernel_rfl) ?_
 try go_wp2
 go_loopg [4] k (fun kq v4 w' => ∃ (x4_1 : Int) (zl : List Int) (zm : List Int) (u693000 : Value) (u693001 : Value), v4 = .int .i64 x4_1 ∧ Aside0 (spec_l03Canon.l0 kq x4_1 l0_0 l0_1 zl zm = some (r1, r2)) ∧ Aside0 (kq ≤ k) ∧ Aside0 (Kd.R (Kd.int .i64) 3 w' w.heap.size (fun k_ => some k_ ≠ (u693001 : Value).ownBlock) u693000 zl) ∧ Aside0 (Kd.R (Kd.int .i64) 3 w' w.heap.size (fun k_ => some k_ ≠ (u693000 : Value).ownBlock) u693001 zm) ∧ Aside0 (w'.heap[zg]? = some (.cells #[(.slice A0_0 l0_0.length c0_0), (.slice A0_1 l0_1.length c0_1)] 27 (0, 0))) ∧ Aside0 (w'.heap[zi]? = some (.cells #[(.slice none 0 0), (.slice none 0 0)] 27 (0, 0))) ∧ Aside0 (w'.heap[zh]? = some (.cells #[u693000, u693001] 27 (0, 0))) ∧ Aside0 (Below w.heap.size w w'))
 case atStart => exact ⟨(1), (t686), (t689), (.slice zo1 t686.length zp1), (.slice zs1 t689.length zt1), (by first | rfl | (simp; done) | (simp [*]; done)), H', ⟨Nat.le_refl _⟩, ⟨by (with_reducible repeat (first | apply Kd.R_alloc | apply Kd.R_drewN | apply Kd.R_drew)); exact Kd.R_mono (Kd.R_far (p := ⟨zh, 1, none⟩) (Kd.R_far (p := ⟨zh, 0, none⟩) (Kd.R_types zN.out zf.out (by decide)) (fun _ hk => hk.2) (.slice zo1 t686.length zp1)) (fun _ hk => hk.2) (.slice zs1 t689.length zt1)) (fun _ hk => hk.1.2)⟩, ⟨by (with_reducible repeat (first | apply Kd.R_alloc | apply Kd.R_drewN | apply Kd.R_drew)); exact Kd.R_mono (Kd.R_far (p := ⟨zh, 1, none⟩) (Kd.R_far (p := ⟨zh, 0, none⟩) (Kd.R_types zO.out zf.out (by decide)) (fun _ hk => hk.2) (.slice zo1 t686.length zp1)) (fun _ hk => hk.2) (.slice zs1 t689.length zt1)) (fun _ hk => hk.1.2)⟩, ⟨by (with_reducible repeat (first | refine blk_drewN ?_ _ | refine blk_drew ?_ | refine blk_alloc ?_ _)); refine blk_far ?_ zr.out _; (with_reducible repeat (first | refine blk_drewN ?_ _ | refine blk_drew ?_ | refine blk_alloc ?_ _)); refine blk_far ?_ zr.out _; (with_reducible repeat (first | refine blk_drewN ?_ _ | refine blk_drew ?_ | refine blk_alloc ?_ _)); exact za.out⟩, ⟨by (with_reducible repeat (first | refine blk_drewN ?_ _ | refine blk_drew ?_ | refine blk_alloc ?_ _)); refine blk_far ?_ zx.out _; (with_reducible repeat (first | refine blk_drewN ?_ _ | refine blk_drew ?_ | refine blk_alloc ?_ _)); refine blk_far ?_ zx.out _; (with_reducible repeat (first | refine blk_drewN ?_ _ | refine blk_drew ?_ | refine blk_alloc ?_ _)); exact ze.out⟩, ⟨by (with_reducible repeat (first | refine blk_drewN ?_ _ | refine blk_drew ?_ | refine blk_alloc ?_ _)); refine blk_put (cs := #[.slice zo1 t686.length zp1, .slice none 0 0]) ?_ 1 _ rfl; (with_reducible repeat (first | refine blk_drewN ?_ _ | refine blk_drew ?_ | refine blk_alloc ?_ _)); refine blk_put (cs := #[.slice none 0 0, .slice none 0 0]) ?_ 0 _ rfl; (with_reducible repeat (first | refine blk_drewN ?_ _ | refine blk_drew ?_ | refine blk_alloc ?_ _)); exact zf.out⟩, ⟨by repeat (first | (with_reducible first | exact HB.out | apply below_alloc | apply pw_below_drewN | apply below_drew1 | refine below_set ?_ ze1.out | refine below_set ?_ zf1.out | refine below_set ?_ zP.out) | exact HB.out)⟩⟩
 case round =>
  clear H'
  try clear p2
  try clear c5
  try clear c6
  obtain ⟨x4_1, zl, zm, u693000, u693001, rfl, HA, HK1, zb, zc, za, ze, zf, HB⟩ := hrel
  cases gk with
  | zero => exact absurd HA.out (by simp [spec_l03Canon.l0])
  | succ k1 =>
   have H := HA.out
   clear HA
   simp only [spec_l03Canon.l0] at H
   by_cases c16 : x4_1 < (l0_0.length : Int)
   ·rw [if_pos c16] at H
    have c16b0 : decide (x4_1 < (l0_0.length : Int)) = true := decide_eq_true c16
    clear c16
    replace H := Option.bind_eq_some_iff.mp H
    obtain ⟨t693, A170, H⟩ := H
    replace H : ((spec_l03Rename.f k1 l0_0 l0_1 t693).bind fun zR => ((spec_l03Before.f k1 zR.1 zR.2 zl zm).bind fun t703 => (if t703 = true then (spec_l03Canon.l0 k1 (wrap64 (x4_1 + 1)) l0_0 l0_1 zR.1 zR.2) else (spec_l03Canon.l0 k1 (wrap64 (x4_1 + 1)) l0_0 l0_1 zl zm)))) = some (r1, r2) := H
    have A17 := Aside0.mk A170
    clear A170
    replace H := Option.bind_eq_some_iff.mp H
    obtain ⟨⟨t696, t699⟩, A180, H⟩ := H
    replace H : ((spec_l03Before.f k1 t696 t699 zl zm).bind fun t703 => (if t703 = true then (spec_l03Canon.l0 k1 (wrap64 (x4_1 + 1)) l0_0 l0_1 t696 t699) else (spec_l03Canon.l0 k1 (wrap64 (x4_1 + 1)) l0_0 l0_1 zl zm))) = some (r1, r2) := H
    have A18 := Aside0.mk A180
    clear A180
    replace H := Option.bind_eq_some_iff.mp H
    obtain ⟨t703, A190, H⟩ := H
    replace H : (if t703 = true then (spec_l03Canon.l0 k1 (wrap64 (x4_1 + 1)) l0_0 l0_1 t696 t699) else (spec_l03Canon.l0 k1 (wrap64 (x4_1 + 1)) l0_0 l0_1 zl zm)) = some (r1, r2) := H
    have A19 := Aside0.mk A190
    clear A190
    by_cases c20 : t703 = true
    ·subst c20
     have H1 : (spec_l03Canon.l0 k1 (wrap64 (x4_1 + 1)) l0_0 l0_1 t696 t699) = some (r1, r2) := by rw [if_pos rfl] at H; exact H
     clear H
     have H := H1
     clear H1
     have H' := Aside0.mk H
     clear H
     have hnb21 := zV.out
     have hnc21 := zW.out
     have hnb22 := zr.out
     have hnc22 := zy.out
     have hcz23_0 : wr.cell? ⟨zg, 0, none⟩ = some (.slice A0_0 l0_0.length c0_0) := (blk_cell za.out 0).trans rfl
     have hcz23_1 : wr.cell? ⟨zg, 1, none⟩ = some (.slice A0_1 l0_1.length c0_1) := (blk_cell za.out 1).trans rfl
     have hfz23_0 := blk_frozen za.out 0
     have hfz23_1 := blk_frozen za.out 1
     try go_wp2
     have n0_ := Aside0.mk (Kd.R_drew zb.out)
     have n1_ := Aside0.mk (Kd.R_drew zc.out)
     have n2_ := Aside0.mk (blk_drew za.out)
     have n3_ := Aside0.mk (blk_drew ze.out)
     have n4_ := Aside0.mk (blk_drew zf.out)
     have n5_ := Aside0.mk (below_drew1 HB.out)
     clear zb
     clear zc
     clear za
     clear ze
     clear zf
     clear HB
     have zb := n0_
     have zc := n1_
     have za := n2_
     have ze := n3_
     have zf := n4_
     have HB := n5_
     clear n0_ n1_ n2_ n3_ n4_ n5_
     refine start_ (n := 7) (S := fun w' => w'.cell? ⟨zg, 0, none⟩ = some (.slice A0_0 l0_0.length c0_0) ∧ w'.cell? ⟨zg, 1, none⟩ = some (.slice A0_1 l0_1.length c0_1)) (ds := []) #[false, false, false, false, false, false, false] (by kernel_rfl) rfl rfl ⟨(blk_cell za.out 0).trans rfl, (blk_cell za.out 1).trans rfl⟩ (fun hHeld => ?_)
     generalize wr.drew = w24 at zb zc za ze zf HB hHeld ⊢
     refine pure_ (i := 2) (N := some 19) (v := ?_) (a' := ?_) #[false, false, true, false, false, false, false] rfl rfl (by kernel_rfl) (fun _ _ _ h => h) (Or.inl ⟨by rfl, ?_⟩) ?_ ?_
     rotate_left
     ·intro w'
      go_simp
      with_reducible rfl
     rotate_left
     ·simp only [Act.put, List.setIfInBounds_toArray, List.set_cons_zero, List.set_cons_succ, i64_w, i32_w]
      rfl
     refine take_ (i := 0) (N := some 17) (v := ?_) (a' := ?_) #[true, false, true, false, false, false, false] rfl rfl (by kernel_rfl) (fun _ _ _ h => h) (Or.inl ⟨by rfl, ?_⟩) hHeld ?_ ?_
     rotate_left
     ·rintro w' ⟨s0, s1⟩
      go_simp
      with_reducible rfl
     rotate_left
     ·simp only [Act.put, List.setIfInBounds_toArray, List.set_cons_zero, List.set_cons_succ, i64_w, i32_w]
      rfl
     refine take_ (i := 1) (N := some 18) (v := ?_) (a' := ?_) #[true, true, true, false, false, false, false] rfl rfl (by kernel_rfl) (fun _ _ _ h => h) (Or.inl ⟨by rfl, ?_⟩) hHeld ?_ ?_
     rotate_left
     ·rintro w' ⟨s0, s1⟩
      go_simp
      with_reducible rfl
     rotate_left
     ·simp only [Act.put, List.setIfInBounds_toArray, List.set_cons_zero, List.set_cons_succ, i64_w, i32_w]
      rfl
     refine join_ (σ := Value × Value × Value × Nat) 1 #[true, true, true, true, true, true, false] (fun s_ => [(20, s_.1), (21, .agg #[s_.2.1, s_.2.2.1]), (5, .pointer (some ⟨s_.2.2.2, 0, none⟩))]) (fun s_ w' => (w'.cell? ⟨zg, 0, none⟩ = some (.slice A0_0 l0_0.length c0_0) ∧ w'.cell? ⟨zg, 1, none⟩ = some (.slice A0_1 l0_1.length c0_1)) ∧ (Kd.R (Kd.int .i64) 3 w' w.heap.size (fun k_ => some k_ ≠ (s_.2.1 : Value).ownBlock ∧ some k_ ≠ (s_.2.2.1 : Value).ownBlock ∧ some k_ ≠ (u693000 : Value).ownBlock ∧ some k_ ≠ (u693001 : Value).ownBlock) s_.1 t693) ∧ (Kd.R (Kd.int .i64) 3 w' w.heap.size (fun k_ => some k_ ≠ (s_.1 : Value).ownBlock ∧ some k_ ≠ (s_.2.2.1 : Value).ownBlock ∧ some k_ ≠ (u693000 : Value).ownBlock ∧ some k_ ≠ (u693001 : Value).ownBlock) s_.2.1 t696) ∧ (Kd.R (Kd.int .i64) 3 w' w.heap.size (fun k_ => some k_ ≠ (s_.1 : Value).ownBlock ∧ some k_ ≠ (s_.2.1 : Value).ownBlock ∧ some k_ ≠ (u693000 : Value).ownBlock ∧ some k_ ≠ (u693001 : Value).ownBlock) s_.2.2.1 t699) ∧ (Kd.R (Kd.int .i64) 3 w' w.heap.size (fun k_ => some k_ ≠ (s_.1 : Value).ownBlock ∧ some k_ ≠ (s_.2.1 : Value).ownBlock ∧ some k_ ≠ (s_.2.2.1 : Value).ownBlock ∧ some k_ ≠ (u693001 : Value).ownBlock) u693000 zl) ∧ (Kd.R (Kd.int .i64) 3 w' w.heap.size (fun k_ => some k_ ≠ (s_.1 : Value).ownBlock ∧ some k_ ≠ (s_.2.1 : Value).ownBlock ∧ some k_ ≠ (s_.2.2.1 : Value).ownBlock ∧ some k_ ≠ (u693000 : Value).ownBlock) u693001 zm) ∧ (w'.heap[zg]? = some (.cells #[.slice A0_0 l0_0.length c0_0, .slice A0_1 l0_1.length c0_1] 27 (0, 0))) ∧ (w'.heap[zi]? = some (.cells #[.slice none 0 0, .slice none 0 0] 27 (0, 0))) ∧ (w'.heap[zh]? = some (.cells #[u693000, u693001] 27 (0, 0))) ∧ (w'.heap[s_.2.2.2]? = some (.cells #[.slice none 0 0, .slice none 0 0] 27 (0, 0))) ∧ (w.heap.size ≤ s_.2.2.2) ∧ (w.heap.size ≤ s_.2.2.2) ∧ (zg ≠ s_.2.2.2) ∧ (s_.2.2.2 ≠ zg) ∧ (zi ≠ s_.2.2.2) ∧ (s_.2.2.2 ≠ zi) ∧ (zh ≠ s_.2.2.2) ∧ (s_.2.2.2 ≠ zh) ∧ (Below w.heap.size w w')) ?_ ?_
     rotate_left
     ·intro hCont
      refine two_ (i := 3) (j := 5) (Ni := some 20) (Nj := some 5) #[true, true, true, true, false, false, false] #[true, true, true, false, false, true, false] rfl rfl rfl rfl (by kernel_rfl) (by decide) (by decide) (fun K hK => ?_) (fun K hK => ?_)
      ·skip
       refine goes_ Try.func62 (by kernel_rfl) rfl #[.agg #[.slice A0_0 l0_0.length c0_0, .slice A0_1 l0_1.length c0_1], .int .i64 x4_1] (by rfl) rfl rfl (by (try simp only [List.map_toArray, List.map_cons, List.map_nil]); first | done | rfl | (simp only [List.length_drop, List.length_take]; rfl)) ?_
       with_reducible refine (spec_l03Names.calls k1 _ _ l0_0 _ _ l0_1 x4_1 t693 _ ?side1 ?side2 ?side3 ?side4 A17.out).mono ?_
       (case side1 => repeat (first | exact (Kd.C_below zD.out HB.out) | (with_reducible refine Kd.C_alloc ?_ _) | (with_reducible refine Kd.C_drewN ?_ _) | (with_reducible refine Kd.C_drew ?_)))
       (case side2 => exact zE.out)
       (case side3 => repeat (first | exact (Kd.C_below zF.out HB.out) | (with_reducible refine Kd.C_alloc ?_ _) | (with_reducible refine Kd.C_drewN ?_ _) | (with_reducible refine Kd.C_drew ?_)))
       (case side4 => exact zG.out)
       rintro e w25 ⟨v694, rfl, ho0, hb⟩
       refine ⟨_, rfl, ?_⟩
       have n0_ := Aside0.mk (Kd.R_elder' (zb.out) (Kd.R_base ho0) hb)
       have n1_ := Aside0.mk (Kd.R_elder' (zc.out) (Kd.R_base ho0) hb)
       have n2_ := Aside0.mk (Kd.R_lower (Kd.R_new' (Kd.R_new' ho0 (Kd.R_lt (zb.out))) (Kd.R_lt (zc.out))) (below_size (HB.out)))
       have n3_ := Aside0.mk (blk_below (g := zg) (o := .cells #[.slice A0_0 l0_0.length c0_0, .slice A0_1 l0_1.length c0_1] 27 (0, 0)) (za.out) hb)
       have n4_ := Aside0.mk (blk_below (g := zi) (o := .cells #[.slice none 0 0, .slice none 0 0] 27 (0, 0)) (ze.out) hb)
       have n5_ := Aside0.mk (blk_below (g := zh) (o := .cells #[u693000, u693001] 27 (0, 0)) (zf.out) hb)
       have n6_ := Aside0.mk (below_step (HB.out) hb)
       clear zb
       clear zc
       clear za
       clear ze
       clear zf
       clear HB
       have zb := n0_
       have zc := n1_
       have zj := n2_
       have za := n3_
       have ze := n4_
       have zf := n5_
       have HB := n6_
       clear n0_ n1_ n2_ n3_ n4_ n5_ n6_
       (try clear hb)
       (try clear hb2)
       (try clear hk)
       (try clear hi)
       (try clear ho0)
       obtain ⟨zw1, zx1, eo26⟩ := Kd.R_slice zj.out
       (first | subst eo26 | (injection eo26 with f1_ f2_ f3_; have f4_ := f1_.symm; have f5_ := f3_.symm; clear f1_ f2_ f3_; subst f4_; subst f5_))
       refine hK.out _ _ ⟨(blk_cell za.out 0).trans rfl, (blk_cell za.out 1).trans rfl⟩ (fun hHeld => ?_)
       clear hK K
       refine norm_ (a' := ?_) ?_ ?_
       rotate_left
       ·show Act.put _ (some 20) _ = _
        simp only [Act.put, List.setIfInBounds_toArray, List.set_cons_zero, List.set_cons_succ, i64_w, i32_w]
        rfl
       refine two_ (i := 4) (j := 5) (Ni := some 21) (Nj := some 5) #[true, true, true, true, true, false, false] #[true, true, true, true, false, true, false] rfl rfl rfl rfl (by kernel_rfl) (by decide) (by decide) (fun K hK => ?_) (fun K hK => ?_)
       ·skip
        refine goes_ Try.func61 (by kernel_rfl) rfl #[.agg #[.slice A0_0 l0_0.length c0_0, .slice A0_1 l0_1.length c0_1], .slice zw1 t693.length zx1] (by rfl) rfl rfl (by (try simp only [List.map_toArray, List.map_cons, List.map_nil]); first | done | rfl | (simp only [List.length_drop, List.length_take]; rfl)) ?_
        with_reducible refine (spec_l03Rename.calls k1 _ _ l0_0 _ _ l0_1 _ _ t693 t696 t699 _ ?side1 ?side2 ?side3 ?side4 ?side5 ?side6 A18.out).mono ?_
        (case side1 => repeat (first | exact (Kd.C_below zD.out HB.out) | (with_reducible refine Kd.C_alloc ?_ _) | (with_reducible refine Kd.C_drewN ?_ _) | (with_reducible refine Kd.C_drew ?_)))
        (case side2 => exact zE.out)
        (case side3 => repeat (first | exact (Kd.C_below zF.out HB.out) | (with_reducible refine Kd.C_alloc ?_ _) | (with_reducible refine Kd.C_drewN ?_ _) | (with_reducible refine Kd.C_drew ?_)))
        (case side4 => exact zG.out)
        (case side5 => repeat (first | exact (Kd.R_reads' zj.out).2.2 | (with_reducible refine Kd.C_alloc ?_ _) | (with_reducible refine Kd.C_drewN ?_ _) | (with_reducible refine Kd.C_drew ?_)))
        (case side6 => exact (Kd.R_reads' zj.out).2.1)
        rintro e w27 ⟨v697, v700, rfl, ho0, ho1, hb⟩
        refine ⟨_, rfl, ?_⟩
        have n0_ := Aside0.mk (Kd.R_mono (Kd.R_told (Kd.R_told (Kd.R_old (zb.out) hb) (Kd.R_base ho0)) (Kd.R_base ho1)) (fun _ h_ => h_.1))
        have n1_ := Aside0.mk (Kd.R_mono (Kd.R_told (Kd.R_told (Kd.R_old (zc.out) hb) (Kd.R_base ho0)) (Kd.R_base ho1)) (fun _ h_ => h_.1))
        have n2_ := Aside0.mk (Kd.R_mono (Kd.R_told (Kd.R_told (Kd.R_old (zj.out) hb) (Kd.R_base ho0)) (Kd.R_base ho1)) (fun _ h_ => h_.1))
        have n3_ := Aside0.mk (Kd.R_lower (Kd.R_new' (Kd.R_new' (Kd.R_new' ho0 (Kd.R_lt (zb.out))) (Kd.R_lt (zc.out))) (Kd.R_lt (zj.out))) (below_size (HB.out)))
        have n4_ := Aside0.mk (Kd.R_lower (Kd.R_new' (Kd.R_new' (Kd.R_new' ho1 (Kd.R_lt (zb.out))) (Kd.R_lt (zc.out))) (Kd.R_lt (zj.out))) (below_size (HB.out)))
        have n5_ := Aside0.mk (blk_below (g := zg) (o := .cells #[.slice A0_0 l0_0.length c0_0, .slice A0_1 l0_1.length c0_1] 27 (0, 0)) (za.out) hb)
        have n6_ := Aside0.mk (blk_below (g := zi) (o := .cells #[.slice none 0 0, .slice none 0 0] 27 (0, 0)) (ze.out) hb)
        have n7_ := Aside0.mk (blk_below (g := zh) (o := .cells #[u693000, u693001] 27 (0, 0)) (zf.out) hb)
        have n8_ := Aside0.mk (below_step (HB.out) hb)
        clear zb
        clear zc
        clear zj
        clear za
        clear ze
        clear zf
        clear HB
        have zb := n0_
        have zc := n1_
        have zj := n2_
        have zv := n3_
        have zw := n4_
        have za := n5_
        have ze := n6_
        have zf := n7_
        have HB := n8_
        clear n0_ n1_ n2_ n3_ n4_ n5_ n6_ n7_ n8_
        (try clear hb)
        (try clear hb2)
        (try clear hk)
        (try clear hi)
        (try clear ho0)
        (try clear ho1)
        refine hK.out _ _ ⟨(blk_cell za.out 0).trans rfl, (blk_cell za.out 1).trans rfl⟩ (fun hHeld => ?_)
        clear hK K
        refine norm_ (a' := ?_) ?_ ?_
        rotate_left
        ·show Act.put _ (some 21) _ = _
         simp only [Act.put, List.setIfInBounds_toArray, List.set_cons_zero, List.set_cons_succ, i64_w, i32_w]
         rfl
        refine one_ (i := 5) (N := some 5) #[true, true, true, true, true, true, false] rfl rfl (by kernel_rfl) (by decide) (fun K hK => ?_)
        refine box_step ?hg (N := 5) ?hd (cs := #[.slice none 0 0, .slice none 0 0]) (t := 27) ?hr ?_; (case hd => rfl); (case hg => rfl); (case hr => first | (go_simp; done) | (go_simp; rfl))
        intro zd hg w28 hbox hb
        have n0_ := Aside0.mk (Kd.R_below (zb.out) hb)
        have n1_ := Aside0.mk (Kd.R_below (zc.out) hb)
        have n2_ := Aside0.mk (Kd.R_below (zj.out) hb)
        have n3_ := Aside0.mk (Kd.R_below (zv.out) hb)
        have n4_ := Aside0.mk (Kd.R_below (zw.out) hb)
        have n5_ := Aside0.mk (blk_below (g := zg) (o := .cells #[.slice A0_0 l0_0.length c0_0, .slice A0_1 l0_1.length c0_1] 27 (0, 0)) (za.out) hb)
        have n6_ := Aside0.mk (blk_below (g := zi) (o := .cells #[.slice none 0 0, .slice none 0 0] 27 (0, 0)) (ze.out) hb)
        have n7_ := Aside0.mk (blk_below (g := zh) (o := .cells #[u693000, u693001] 27 (0, 0)) (zf.out) hb)
        have n8_ := Aside0.mk (below_step (HB.out) hb)
        have n9_ := Aside0.mk (hbox)
        have n10_ := Aside0.mk ((by rw [hg]; exact (below_size (HB.out)) : w.heap.size ≤ zd))
        have n11_ := Aside0.mk ((by rw [hg]; exact (below_size (HB.out)) : w.heap.size ≤ zd))
        have n12_ := Aside0.mk ((by rw [hg]; exact Nat.ne_of_lt (blk_lt (g := zg) (o := .cells #[.slice A0_0 l0_0.length c0_0, .slice A0_1 l0_1.length c0_1] 27 (0, 0)) (za.out)) : zg ≠ zd))
        have n13_ := Aside0.mk ((by rw [hg]; exact Nat.ne_of_gt (blk_lt (g := zg) (o := .cells #[.slice A0_0 l0_0.length c0_0, .slice A0_1 l0_1.length c0_1] 27 (0, 0)) (za.out)) : zd ≠ zg))
        have n14_ := Aside0.mk ((by rw [hg]; exact Nat.ne_of_lt (blk_lt (g := zi) (o := .cells #[.slice none 0 0, .slice none 0 0] 27 (0, 0)) (ze.out)) : zi ≠ zd))
        have n15_ := Aside0.mk ((by rw [hg]; exact Nat.ne_of_gt (blk_lt (g := zi) (o := .cells #[.slice none 0 0, .slice none 0 0] 27 (0, 0)) (ze.out)) : zd ≠ zi))
        have n16_ := Aside0.mk ((by rw [hg]; exact Nat.ne_of_lt (blk_lt (g := zh) (o := .cells #[u693000, u693001] 27 (0, 0)) (zf.out)) : zh ≠ zd))
        have n17_ := Aside0.mk ((by rw [hg]; exact Nat.ne_of_gt (blk_lt (g := zh) (o := .cells #[u693000, u693001] 27 (0, 0)) (zf.out)) : zd ≠ zh))
        clear zb
        clear zc
        clear zj
        clear zv
        clear zw
        clear za
        clear ze
        clear zf
        clear HB
        have zb := n0_
        have zc := n1_
        have zj := n2_
        have zv := n3_
        have zw := n4_
        have za := n5_
        have ze := n6_
        have zf := n7_
        have HB := n8_
        have zk := n9_
        have zJ := n10_
        have zB := n11_
        have zn := n12_
        have zs := n13_
        have zo := n14_
        have zt := n15_
        have zp := n16_
        have zu := n17_
        clear n0_ n1_ n2_ n3_ n4_ n5_ n6_ n7_ n8_ n9_ n10_ n11_ n12_ n13_ n14_ n15_ n16_ n17_
        clear hb hbox hg
        refine hK.out _ _ ⟨(blk_cell za.out 0).trans rfl, (blk_cell za.out 1).trans rfl⟩ (fun hHeld => ?_)
        clear hK K
        refine norm_ (a' := ?_) ?_ ?_
        rotate_left
        ·show Act.put _ (some 5) _ = _
         simp only [Act.put, List.setIfInBounds_toArray, List.set_cons_zero, List.set_cons_succ, i64_w, i32_w]
         rfl
        exact norm_ (by simp only [putAll, Act.put, List.setIfInBounds_toArray, List.set_cons_zero, List.set_cons_succ]) (hCont (.slice zw1 t693.length zx1, v697, v700, zd) _ ⟨hHeld, (Kd.R_mono zj.out (fun _ hk => ⟨hk.1.2, ⟨hk.2, ⟨hk.1.1.1.2, hk.1.1.2⟩⟩⟩)), (Kd.R_mono zv.out (fun _ hk => ⟨hk.2, ⟨hk.1.1.1, ⟨hk.1.1.2, hk.1.2⟩⟩⟩)), (Kd.R_mono zw.out (fun _ hk => ⟨hk.2, ⟨hk.1.1.1, ⟨hk.1.1.2, hk.1.2⟩⟩⟩)), (Kd.R_mono zb.out (fun _ hk => ⟨hk.1.1.2, ⟨hk.1.2, ⟨hk.2, hk.1.1.1⟩⟩⟩)), (Kd.R_mono zc.out (fun _ hk => ⟨hk.1.1.2, ⟨hk.1.2, ⟨hk.2, hk.1.1.1⟩⟩⟩)), (za.out), (ze.out), (zf.out), (zk.out), zJ.out, zB.out, zn.out, zs.out, zo.out, zt.out, zp.out, zu.out, (HB.out)⟩)
       ·skip
        refine box_step ?hg (N := 5) ?hd (cs := #[.slice none 0 0, .slice none 0 0]) (t := 27) ?hr ?_; (case hd => rfl); (case hg => rfl); (case hr => first | (go_simp; done) | (go_simp; rfl))
        intro zd hg w26 hbox hb
        have n0_ := Aside0.mk (Kd.R_below (zb.out) hb)
        have n1_ := Aside0.mk (Kd.R_below (zc.out) hb)
        have n2_ := Aside0.mk (Kd.R_below (zj.out) hb)
        have n3_ := Aside0.mk (blk_below (g := zg) (o := .cells #[.slice A0_0 l0_0.length c0_0, .slice A0_1 l0_1.length c0_1] 27 (0, 0)) (za.out) hb)
        have n4_ := Aside0.mk (blk_below (g := zi) (o := .cells #[.slice none 0 0, .slice none 0 0] 27 (0, 0)) (ze.out) hb)
        have n5_ := Aside0.mk (blk_below (g := zh) (o := .cells #[u693000, u693001] 27 (0, 0)) (zf.out) hb)
        have n6_ := Aside0.mk (below_step (HB.out) hb)
        have n7_ := Aside0.mk (hbox)
        have n8_ := Aside0.mk ((by rw [hg]; exact (below_size (HB.out)) : w.heap.size ≤ zd))
        have n9_ := Aside0.mk ((by rw [hg]; exact (below_size (HB.out)) : w.heap.size ≤ zd))
        have n10_ := Aside0.mk ((by rw [hg]; exact Nat.ne_of_lt (blk_lt (g := zg) (o := .cells #[.slice A0_0 l0_0.length c0_0, .slice A0_1 l0_1.length c0_1] 27 (0, 0)) (za.out)) : zg ≠ zd))
        have n11_ := Aside0.mk ((by rw [hg]; exact Nat.ne_of_gt (blk_lt (g := zg) (o := .cells #[.slice A0_0 l0_0.length c0_0, .slice A0_1 l0_1.length c0_1] 27 (0, 0)) (za.out)) : zd ≠ zg))
        have n12_ := Aside0.mk ((by rw [hg]; exact Nat.ne_of_lt (blk_lt (g := zi) (o := .cells #[.slice none 0 0, .slice none 0 0] 27 (0, 0)) (ze.out)) : zi ≠ zd))
        have n13_ := Aside0.mk ((by rw [hg]; exact Nat.ne_of_gt (blk_lt (g := zi) (o := .cells #[.slice none 0 0, .slice none 0 0] 27 (0, 0)) (ze.out)) : zd ≠ zi))
        have n14_ := Aside0.mk ((by rw [hg]; exact Nat.ne_of_lt (blk_lt (g := zh) (o := .cells #[u693000, u693001] 27 (0, 0)) (zf.out)) : zh ≠ zd))
        have n15_ := Aside0.mk ((by rw [hg]; exact Nat.ne_of_gt (blk_lt (g := zh) (o := .cells #[u693000, u693001] 27 (0, 0)) (zf.out)) : zd ≠ zh))
        clear zb
        clear zc
        clear zj
        clear za
        clear ze
        clear zf
        clear HB
        have zb := n0_
        have zc := n1_
        have zj := n2_
        have za := n3_
        have ze := n4_
        have zf := n5_
        have HB := n6_
        have zk := n7_
        have zJ := n8_
        have zB := n9_
        have zn := n10_
        have zs := n11_
        have zo := n12_
        have zt := n13_
        have zp := n14_
        have zu := n15_
        clear n0_ n1_ n2_ n3_ n4_ n5_ n6_ n7_ n8_ n9_ n10_ n11_ n12_ n13_ n14_ n15_
        clear hb hbox hg
        obtain ⟨zk1, zl1, eo27⟩ := Kd.R_slice zj.out
        (first | subst eo27 | (injection eo27 with f1_ f2_ f3_; have f4_ := f1_.symm; have f5_ := f3_.symm; clear f1_ f2_ f3_; subst f4_; subst f5_))
        refine hK.out _ _ ⟨(blk_cell za.out 0).trans rfl, (blk_cell za.out 1).trans rfl⟩ (fun hHeld => ?_)
        clear hK K
        refine norm_ (a' := ?_) ?_ ?_
        rotate_left
        ·show Act.put _ (some 5) _ = _
         simp only [Act.put, List.setIfInBounds_toArray, List.set_cons_zero, List.set_cons_succ, i64_w, i32_w]
         rfl
        refine one_ (i := 4) (N := some 21) #[true, true, true, true, true, true, false] rfl rfl (by kernel_rfl) (by decide) (fun K hK => ?_)
        refine goes_ Try.func61 (by kernel_rfl) rfl #[.agg #[.slice A0_0 l0_0.length c0_0, .slice A0_1 l0_1.length c0_1], .slice zk1 t693.length zl1] (by rfl) rfl rfl (by (try simp only [List.map_toArray, List.map_cons, List.map_nil]); first | done | rfl | (simp only [List.length_drop, List.length_take]; rfl)) ?_
        with_reducible refine (spec_l03Rename.calls k1 _ _ l0_0 _ _ l0_1 _ _ t693 t696 t699 _ ?side1 ?side2 ?side3 ?side4 ?side5 ?side6 A18.out).mono ?_
        (case side1 => repeat (first | exact (Kd.C_below zD.out HB.out) | (with_reducible refine Kd.C_alloc ?_ _) | (with_reducible refine Kd.C_drewN ?_ _) | (with_reducible refine Kd.C_drew ?_)))
        (case side2 => exact zE.out)
        (case side3 => repeat (first | exact (Kd.C_below zF.out HB.out) | (with_reducible refine Kd.C_alloc ?_ _) | (with_reducible refine Kd.C_drewN ?_ _) | (with_reducible refine Kd.C_drew ?_)))
        (case side4 => exact zG.out)
        (case side5 => repeat (first | exact (Kd.R_reads' zj.out).2.2 | (with_reducible refine Kd.C_alloc ?_ _) | (with_reducible refine Kd.C_drewN ?_ _) | (with_reducible refine Kd.C_drew ?_)))
        (case side6 => exact (Kd.R_reads' zj.out).2.1)
        rintro e w28 ⟨v697, v700, rfl, ho0, ho1, hb⟩
        refine ⟨_, rfl, ?_⟩
        have n0_ := Aside0.mk (Kd.R_mono (Kd.R_told (Kd.R_told (Kd.R_old (zb.out) hb) (Kd.R_base ho0)) (Kd.R_base ho1)) (fun _ h_ => h_.1))
        have n1_ := Aside0.mk (Kd.R_mono (Kd.R_told (Kd.R_told (Kd.R_old (zc.out) hb) (Kd.R_base ho0)) (Kd.R_base ho1)) (fun _ h_ => h_.1))
        have n2_ := Aside0.mk (Kd.R_mono (Kd.R_told (Kd.R_told (Kd.R_old (zj.out) hb) (Kd.R_base ho0)) (Kd.R_base ho1)) (fun _ h_ => h_.1))
        have n3_ := Aside0.mk (Kd.R_lower (Kd.R_new' (Kd.R_new' (Kd.R_new' ho0 (Kd.R_lt (zb.out))) (Kd.R_lt (zc.out))) (Kd.R_lt (zj.out))) (below_size (HB.out)))
        have n4_ := Aside0.mk (Kd.R_lower (Kd.R_new' (Kd.R_new' (Kd.R_new' ho1 (Kd.R_lt (zb.out))) (Kd.R_lt (zc.out))) (Kd.R_lt (zj.out))) (below_size (HB.out)))
        have n5_ := Aside0.mk (blk_below (g := zg) (o := .cells #[.slice A0_0 l0_0.length c0_0, .slice A0_1 l0_1.length c0_1] 27 (0, 0)) (za.out) hb)
        have n6_ := Aside0.mk (blk_below (g := zi) (o := .cells #[.slice none 0 0, .slice none 0 0] 27 (0, 0)) (ze.out) hb)
        have n7_ := Aside0.mk (blk_below (g := zh) (o := .cells #[u693000, u693001] 27 (0, 0)) (zf.out) hb)
        have n8_ := Aside0.mk (blk_below (g := zd) (o := .cells #[.slice none 0 0, .slice none 0 0] 27 (0, 0)) (zk.out) hb)
        have n9_ := Aside0.mk (below_step (HB.out) hb)
        clear zb
        clear zc
        clear zj
        clear za
        clear ze
        clear zf
        clear zk
        clear HB
        have zb := n0_
        have zc := n1_
        have zj := n2_
        have zv := n3_
        have zw := n4_
        have za := n5_
        have ze := n6_
        have zf := n7_
        have zk := n8_
        have HB := n9_
        clear n0_ n1_ n2_ n3_ n4_ n5_ n6_ n7_ n8_ n9_
        (try clear hb)
        (try clear hb2)
        (try clear hk)
        (try clear hi)
        (try clear ho0)
        (try clear ho1)
        refine hK.out _ _ ⟨(blk_cell za.out 0).trans rfl, (blk_cell za.out 1).trans rfl⟩ (fun hHeld => ?_)
        clear hK K
        refine norm_ (a' := ?_) ?_ ?_
        rotate_left
        ·show Act.put _ (some 21) _ = _
         simp only [Act.put, List.setIfInBounds_toArray, List.set_cons_zero, List.set_cons_succ, i64_w, i32_w]
         rfl
        exact norm_ (by simp only [putAll, Act.put, List.setIfInBounds_toArray, List.set_cons_zero, List.set_cons_succ]) (hCont (.slice zk1 t693.length zl1, v697, v700, zd) _ ⟨hHeld, (Kd.R_mono zj.out (fun _ hk => ⟨hk.1.2, ⟨hk.2, ⟨hk.1.1.1.2, hk.1.1.2⟩⟩⟩)), (Kd.R_mono zv.out (fun _ hk => ⟨hk.2, ⟨hk.1.1.1, ⟨hk.1.1.2, hk.1.2⟩⟩⟩)), (Kd.R_mono zw.out (fun _ hk => ⟨hk.2, ⟨hk.1.1.1, ⟨hk.1.1.2, hk.1.2⟩⟩⟩)), (Kd.R_mono zb.out (fun _ hk => ⟨hk.1.1.2, ⟨hk.1.2, ⟨hk.2, hk.1.1.1⟩⟩⟩)), (Kd.R_mono zc.out (fun _ hk => ⟨hk.1.1.2, ⟨hk.1.2, ⟨hk.2, hk.1.1.1⟩⟩⟩)), (za.out), (ze.out), (zf.out), (zk.out), zJ.out, zB.out, zn.out, zs.out, zo.out, zt.out, zp.out, zu.out, (HB.out)⟩)
      ·skip
       refine box_step ?hg (N := 5) ?hd (cs := #[.slice none 0 0, .slice none 0 0]) (t := 27) ?hr ?_; (case hd => rfl); (case hg => rfl); (case hr => first | (go_simp; done) | (go_simp; rfl))
       intro zd hg w25 hbox hb
       have n0_ := Aside0.mk (Kd.R_below (zb.out) hb)
       have n1_ := Aside0.mk (Kd.R_below (zc.out) hb)
       have n2_ := Aside0.mk (blk_below (g := zg) (o := .cells #[.slice A0_0 l0_0.length c0_0, .slice A0_1 l0_1.length c0_1] 27 (0, 0)) (za.out) hb)
       have n3_ := Aside0.mk (blk_below (g := zi) (o := .cells #[.slice none 0 0, .slice none 0 0] 27 (0, 0)) (ze.out) hb)
       have n4_ := Aside0.mk (blk_below (g := zh) (o := .cells #[u693000, u693001] 27 (0, 0)) (zf.out) hb)
       have n5_ := Aside0.mk (below_step (HB.out) hb)
       have n6_ := Aside0.mk (hbox)
       have n7_ := Aside0.mk ((by rw [hg]; exact (below_size (HB.out)) : w.heap.size ≤ zd))
       have n8_ := Aside0.mk ((by rw [hg]; exact (below_size (HB.out)) : w.heap.size ≤ zd))
       have n9_ := Aside0.mk ((by rw [hg]; exact Nat.ne_of_lt (blk_lt (g := zg) (o := .cells #[.slice A0_0 l0_0.length c0_0, .slice A0_1 l0_1.length c0_1] 27 (0, 0)) (za.out)) : zg ≠ zd))
       have n10_ := Aside0.mk ((by rw [hg]; exact Nat.ne_of_gt (blk_lt (g := zg) (o := .cells #[.slice A0_0 l0_0.length c0_0, .slice A0_1 l0_1.length c0_1] 27 (0, 0)) (za.out)) : zd ≠ zg))
       have n11_ := Aside0.mk ((by rw [hg]; exact Nat.ne_of_lt (blk_lt (g := zi) (o := .cells #[.slice none 0 0, .slice none 0 0] 27 (0, 0)) (ze.out)) : zi ≠ zd))
       have n12_ := Aside0.mk ((by rw [hg]; exact Nat.ne_of_gt (blk_lt (g := zi) (o := .cells #[.slice none 0 0, .slice none 0 0] 27 (0, 0)) (ze.out)) : zd ≠ zi))
       have n13_ := Aside0.mk ((by rw [hg]; exact Nat.ne_of_lt (blk_lt (g := zh) (o := .cells #[u693000, u693001] 27 (0, 0)) (zf.out)) : zh ≠ zd))
       have n14_ := Aside0.mk ((by rw [hg]; exact Nat.ne_of_gt (blk_lt (g := zh) (o := .cells #[u693000, u693001] 27 (0, 0)) (zf.out)) : zd ≠ zh))
       clear zb
       clear zc
       clear za
       clear ze
       clear zf
       clear HB
       have zb := n0_
       have zc := n1_
       have za := n2_
       have ze := n3_
       have zf := n4_
       have HB := n5_
       have zk := n6_
       have zJ := n7_
       have zB := n8_
       have zn := n9_
       have zs := n10_
       have zo := n11_
       have zt := n12_
       have zp := n13_
       have zu := n14_
       clear n0_ n1_ n2_ n3_ n4_ n5_ n6_ n7_ n8_ n9_ n10_ n11_ n12_ n13_ n14_
       clear hb hbox hg
       refine hK.out _ _ ⟨(blk_cell za.out 0).trans rfl, (blk_cell za.out 1).trans rfl⟩ (fun hHeld => ?_)
       clear hK K
       refine norm_ (a' := ?_) ?_ ?_
       rotate_left
       ·show Act.put _ (some 5) _ = _
        simp only [Act.put, List.setIfInBounds_toArray, List.set_cons_zero, List.set_cons_succ, i64_w, i32_w]
        rfl
       refine one_ (i := 3) (N := some 20) #[true, true, true, true, false, true, false] rfl rfl (by kernel_rfl) (by decide) (fun K hK => ?_)
       refine goes_ Try.func62 (by kernel_rfl) rfl #[.agg #[.slice A0_0 l0_0.length c0_0, .slice A0_1 l0_1.length c0_1], .int .i64 x4_1] (by rfl) rfl rfl (by (try simp only [List.map_toArray, List.map_cons, List.map_nil]); first | done | rfl | (simp only [List.length_drop, List.length_take]; rfl)) ?_
       with_reducible refine (spec_l03Names.calls k1 _ _ l0_0 _ _ l0_1 x4_1 t693 _ ?side1 ?side2 ?side3 ?side4 A17.out).mono ?_
       (case side1 => repeat (first | exact (Kd.C_below zD.out HB.out) | (with_reducible refine Kd.C_alloc ?_ _) | (with_reducible refine Kd.C_drewN ?_ _) | (with_reducible refine Kd.C_drew ?_)))
       (case side2 => exact zE.out)
       (case side3 => repeat (first | exact (Kd.C_below zF.out HB.out) | (with_reducible refine Kd.C_alloc ?_ _) | (with_reducible refine Kd.C_drewN ?_ _) | (with_reducible refine Kd.C_drew ?_)))
       (case side4 => exact zG.out)
       rintro e w26 ⟨v694, rfl, ho0, hb⟩
       refine ⟨_, rfl, ?_⟩
       have n0_ := Aside0.mk (Kd.R_elder' (zb.out) (Kd.R_base ho0) hb)
       have n1_ := Aside0.mk (Kd.R_elder' (zc.out) (Kd.R_base ho0) hb)
       have n2_ := Aside0.mk (Kd.R_lower (Kd.R_new' (Kd.R_new' ho0 (Kd.R_lt (zb.out))) (Kd.R_lt (zc.out))) (below_size (HB.out)))
       have n3_ := Aside0.mk (blk_below (g := zg) (o := .cells #[.slice A0_0 l0_0.length c0_0, .slice A0_1 l0_1.length c0_1] 27 (0, 0)) (za.out) hb)
       have n4_ := Aside0.mk (blk_below (g := zi) (o := .cells #[.slice none 0 0, .slice none 0 0] 27 (0, 0)) (ze.out) hb)
       have n5_ := Aside0.mk (blk_below (g := zh) (o := .cells #[u693000, u693001] 27 (0, 0)) (zf.out) hb)
       have n6_ := Aside0.mk (blk_below (g := zd) (o := .cells #[.slice none 0 0, .slice none 0 0] 27 (0, 0)) (zk.out) hb)
       have n7_ := Aside0.mk (below_step (HB.out) hb)
       clear zb
       clear zc
       clear za
       clear ze
       clear zf
       clear zk
       clear HB
       have zb := n0_
       have zc := n1_
       have zj := n2_
       have za := n3_
       have ze := n4_
       have zf := n5_
       have zk := n6_
       have HB := n7_
       clear n0_ n1_ n2_ n3_ n4_ n5_ n6_ n7_
       (try clear hb)
       (try clear hb2)
       (try clear hk)
       (try clear hi)
       (try clear ho0)
       obtain ⟨zk1, zl1, eo27⟩ := Kd.R_slice zj.out
       (first | subst eo27 | (injection eo27 with f1_ f2_ f3_; have f4_ := f1_.symm; have f5_ := f3_.symm; clear f1_ f2_ f3_; subst f4_; subst f5_))
       refine hK.out _ _ ⟨(blk_cell za.out 0).trans rfl, (blk_cell za.out 1).trans rfl⟩ (fun hHeld => ?_)
       clear hK K
       refine norm_ (a' := ?_) ?_ ?_
       rotate_left
       ·show Act.put _ (some 20) _ = _
        simp only [Act.put, List.setIfInBounds_toArray, List.set_cons_zero, List.set_cons_succ, i64_w, i32_w]
        rfl
       refine one_ (i := 4) (N := some 21) #[true, true, true, true, true, true, false] rfl rfl (by kernel_rfl) (by decide) (fun K hK => ?_)
       refine goes_ Try.func61 (by kernel_rfl) rfl #[.agg #[.slice A0_0 l0_0.length c0_0, .slice A0_1 l0_1.length c0_1], .slice zk1 t693.length zl1] (by rfl) rfl rfl (by (try simp only [List.map_toArray, List.map_cons, List.map_nil]); first | done | rfl | (simp only [List.length_drop, List.length_take]; rfl)) ?_
       with_reducible refine (spec_l03Rename.calls k1 _ _ l0_0 _ _ l0_1 _ _ t693 t696 t699 _ ?side1 ?side2 ?side3 ?side4 ?side5 ?side6 A18.out).mono ?_
       (case side1 => repeat (first | exact (Kd.C_below zD.out HB.out) | (with_reducible refine Kd.C_alloc ?_ _) | (with_reducible refine Kd.C_drewN ?_ _) | (with_reducible refine Kd.C_drew ?_)))
       (case side2 => exact zE.out)
       (case side3 => repeat (first | exact (Kd.C_below zF.out HB.out) | (with_reducible refine Kd.C_alloc ?_ _) | (with_reducible refine Kd.C_drewN ?_ _) | (with_reducible refine Kd.C_drew ?_)))
       (case side4 => exact zG.out)
       (case side5 => repeat (first | exact (Kd.R_reads' zj.out).2.2 | (with_reducible refine Kd.C_alloc ?_ _) | (with_reducible refine Kd.C_drewN ?_ _) | (with_reducible refine Kd.C_drew ?_)))
       (case side6 => exact (Kd.R_reads' zj.out).2.1)
       rintro e w28 ⟨v697, v700, rfl, ho0, ho1, hb⟩
       refine ⟨_, rfl, ?_⟩
       have n0_ := Aside0.mk (Kd.R_mono (Kd.R_told (Kd.R_told (Kd.R_old (zb.out) hb) (Kd.R_base ho0)) (Kd.R_base ho1)) (fun _ h_ => h_.1))
       have n1_ := Aside0.mk (Kd.R_mono (Kd.R_told (Kd.R_told (Kd.R_old (zc.out) hb) (Kd.R_base ho0)) (Kd.R_base ho1)) (fun _ h_ => h_.1))
       have n2_ := Aside0.mk (Kd.R_mono (Kd.R_told (Kd.R_told (Kd.R_old (zj.out) hb) (Kd.R_base ho0)) (Kd.R_base ho1)) (fun _ h_ => h_.1))
       have n3_ := Aside0.mk (Kd.R_lower (Kd.R_new' (Kd.R_new' (Kd.R_new' ho0 (Kd.R_lt (zb.out))) (Kd.R_lt (zc.out))) (Kd.R_lt (zj.out))) (below_size (HB.out)))
       have n4_ := Aside0.mk (Kd.R_lower (Kd.R_new' (Kd.R_new' (Kd.R_new' ho1 (Kd.R_lt (zb.out))) (Kd.R_lt (zc.out))) (Kd.R_lt (zj.out))) (below_size (HB.out)))
       have n5_ := Aside0.mk (blk_below (g := zg) (o := .cells #[.slice A0_0 l0_0.length c0_0, .slice A0_1 l0_1.length c0_1] 27 (0, 0)) (za.out) hb)
       have n6_ := Aside0.mk (blk_below (g := zi) (o := .cells #[.slice none 0 0, .slice none 0 0] 27 (0, 0)) (ze.out) hb)
       have n7_ := Aside0.mk (blk_below (g := zh) (o := .cells #[u693000, u693001] 27 (0, 0)) (zf.out) hb)
       have n8_ := Aside0.mk (blk_below (g := zd) (o := .cells #[.slice none 0 0, .slice none 0 0] 27 (0, 0)) (zk.out) hb)
       have n9_ := Aside0.mk (below_step (HB.out) hb)
       clear zb
       clear zc
       clear zj
       clear za
       clear ze
       clear zf
       clear zk
       clear HB
       have zb := n0_
       have zc := n1_
       have zj := n2_
       have zv := n3_
       have zw := n4_
       have za := n5_
       have ze := n6_
       have zf := n7_
       have zk := n8_
       have HB := n9_
       clear n0_ n1_ n2_ n3_ n4_ n5_ n6_ n7_ n8_ n9_
       (try clear hb)
       (try clear hb2)
       (try clear hk)
       (try clear hi)
       (try clear ho0)
       (try clear ho1)
       refine hK.out _ _ ⟨(blk_cell za.out 0).trans rfl, (blk_cell za.out 1).trans rfl⟩ (fun hHeld => ?_)
       clear hK K
       refine norm_ (a' := ?_) ?_ ?_
       rotate_left
       ·show Act.put _ (some 21) _ = _
        simp only [Act.put, List.setIfInBounds_toArray, List.set_cons_zero, List.set_cons_succ, i64_w, i32_w]
        rfl
       exact norm_ (by simp only [putAll, Act.put, List.setIfInBounds_toArray, List.set_cons_zero, List.set_cons_succ]) (hCont (.slice zk1 t693.length zl1, v697, v700, zd) _ ⟨hHeld, (Kd.R_mono zj.out (fun _ hk => ⟨hk.1.2, ⟨hk.2, ⟨hk.1.1.1.2, hk.1.1.2⟩⟩⟩)), (Kd.R_mono zv.out (fun _ hk => ⟨hk.2, ⟨hk.1.1.1, ⟨hk.1.1.2, hk.1.2⟩⟩⟩)), (Kd.R_mono zw.out (fun _ hk => ⟨hk.2, ⟨hk.1.1.1, ⟨hk.1.1.2, hk.1.2⟩⟩⟩)), (Kd.R_mono zb.out (fun _ hk => ⟨hk.1.1.2, ⟨hk.1.2, ⟨hk.2, hk.1.1.1⟩⟩⟩)), (Kd.R_mono zc.out (fun _ hk => ⟨hk.1.1.2, ⟨hk.1.2, ⟨hk.2, hk.1.1.1⟩⟩⟩)), (za.out), (ze.out), (zf.out), (zk.out), zJ.out, zB.out, zn.out, zs.out, zo.out, zt.out, zp.out, zu.out, (HB.out)⟩)
     rintro ⟨v694, v697, v700, zd⟩ w29 ⟨hS_, h0_, h1_, h2_, h3_, h4_, h5_, h6_, h7_, h8_, h9_, h10_, h11_, h12_, h13_, h14_, h15_, h16_, h17_⟩
     have n0_ : Aside0 (Kd.R (Kd.int .i64) 3 w29 w.heap.size (fun k_ => some k_ ≠ (v697 : Value).ownBlock ∧ some k_ ≠ (v700 : Value).ownBlock ∧ some k_ ≠ (u693000 : Value).ownBlock ∧ some k_ ≠ (u693001 : Value).ownBlock) v694 t693) := ⟨h0_⟩
     have n1_ : Aside0 (Kd.R (Kd.int .i64) 3 w29 w.heap.size (fun k_ => some k_ ≠ (v694 : Value).ownBlock ∧ some k_ ≠ (v700 : Value).ownBlock ∧ some k_ ≠ (u693000 : Value).ownBlock ∧ some k_ ≠ (u693001 : Value).ownBlock) v697 t696) := ⟨h1_⟩
     have n2_ : Aside0 (Kd.R (Kd.int .i64) 3 w29 w.heap.size (fun k_ => some k_ ≠ (v694 : Value).ownBlock ∧ some k_ ≠ (v697 : Value).ownBlock ∧ some k_ ≠ (u693000 : Value).ownBlock ∧ some k_ ≠ (u693001 : Value).ownBlock) v700 t699) := ⟨h2_⟩
     have n3_ : Aside0 (Kd.R (Kd.int .i64) 3 w29 w.heap.size (fun k_ => some k_ ≠ (v694 : Value).ownBlock ∧ some k_ ≠ (v697 : Value).ownBlock ∧ some k_ ≠ (v700 : Value).ownBlock ∧ some k_ ≠ (u693001 : Value).ownBlock) u693000 zl) := ⟨h3_⟩
     have n4_ : Aside0 (Kd.R (Kd.int .i64) 3 w29 w.heap.size (fun k_ => some k_ ≠ (v694 : Value).ownBlock ∧ some k_ ≠ (v697 : Value).ownBlock ∧ some k_ ≠ (v700 : Value).ownBlock ∧ some k_ ≠ (u693000 : Value).ownBlock) u693001 zm) := ⟨h4_⟩
     have n5_ : Aside0 (w29.heap[zg]? = some (.cells #[.slice A0_0 l0_0.length c0_0, .slice A0_1 l0_1.length c0_1] 27 (0, 0))) := ⟨h5_⟩
     have n6_ : Aside0 (w29.heap[zi]? = some (.cells #[.slice none 0 0, .slice none 0 0] 27 (0, 0))) := ⟨h6_⟩
     have n7_ : Aside0 (w29.heap[zh]? = some (.cells #[u693000, u693001] 27 (0, 0))) := ⟨h7_⟩
     have n8_ : Aside0 (w29.heap[zd]? = some (.cells #[.slice none 0 0, .slice none 0 0] 27 (0, 0))) := ⟨h8_⟩
     have n9_ : Aside0 (w.heap.size ≤ zd) := ⟨h9_⟩
     have n10_ : Aside0 (w.heap.size ≤ zd) := ⟨h10_⟩
     have n11_ : Aside0 (zg ≠ zd) := ⟨h11_⟩
     have n12_ : Aside0 (zd ≠ zg) := ⟨h12_⟩
     have n13_ : Aside0 (zi ≠ zd) := ⟨h13_⟩
     have n14_ : Aside0 (zd ≠ zi) := ⟨h14_⟩
     have n15_ : Aside0 (zh ≠ zd) := ⟨h15_⟩
     have n16_ : Aside0 (zd ≠ zh) := ⟨h16_⟩
     have n17_ : Aside0 (Below w.heap.size w w29) := ⟨h17_⟩
     clear zb
     clear zc
     clear za
     clear ze
     clear zf
     clear HB
     clear h0_ h1_ h2_ h3_ h4_ h5_ h6_ h7_ h8_ h9_ h10_ h11_ h12_ h13_ h14_ h15_ h16_ h17_
     have zj := n0_
     have zv := n1_
     have zw := n2_
     have zb := n3_
     have zc := n4_
     have za := n5_
     have ze := n6_
     have zf := n7_
     have zk := n8_
     have zJ := n9_
     have zB := n10_
     have zn := n11_
     have zs := n12_
     have zo := n13_
     have zt := n14_
     have zp := n15_
     have zu := n16_
     have HB := n17_
     clear n0_ n1_ n2_ n3_ n4_ n5_ n6_ n7_ n8_ n9_ n10_ n11_ n12_ n13_ n14_ n15_ n16_ n17_
     have hHeld : w29.cell? ⟨zg, 0, none⟩ = some (.slice A0_0 l0_0.length c0_0) ∧ w29.cell? ⟨zg, 1, none⟩ = some (.slice A0_1 l0_1.length c0_1) := hS_
     obtain ⟨zC, zA, eo30⟩ := Kd.R_slice zv.out
     (first | subst eo30 | (injection eo30 with f1_ f2_ f3_; have f4_ := f1_.symm; have f5_ := f3_.symm; clear f1_ f2_ f3_; subst f4_; subst f5_))
     obtain ⟨zI, zH, eo32⟩ := Kd.R_slice zw.out
     (first | subst eo32 | (injection eo32 with f1_ f2_ f3_; have f4_ := f1_.symm; have f5_ := f3_.symm; clear f1_ f2_ f3_; subst f4_; subst f5_))
     refine norm_ (a' := ?_) ?_ ?_
     rotate_left
     ·simp only [putAll, Act.put, List.setIfInBounds_toArray, List.set_cons_zero, List.set_cons_succ]
      rfl
     refine one_ (i := 6) (N := none) #[true, true, true, true, true, true, true] rfl rfl (by kernel_rfl) (by decide) (fun K hK => ?_)
     have hs31 : w29.cell? ⟨zd, 0, none⟩ = some (.slice none 0 0) := (blk_cell zk.out 0).trans rfl
     have hfs31 := blk_frozen zk.out 0
     have hns31_0 := zn.out
     have hns31_1 := zo.out
     have hns31_2 := zp.out
     have hms31_0 := zs.out
     have hms31_1 := zt.out
     have hms31_2 := zu.out
     have hs33 : w29.cell? ⟨zd, 1, none⟩ = some (.slice none 0 0) := (blk_cell zk.out 1).trans rfl
     have hfs33 := blk_frozen zk.out 1
     have hns33_0 := zn.out
     have hns33_1 := zo.out
     have hns33_2 := zp.out
     have hms33_0 := zs.out
     have hms33_1 := zt.out
     have hms33_2 := zu.out
     refine skip_ (w1 := ?_) (by rfl) rfl ?_ ?_
     rotate_left
     ·go_simp
      rfl
     refine hK.out _ _ ⟨((cell_far (p := ⟨zd, _, none⟩) zn.out _).trans (((cell_far (p := ⟨zd, _, none⟩) zn.out _).trans (hHeld.1)))), ((cell_far (p := ⟨zd, _, none⟩) zn.out _).trans (((cell_far (p := ⟨zd, _, none⟩) zn.out _).trans (hHeld.2))))⟩ (fun hHeld => ?_)
     clear hK K
     refine done_ (by kernel_rfl) ?_
     have hnb34 := zs.out
     have hnc34 := zn.out
     have hnb35 := zt.out
     have hnc35 := zo.out
     have hnb36 := zu.out
     have hnc36 := zp.out
     have hcz37_0 : w29.cell? ⟨zd, 0, none⟩ = some (.slice none 0 0) := (blk_cell zk.out 0).trans rfl
     have hcz37_1 : w29.cell? ⟨zd, 1, none⟩ = some (.slice none 0 0) := (blk_cell zk.out 1).trans rfl
     have hfz37_0 := blk_frozen zk.out 0
     have hfz37_1 := blk_frozen zk.out 1
     have hnb38 := zz.out
     have hnc38 := zx.out
     have hcz39_0 : w29.cell? ⟨zh, 0, none⟩ = some (u693000) := (blk_cell zf.out 0).trans rfl
     have hcz39_1 : w29.cell? ⟨zh, 1, none⟩ = some (u693001) := (blk_cell zf.out 1).trans rfl
     have hfz39_0 := blk_frozen zf.out 0
     have hfz39_1 := blk_frozen zf.out 1
     obtain ⟨zb1, zX, eo40⟩ := Kd.R_slice zb.out
     subst eo40
     obtain ⟨zY, zU, eo41⟩ := Kd.R_slice zc.out
     subst eo41
     try go_wp2_with (first | ((with_reducible refine gate_callee (f := 83) rfl ?_); refine goesL_ (some 24) rfl rfl Try.func83 (by kernel_rfl) rfl #[.agg #[.slice zC t696.length zA, .slice zI t699.length zH], .agg #[.slice zb1 zl.length zX, .slice zY zm.length zU]] rfl (by (try simp only [List.map_toArray, List.map_cons, List.map_nil]); first | done | rfl | (simp only [List.length_drop, List.length_take]; rfl)) ?_; (with_reducible refine (spec_l03Before.calls k1 _ _ t696 _ _ t699 _ _ zl _ _ zm true _ ?side1 ?side2 ?side3 ?side4 ?side5 ?side6 ?side7 ?side8 A19.out).mono ?_); (case side1 => refine (Kd.R_reads' (e := 3) (base := w.heap.size) (ok := fun k_ => (some k_ ≠ (v694 : Value).ownBlock ∧ (some k_ ≠ (.slice zI t699.length zH : Value).ownBlock ∧ (some k_ ≠ (.slice zb1 zl.length zX : Value).ownBlock ∧ some k_ ≠ (.slice zY zm.length zU : Value).ownBlock)))) (n := t696.length) (c := zA) ?_).2.2; exact (by (with_reducible repeat (first | apply Kd.R_alloc | apply Kd.R_drewN | apply Kd.R_drew)); exact (Kd.R_mono (Kd.R_far (p := ⟨zd, 1, none⟩) (Kd.R_far (p := ⟨zd, 0, none⟩) (Kd.R_types zv.out zk.out (by decide)) (fun _ hk => hk.2) (.slice zC t696.length zA)) (fun _ hk => hk.2) (.slice zI t699.length zH)) (fun _ h_ => h_.1)))); (case side2 => exact (Kd.R_reads' zv.out).2.1); (case side3 => refine (Kd.R_reads' (e := 3) (base := w.heap.size) (ok := fun k_ => (some k_ ≠ (v694 : Value).ownBlock ∧ (some k_ ≠ (.slice zC t696.length zA : Value).ownBlock ∧ (some k_ ≠ (.slice zb1 zl.length zX : Value).ownBlock ∧ some k_ ≠ (.slice zY zm.length zU : Value).ownBlock)))) (n := t699.length) (c := zH) ?_).2.2; exact (by (with_reducible repeat (first | apply Kd.R_alloc | apply Kd.R_drewN | apply Kd.R_drew)); exact (Kd.R_mono (Kd.R_far (p := ⟨zd, 1, none⟩) (Kd.R_far (p := ⟨zd, 0, none⟩) (Kd.R_types zw.out zk.out (by decide)) (fun _ hk => hk.2) (.slice zC t696.length zA)) (fun _ hk => hk.2) (.slice zI t699.length zH)) (fun _ h_ => h_.1)))); (case side4 => exact (Kd.R_reads' zw.out).2.1); (case side5 => refine (Kd.R_reads' (e := 3) (base := w.heap.size) (ok := fun k_ => (some k_ ≠ (v694 : Value).ownBlock ∧ (some k_ ≠ (.slice zC t696.length zA : Value).ownBlock ∧ (some k_ ≠ (.slice zI t699.length zH : Value).ownBlock ∧ some k_ ≠ (.slice zY zm.length zU : Value).ownBlock)))) (n := zl.length) (c := zX) ?_).2.2; exact (by (with_reducible repeat (first | apply Kd.R_alloc | apply Kd.R_drewN | apply Kd.R_drew)); exact (Kd.R_mono (Kd.R_far (p := ⟨zd, 1, none⟩) (Kd.R_far (p := ⟨zd, 0, none⟩) (Kd.R_types zb.out zk.out (by decide)) (fun _ hk => hk.2) (.slice zC t696.length zA)) (fun _ hk => hk.2) (.slice zI t699.length zH)) (fun _ h_ => h_.1)))); (case side6 => exact (Kd.R_reads' zb.out).2.1); (case side7 => refine (Kd.R_reads' (e := 3) (base := w.heap.size) (ok := fun k_ => (some k_ ≠ (v694 : Value).ownBlock ∧ (some k_ ≠ (.slice zC t696.length zA : Value).ownBlock ∧ (some k_ ≠ (.slice zI t699.length zH : Value).ownBlock ∧ some k_ ≠ (.slice zb1 zl.length zX : Value).ownBlock)))) (n := zm.length) (c := zU) ?_).2.2; exact (by (with_reducible repeat (first | apply Kd.R_alloc | apply Kd.R_drewN | apply Kd.R_drew)); exact (Kd.R_mono (Kd.R_far (p := ⟨zd, 1, none⟩) (Kd.R_far (p := ⟨zd, 0, none⟩) (Kd.R_types zc.out zk.out (by decide)) (fun _ hk => hk.2) (.slice zC t696.length zA)) (fun _ hk => hk.2) (.slice zI t699.length zH)) (fun _ h_ => h_.1)))); (case side8 => exact (Kd.R_reads' zc.out).2.1); rintro e w42 ⟨rfl, hb⟩; refine ⟨_, rfl, ?_⟩; have n0_ := Aside0.mk (Kd.R_below (by (with_reducible repeat (first | apply Kd.R_alloc | apply Kd.R_drewN | apply Kd.R_drew)); exact (Kd.R_mono (Kd.R_far (p := ⟨zd, 1, none⟩) (Kd.R_far (p := ⟨zd, 0, none⟩) (Kd.R_types zb.out zk.out (by decide)) (fun _ hk => hk.2) (.slice zC t696.length zA)) (fun _ hk => hk.2) (.slice zI t699.length zH)) (fun _ h_ => h_.1))) hb); have n1_ := Aside0.mk (Kd.R_below (by (with_reducible repeat (first | apply Kd.R_alloc | apply Kd.R_drewN | apply Kd.R_drew)); exact (Kd.R_mono (Kd.R_far (p := ⟨zd, 1, none⟩) (Kd.R_far (p := ⟨zd, 0, none⟩) (Kd.R_types zc.out zk.out (by decide)) (fun _ hk => hk.2) (.slice zC t696.length zA)) (fun _ hk => hk.2) (.slice zI t699.length zH)) (fun _ h_ => h_.1))) hb); have n2_ := Aside0.mk (Kd.R_below (by (with_reducible repeat (first | apply Kd.R_alloc | apply Kd.R_drewN | apply Kd.R_drew)); exact (Kd.R_mono (Kd.R_far (p := ⟨zd, 1, none⟩) (Kd.R_far (p := ⟨zd, 0, none⟩) (Kd.R_types zj.out zk.out (by decide)) (fun _ hk => hk.2) (.slice zC t696.length zA)) (fun _ hk => hk.2) (.slice zI t699.length zH)) (fun _ h_ => h_.1))) hb); have n3_ := Aside0.mk (Kd.R_below (by (with_reducible repeat (first | apply Kd.R_alloc | apply Kd.R_drewN | apply Kd.R_drew)); exact (Kd.R_mono (Kd.R_far (p := ⟨zd, 1, none⟩) (Kd.R_far (p := ⟨zd, 0, none⟩) (Kd.R_types zv.out zk.out (by decide)) (fun _ hk => hk.2) (.slice zC t696.length zA)) (fun _ hk => hk.2) (.slice zI t699.length zH)) (fun _ h_ => h_.1))) hb); have n4_ := Aside0.mk (Kd.R_below (by (with_reducible repeat (first | apply Kd.R_alloc | apply Kd.R_drewN | apply Kd.R_drew)); exact (Kd.R_mono (Kd.R_far (p := ⟨zd, 1, none⟩) (Kd.R_far (p := ⟨zd, 0, none⟩) (Kd.R_types zw.out zk.out (by decide)) (fun _ hk => hk.2) (.slice zC t696.length zA)) (fun _ hk => hk.2) (.slice zI t699.length zH)) (fun _ h_ => h_.1))) hb); have n5_ := Aside0.mk (blk_below (g := zg) (o := .cells #[.slice A0_0 l0_0.length c0_0, .slice A0_1 l0_1.length c0_1] 27 (0, 0)) (by (with_reducible repeat (first | refine blk_drewN ?_ _ | refine blk_drew ?_ | refine blk_alloc ?_ _)); refine blk_far ?_ zn.out _; (with_reducible repeat (first | refine blk_drewN ?_ _ | refine blk_drew ?_ | refine blk_alloc ?_ _)); refine blk_far ?_ zn.out _; (with_reducible repeat (first | refine blk_drewN ?_ _ | refine blk_drew ?_ | refine blk_alloc ?_ _)); exact za.out) hb); have n6_ := Aside0.mk (blk_below (g := zi) (o := .cells #[.slice none 0 0, .slice none 0 0] 27 (0, 0)) (by (with_reducible repeat (first | refine blk_drewN ?_ _ | refine blk_drew ?_ | refine blk_alloc ?_ _)); refine blk_far ?_ zo.out _; (with_reducible repeat (first | refine blk_drewN ?_ _ | refine blk_drew ?_ | refine blk_alloc ?_ _)); refine blk_far ?_ zo.out _; (with_reducible repeat (first | refine blk_drewN ?_ _ | refine blk_drew ?_ | refine blk_alloc ?_ _)); exact ze.out) hb); have n7_ := Aside0.mk (blk_below (g := zh) (o := .cells #[.slice zb1 zl.length zX, .slice zY zm.length zU] 27 (0, 0)) (by (with_reducible repeat (first | refine blk_drewN ?_ _ | refine blk_drew ?_ | refine blk_alloc ?_ _)); refine blk_far ?_ zp.out _; (with_reducible repeat (first | refine blk_drewN ?_ _ | refine blk_drew ?_ | refine blk_alloc ?_ _)); refine blk_far ?_ zp.out _; (with_reducible repeat (first | refine blk_drewN ?_ _ | refine blk_drew ?_ | refine blk_alloc ?_ _)); exact zf.out) hb); have n8_ := Aside0.mk (blk_below (g := zd) (o := .cells #[.slice zC t696.length zA, .slice zI t699.length zH] 27 (0, 0)) (by (with_reducible repeat (first | refine blk_drewN ?_ _ | refine blk_drew ?_ | refine blk_alloc ?_ _)); refine blk_put (cs := #[.slice zC t696.length zA, .slice none 0 0]) ?_ 1 _ rfl; (with_reducible repeat (first | refine blk_drewN ?_ _ | refine blk_drew ?_ | refine blk_alloc ?_ _)); refine blk_put (cs := #[.slice none 0 0, .slice none 0 0]) ?_ 0 _ rfl; (with_reducible repeat (first | refine blk_drewN ?_ _ | refine blk_drew ?_ | refine blk_alloc ?_ _)); exact zk.out) hb); have n9_ := Aside0.mk (below_step (by repeat (first | (with_reducible first | exact HB.out | apply below_alloc | apply pw_below_drewN | apply below_drew1 | refine below_set ?_ ze1.out | refine below_set ?_ zf1.out | refine below_set ?_ zP.out | refine below_set ?_ zB.out) | exact HB.out)) hb); clear zb; clear zc; clear zj; clear zv; clear zw; clear za; clear ze; clear zf; clear zk; clear HB; have zb := n0_; have zc := n1_; have zj := n2_; have zv := n3_; have zw := n4_; have za := n5_; have ze := n6_; have zf := n7_; have zk := n8_; have HB := n9_; clear n0_ n1_ n2_ n3_ n4_ n5_ n6_ n7_ n8_ n9_; (try clear hb); (try clear hb2); (try clear hk); (try clear hi); have hcz43_0 : w42.cell? ⟨zd, 0, none⟩ = some (.slice zC t696.length zA) := (blk_cell zk.out 0).trans rfl; have hcz43_1 : w42.cell? ⟨zd, 1, none⟩ = some (.slice zI t699.length zH) := (blk_cell zk.out 1).trans rfl; have hfz43_0 := blk_frozen zk.out 0; have hfz43_1 := blk_frozen zk.out 1; have hcz44_0 : w42.cell? ⟨zh, 0, none⟩ = some (.slice zb1 zl.length zX) := (blk_cell zf.out 0).trans rfl; have hcz44_1 : w42.cell? ⟨zh, 1, none⟩ = some (.slice zY zm.length zU) := (blk_cell zf.out 1).trans rfl; have hfz44_0 := blk_frozen zf.out 0; have hfz44_1 := blk_frozen zf.out 1))
     go_roundg k1
     case measure => have := HK1.out; omega
     case rel => exact ⟨(wrap64 (x4_1 + 1)), (t696), (t699), (.slice zC t696.length zA), (.slice zI t699.length zH), (by first | rfl | (simp; done) | (simp [*]; done)), H', ⟨by have := HK1.out; omega⟩, ⟨by (with_reducible repeat (first | apply Kd.R_alloc | apply Kd.R_drewN | apply Kd.R_drew)); exact Kd.R_mono (Kd.R_far (p := ⟨zh, 1, none⟩) (Kd.R_far (p := ⟨zh, 0, none⟩) (Kd.R_types zv.out zf.out (by decide)) (fun _ hk => hk.2) (.slice zC t696.length zA)) (fun _ hk => hk.2) (.slice zI t699.length zH)) (fun _ hk => hk.1.2.1)⟩, ⟨by (with_reducible repeat (first | apply Kd.R_alloc | apply Kd.R_drewN | apply Kd.R_drew)); exact Kd.R_mono (Kd.R_far (p := ⟨zh, 1, none⟩) (Kd.R_far (p := ⟨zh, 0, none⟩) (Kd.R_types zw.out zf.out (by decide)) (fun _ hk => hk.2) (.slice zC t696.length zA)) (fun _ hk => hk.2) (.slice zI t699.length zH)) (fun _ hk => hk.1.2.1)⟩, ⟨by (with_reducible repeat (first | refine blk_drewN ?_ _ | refine blk_drew ?_ | refine blk_alloc ?_ _)); refine blk_far ?_ zr.out _; (with_reducible repeat (first | refine blk_drewN ?_ _ | refine blk_drew ?_ | refine blk_alloc ?_ _)); refine blk_far ?_ zr.out _; (with_reducible repeat (first | refine blk_drewN ?_ _ | refine blk_drew ?_ | refine blk_alloc ?_ _)); exact za.out⟩, ⟨by (with_reducible repeat (first | refine blk_drewN ?_ _ | refine blk_drew ?_ | refine blk_alloc ?_ _)); refine blk_far ?_ zx.out _; (with_reducible repeat (first | refine blk_drewN ?_ _ | refine blk_drew ?_ | refine blk_alloc ?_ _)); refine blk_far ?_ zx.out _; (with_reducible repeat (first | refine blk_drewN ?_ _ | refine blk_drew ?_ | refine blk_alloc ?_ _)); exact ze.out⟩, ⟨by (with_reducible repeat (first | refine blk_drewN ?_ _ | refine blk_drew ?_ | refine blk_alloc ?_ _)); refine blk_put (cs := #[.slice zC t696.length zA, .slice zY zm.length zU]) ?_ 1 _ rfl; (with_reducible repeat (first | refine blk_drewN ?_ _ | refine blk_drew ?_ | refine blk_alloc ?_ _)); refine blk_put (cs := #[.slice zb1 zl.length zX, .slice zY zm.length zU]) ?_ 0 _ rfl; (with_reducible repeat (first | refine blk_drewN ?_ _ | refine blk_drew ?_ | refine blk_alloc ?_ _)); exact zf.out⟩, ⟨by repeat (first | (with_reducible first | exact HB.out | apply below_alloc | apply pw_below_drewN | apply below_drew1 | refine below_set ?_ ze1.out | refine below_set ?_ zf1.out | refine below_set ?_ zP.out | refine below_set ?_ zB.out) | exact HB.out)⟩⟩
    ·replace c20 := Bool.eq_false_iff.mpr c20
     subst c20
     have H1 : (spec_l03Canon.l0 k1 (wrap64 (x4_1 + 1)) l0_0 l0_1 zl zm) = some (r1, r2) := by rw [if_neg (show ¬ (false = true) by decide)] at H; exact H
     clear H
     have H := H1
     clear H1
     have H' := Aside0.mk H
     clear H
     have hnb45 := zV.out
     have hnc45 := zW.out
     have hnb46 := zr.out
     have hnc46 := zy.out
     have hcz47_0 : wr.cell? ⟨zg, 0, none⟩ = some (.slice A0_0 l0_0.length c0_0) := (blk_cell za.out 0).trans rfl
     have hcz47_1 : wr.cell? ⟨zg, 1, none⟩ = some (.slice A0_1 l0_1.length c0_1) := (blk_cell za.out 1).trans rfl
     have hfz47_0 := blk_frozen za.out 0
     have hfz47_1 := blk_frozen za.out 1
     try go_wp2
     have n0_ := Aside0.mk (Kd.R_drew zb.out)
     have n1_ := Aside0.mk (Kd.R_drew zc.out)
     have n2_ := Aside0.mk (blk_drew za.out)
     have n3_ := Aside0.mk (blk_drew ze.out)
     have n4_ := Aside0.mk (blk_drew zf.out)
     have n5_ := Aside0.mk (below_drew1 HB.out)
     clear zb
     clear zc
     clear za
     clear ze
     clear zf
     clear HB
     have zb := n0_
     have zc := n1_
     have za := n2_
     have ze := n3_
     have zf := n4_
     have HB := n5_
     clear n0_ n1_ n2_ n3_ n4_ n5_
     refine start_ (n := 7) (S := fun w' => w'.cell? ⟨zg, 0, none⟩ = some (.slice A0_0 l0_0.length c0_0) ∧ w'.cell? ⟨zg, 1, none⟩ = some (.slice A0_1 l0_1.length c0_1)) (ds := []) #[false, false, false, false, false, false, false] (by kernel_rfl) rfl rfl ⟨(blk_cell za.out 0).trans rfl, (blk_cell za.out 1).trans rfl⟩ (fun hHeld => ?_)
     generalize wr.drew = w48 at zb zc za ze zf HB hHeld ⊢
     refine pure_ (i := 2) (N := some 19) (v := ?_) (a' := ?_) #[false, false, true, false, false, false, false] rfl rfl (by kernel_rfl) (fun _ _ _ h => h) (Or.inl ⟨by rfl, ?_⟩) ?_ ?_
     rotate_left
     ·intro w'
      go_simp
      with_reducible rfl
     rotate_left
     ·simp only [Act.put, List.setIfInBounds_toArray, List.set_cons_zero, List.set_cons_succ, i64_w, i32_w]
      rfl
     refine take_ (i := 0) (N := some 17) (v := ?_) (a' := ?_) #[true, false, true, false, false, false, false] rfl rfl (by kernel_rfl) (fun _ _ _ h => h) (Or.inl ⟨by rfl, ?_⟩) hHeld ?_ ?_
     rotate_left
     ·rintro w' ⟨s0, s1⟩
      go_simp
      with_reducible rfl
     rotate_left
     ·simp only [Act.put, List.setIfInBounds_toArray, List.set_cons_zero, List.set_cons_succ, i64_w, i32_w]
      rfl
     refine take_ (i := 1) (N := some 18) (v := ?_) (a' := ?_) #[true, true, true, false, false, false, false] rfl rfl (by kernel_rfl) (fun _ _ _ h => h) (Or.inl ⟨by rfl, ?_⟩) hHeld ?_ ?_
     rotate_left
     ·rintro w' ⟨s0, s1⟩
      go_simp
      with_reducible rfl
     rotate_left
     ·simp only [Act.put, List.setIfInBounds_toArray, List.set_cons_zero, List.set_cons_succ, i64_w, i32_w]
      rfl
     refine join_ (σ := Value × Value × Value × Nat) 1 #[true, true, true, true, true, true, false] (fun s_ => [(20, s_.1), (21, .agg #[s_.2.1, s_.2.2.1]), (5, .pointer (some ⟨s_.2.2.2, 0, none⟩))]) (fun s_ w' => (w'.cell? ⟨zg, 0, none⟩ = some (.slice A0_0 l0_0.length c0_0) ∧ w'.cell? ⟨zg, 1, none⟩ = some (.slice A0_1 l0_1.length c0_1)) ∧ (Kd.R (Kd.int .i64) 3 w' w.heap.size (fun k_ => some k_ ≠ (s_.2.1 : Value).ownBlock ∧ some k_ ≠ (s_.2.2.1 : Value).ownBlock ∧ some k_ ≠ (u693000 : Value).ownBlock ∧ some k_ ≠ (u693001 : Value).ownBlock) s_.1 t693) ∧ (Kd.R (Kd.int .i64) 3 w' w.heap.size (fun k_ => some k_ ≠ (s_.1 : Value).ownBlock ∧ some k_ ≠ (s_.2.2.1 : Value).ownBlock ∧ some k_ ≠ (u693000 : Value).ownBlock ∧ some k_ ≠ (u693001 : Value).ownBlock) s_.2.1 t696) ∧ (Kd.R (Kd.int .i64) 3 w' w.heap.size (fun k_ => some k_ ≠ (s_.1 : Value).ownBlock ∧ some k_ ≠ (s_.2.1 : Value).ownBlock ∧ some k_ ≠ (u693000 : Value).ownBlock ∧ some k_ ≠ (u693001 : Value).ownBlock) s_.2.2.1 t699) ∧ (Kd.R (Kd.int .i64) 3 w' w.heap.size (fun k_ => some k_ ≠ (s_.1 : Value).ownBlock ∧ some k_ ≠ (s_.2.1 : Value).ownBlock ∧ some k_ ≠ (s_.2.2.1 : Value).ownBlock ∧ some k_ ≠ (u693001 : Value).ownBlock) u693000 zl) ∧ (Kd.R (Kd.int .i64) 3 w' w.heap.size (fun k_ => some k_ ≠ (s_.1 : Value).ownBlock ∧ some k_ ≠ (s_.2.1 : Value).ownBlock ∧ some k_ ≠ (s_.2.2.1 : Value).ownBlock ∧ some k_ ≠ (u693000 : Value).ownBlock) u693001 zm) ∧ (w'.heap[zg]? = some (.cells #[.slice A0_0 l0_0.length c0_0, .slice A0_1 l0_1.length c0_1] 27 (0, 0))) ∧ (w'.heap[zi]? = some (.cells #[.slice none 0 0, .slice none 0 0] 27 (0, 0))) ∧ (w'.heap[zh]? = some (.cells #[u693000, u693001] 27 (0, 0))) ∧ (w'.heap[s_.2.2.2]? = some (.cells #[.slice none 0 0, .slice none 0 0] 27 (0, 0))) ∧ (w.heap.size ≤ s_.2.2.2) ∧ (w.heap.size ≤ s_.2.2.2) ∧ (zg ≠ s_.2.2.2) ∧ (s_.2.2.2 ≠ zg) ∧ (zi ≠ s_.2.2.2) ∧ (s_.2.2.2 ≠ zi) ∧ (zh ≠ s_.2.2.2) ∧ (s_.2.2.2 ≠ zh) ∧ (Below w.heap.size w w')) ?_ ?_
     rotate_left
     ·intro hCont
      refine two_ (i := 3) (j := 5) (Ni := some 20) (Nj := some 5) #[true, true, true, true, false, false, false] #[true, true, true, false, false, true, false] rfl rfl rfl rfl (by kernel_rfl) (by decide) (by decide) (fun K hK => ?_) (fun K hK => ?_)
      ·skip
       refine goes_ Try.func62 (by kernel_rfl) rfl #[.agg #[.slice A0_0 l0_0.length c0_0, .slice A0_1 l0_1.length c0_1], .int .i64 x4_1] (by rfl) rfl rfl (by (try simp only [List.map_toArray, List.map_cons, List.map_nil]); first | done | rfl | (simp only [List.length_drop, List.length_take]; rfl)) ?_
       with_reducible refine (spec_l03Names.calls k1 _ _ l0_0 _ _ l0_1 x4_1 t693 _ ?side1 ?side2 ?side3 ?side4 A17.out).mono ?_
       (case side1 => repeat (first | exact (Kd.C_below zD.out HB.out) | (with_reducible refine Kd.C_alloc ?_ _) | (with_reducible refine Kd.C_drewN ?_ _) | (with_reducible refine Kd.C_drew ?_)))
       (case side2 => exact zE.out)
       (case side3 => repeat (first | exact (Kd.C_below zF.out HB.out) | (with_reducible refine Kd.C_alloc ?_ _) | (with_reducible refine Kd.C_drewN ?_ _) | (with_reducible refine Kd.C_drew ?_)))
       (case side4 => exact zG.out)
       rintro e w49 ⟨v694, rfl, ho0, hb⟩
       refine ⟨_, rfl, ?_⟩
       have n0_ := Aside0.mk (Kd.R_elder' (zb.out) (Kd.R_base ho0) hb)
       have n1_ := Aside0.mk (Kd.R_elder' (zc.out) (Kd.R_base ho0) hb)
       have n2_ := Aside0.mk (Kd.R_lower (Kd.R_new' (Kd.R_new' ho0 (Kd.R_lt (zb.out))) (Kd.R_lt (zc.out))) (below_size (HB.out)))
       have n3_ := Aside0.mk (blk_below (g := zg) (o := .cells #[.slice A0_0 l0_0.length c0_0, .slice A0_1 l0_1.length c0_1] 27 (0, 0)) (za.out) hb)
       have n4_ := Aside0.mk (blk_below (g := zi) (o := .cells #[.slice none 0 0, .slice none 0 0] 27 (0, 0)) (ze.out) hb)
       have n5_ := Aside0.mk (blk_below (g := zh) (o := .cells #[u693000, u693001] 27 (0, 0)) (zf.out) hb)
       have n6_ := Aside0.mk (below_step (HB.out) hb)
       clear zb
       clear zc
       clear za
       clear ze
       clear zf
       clear HB
       have zb := n0_
       have zc := n1_
       have zj := n2_
       have za := n3_
       have ze := n4_
       have zf := n5_
       have HB := n6_
       clear n0_ n1_ n2_ n3_ n4_ n5_ n6_
       (try clear hb)
       (try clear hb2)
       (try clear hk)
       (try clear hi)
       (try clear ho0)
       obtain ⟨zy1, zz1, eo50⟩ := Kd.R_slice zj.out
       (first | subst eo50 | (injection eo50 with f1_ f2_ f3_; have f4_ := f1_.symm; have f5_ := f3_.symm; clear f1_ f2_ f3_; subst f4_; subst f5_))
       refine hK.out _ _ ⟨(blk_cell za.out 0).trans rfl, (blk_cell za.out 1).trans rfl⟩ (fun hHeld => ?_)
       clear hK K
       refine norm_ (a' := ?_) ?_ ?_
       rotate_left
       ·show Act.put _ (some 20) _ = _
        simp only [Act.put, List.setIfInBounds_toArray, List.set_cons_zero, List.set_cons_succ, i64_w, i32_w]
        rfl
       refine two_ (i := 4) (j := 5) (Ni := some 21) (Nj := some 5) #[true, true, true, true, true, false, false] #[true, true, true, true, false, true, false] rfl rfl rfl rfl (by kernel_rfl) (by decide) (by decide) (fun K hK => ?_) (fun K hK => ?_)
       ·skip
        refine goes_ Try.func61 (by kernel_rfl) rfl #[.agg #[.slice A0_0 l0_0.length c0_0, .slice A0_1 l0_1.length c0_1], .slice zy1 t693.length zz1] (by rfl) rfl rfl (by (try simp only [List.map_toArray, List.map_cons, List.map_nil]); first | done | rfl | (simp only [List.length_drop, List.length_take]; rfl)) ?_
        with_reducible refine (spec_l03Rename.calls k1 _ _ l0_0 _ _ l0_1 _ _ t693 t696 t699 _ ?side1 ?side2 ?side3 ?side4 ?side5 ?side6 A18.out).mono ?_
        (case side1 => repeat (first | exact (Kd.C_below zD.out HB.out) | (with_reducible refine Kd.C_alloc ?_ _) | (with_reducible refine Kd.C_drewN ?_ _) | (with_reducible refine Kd.C_drew ?_)))
        (case side2 => exact zE.out)
        (case side3 => repeat (first | exact (Kd.C_below zF.out HB.out) | (with_reducible refine Kd.C_alloc ?_ _) | (with_reducible refine Kd.C_drewN ?_ _) | (with_reducible refine Kd.C_drew ?_)))
        (case side4 => exact zG.out)
        (case side5 => repeat (first | exact (Kd.R_reads' zj.out).2.2 | (with_reducible refine Kd.C_alloc ?_ _) | (with_reducible refine Kd.C_drewN ?_ _) | (with_reducible refine Kd.C_drew ?_)))
        (case side6 => exact (Kd.R_reads' zj.out).2.1)
        rintro e w51 ⟨v697, v700, rfl, ho0, ho1, hb⟩
        refine ⟨_, rfl, ?_⟩
        have n0_ := Aside0.mk (Kd.R_mono (Kd.R_told (Kd.R_told (Kd.R_old (zb.out) hb) (Kd.R_base ho0)) (Kd.R_base ho1)) (fun _ h_ => h_.1))
        have n1_ := Aside0.mk (Kd.R_mono (Kd.R_told (Kd.R_told (Kd.R_old (zc.out) hb) (Kd.R_base ho0)) (Kd.R_base ho1)) (fun _ h_ => h_.1))
        have n2_ := Aside0.mk (Kd.R_mono (Kd.R_told (Kd.R_told (Kd.R_old (zj.out) hb) (Kd.R_base ho0)) (Kd.R_base ho1)) (fun _ h_ => h_.1))
        have n3_ := Aside0.mk (Kd.R_lower (Kd.R_new' (Kd.R_new' (Kd.R_new' ho0 (Kd.R_lt (zb.out))) (Kd.R_lt (zc.out))) (Kd.R_lt (zj.out))) (below_size (HB.out)))
        have n4_ := Aside0.mk (Kd.R_lower (Kd.R_new' (Kd.R_new' (Kd.R_new' ho1 (Kd.R_lt (zb.out))) (Kd.R_lt (zc.out))) (Kd.R_lt (zj.out))) (below_size (HB.out)))
        have n5_ := Aside0.mk (blk_below (g := zg) (o := .cells #[.slice A0_0 l0_0.length c0_0, .slice A0_1 l0_1.length c0_1] 27 (0, 0)) (za.out) hb)
        have n6_ := Aside0.mk (blk_below (g := zi) (o := .cells #[.slice none 0 0, .slice none 0 0] 27 (0, 0)) (ze.out) hb)
        have n7_ := Aside0.mk (blk_below (g := zh) (o := .cells #[u693000, u693001] 27 (0, 0)) (zf.out) hb)
        have n8_ := Aside0.mk (below_step (HB.out) hb)
        clear zb
        clear zc
        clear zj
        clear za
        clear ze
        clear zf
        clear HB
        have zb := n0_
        have zc := n1_
        have zj := n2_
        have zv := n3_
        have zw := n4_
        have za := n5_
        have ze := n6_
        have zf := n7_
        have HB := n8_
        clear n0_ n1_ n2_ n3_ n4_ n5_ n6_ n7_ n8_
        (try clear hb)
        (try clear hb2)
        (try clear hk)
        (try clear hi)
        (try clear ho0)
        (try clear ho1)
        refine hK.out _ _ ⟨(blk_cell za.out 0).trans rfl, (blk_cell za.out 1).trans rfl⟩ (fun hHeld => ?_)
        clear hK K
        refine norm_ (a' := ?_) ?_ ?_
        rotate_left
        ·show Act.put _ (some 21) _ = _
         simp only [Act.put, List.setIfInBounds_toArray, List.set_cons_zero, List.set_cons_succ, i64_w, i32_w]
         rfl
        refine one_ (i := 5) (N := some 5) #[true, true, true, true, true, true, false] rfl rfl (by kernel_rfl) (by decide) (fun K hK => ?_)
        refine box_step ?hg (N := 5) ?hd (cs := #[.slice none 0 0, .slice none 0 0]) (t := 27) ?hr ?_; (case hd => rfl); (case hg => rfl); (case hr => first | (go_simp; done) | (go_simp; rfl))
        intro zd hg w52 hbox hb
        have n0_ := Aside0.mk (Kd.R_below (zb.out) hb)
        have n1_ := Aside0.mk (Kd.R_below (zc.out) hb)
        have n2_ := Aside0.mk (Kd.R_below (zj.out) hb)
        have n3_ := Aside0.mk (Kd.R_below (zv.out) hb)
        have n4_ := Aside0.mk (Kd.R_below (zw.out) hb)
        have n5_ := Aside0.mk (blk_below (g := zg) (o := .cells #[.slice A0_0 l0_0.length c0_0, .slice A0_1 l0_1.length c0_1] 27 (0, 0)) (za.out) hb)
        have n6_ := Aside0.mk (blk_below (g := zi) (o := .cells #[.slice none 0 0, .slice none 0 0] 27 (0, 0)) (ze.out) hb)
        have n7_ := Aside0.mk (blk_below (g := zh) (o := .cells #[u693000, u693001] 27 (0, 0)) (zf.out) hb)
        have n8_ := Aside0.mk (below_step (HB.out) hb)
        have n9_ := Aside0.mk (hbox)
        have n10_ := Aside0.mk ((by rw [hg]; exact (below_size (HB.out)) : w.heap.size ≤ zd))
        have n11_ := Aside0.mk ((by rw [hg]; exact (below_size (HB.out)) : w.heap.size ≤ zd))
        have n12_ := Aside0.mk ((by rw [hg]; exact Nat.ne_of_lt (blk_lt (g := zg) (o := .cells #[.slice A0_0 l0_0.length c0_0, .slice A0_1 l0_1.length c0_1] 27 (0, 0)) (za.out)) : zg ≠ zd))
        have n13_ := Aside0.mk ((by rw [hg]; exact Nat.ne_of_gt (blk_lt (g := zg) (o := .cells #[.slice A0_0 l0_0.length c0_0, .slice A0_1 l0_1.length c0_1] 27 (0, 0)) (za.out)) : zd ≠ zg))
        have n14_ := Aside0.mk ((by rw [hg]; exact Nat.ne_of_lt (blk_lt (g := zi) (o := .cells #[.slice none 0 0, .slice none 0 0] 27 (0, 0)) (ze.out)) : zi ≠ zd))
        have n15_ := Aside0.mk ((by rw [hg]; exact Nat.ne_of_gt (blk_lt (g := zi) (o := .cells #[.slice none 0 0, .slice none 0 0] 27 (0, 0)) (ze.out)) : zd ≠ zi))
        have n16_ := Aside0.mk ((by rw [hg]; exact Nat.ne_of_lt (blk_lt (g := zh) (o := .cells #[u693000, u693001] 27 (0, 0)) (zf.out)) : zh ≠ zd))
        have n17_ := Aside0.mk ((by rw [hg]; exact Nat.ne_of_gt (blk_lt (g := zh) (o := .cells #[u693000, u693001] 27 (0, 0)) (zf.out)) : zd ≠ zh))
        clear zb
        clear zc
        clear zj
        clear zv
        clear zw
        clear za
        clear ze
        clear zf
        clear HB
        have zb := n0_
        have zc := n1_
        have zj := n2_
        have zv := n3_
        have zw := n4_
        have za := n5_
        have ze := n6_
        have zf := n7_
        have HB := n8_
        have zk := n9_
        have zJ := n10_
        have zB := n11_
        have zn := n12_
        have zs := n13_
        have zo := n14_
        have zt := n15_
        have zp := n16_
        have zu := n17_
        clear n0_ n1_ n2_ n3_ n4_ n5_ n6_ n7_ n8_ n9_ n10_ n11_ n12_ n13_ n14_ n15_ n16_ n17_
        clear hb hbox hg
        refine hK.out _ _ ⟨(blk_cell za.out 0).trans rfl, (blk_cell za.out 1).trans rfl⟩ (fun hHeld => ?_)
        clear hK K
        refine norm_ (a' := ?_) ?_ ?_
        rotate_left
        ·show Act.put _ (some 5) _ = _
         simp only [Act.put, List.setIfInBounds_toArray, List.set_cons_zero, List.set_cons_succ, i64_w, i32_w]
         rfl
        exact norm_ (by simp only [putAll, Act.put, List.setIfInBounds_toArray, List.set_cons_zero, List.set_cons_succ]) (hCont (.slice zy1 t693.length zz1, v697, v700, zd) _ ⟨hHeld, (Kd.R_mono zj.out (fun _ hk => ⟨hk.1.2, ⟨hk.2, ⟨hk.1.1.1.2, hk.1.1.2⟩⟩⟩)), (Kd.R_mono zv.out (fun _ hk => ⟨hk.2, ⟨hk.1.1.1, ⟨hk.1.1.2, hk.1.2⟩⟩⟩)), (Kd.R_mono zw.out (fun _ hk => ⟨hk.2, ⟨hk.1.1.1, ⟨hk.1.1.2, hk.1.2⟩⟩⟩)), (Kd.R_mono zb.out (fun _ hk => ⟨hk.1.1.2, ⟨hk.1.2, ⟨hk.2, hk.1.1.1⟩⟩⟩)), (Kd.R_mono zc.out (fun _ hk => ⟨hk.1.1.2, ⟨hk.1.2, ⟨hk.2, hk.1.1.1⟩⟩⟩)), (za.out), (ze.out), (zf.out), (zk.out), zJ.out, zB.out, zn.out, zs.out, zo.out, zt.out, zp.out, zu.out, (HB.out)⟩)
       ·skip
        refine box_step ?hg (N := 5) ?hd (cs := #[.slice none 0 0, .slice none 0 0]) (t := 27) ?hr ?_; (case hd => rfl); (case hg => rfl); (case hr => first | (go_simp; done) | (go_simp; rfl))
        intro zd hg w50 hbox hb
        have n0_ := Aside0.mk (Kd.R_below (zb.out) hb)
        have n1_ := Aside0.mk (Kd.R_below (zc.out) hb)
        have n2_ := Aside0.mk (Kd.R_below (zj.out) hb)
        have n3_ := Aside0.mk (blk_below (g := zg) (o := .cells #[.slice A0_0 l0_0.length c0_0, .slice A0_1 l0_1.length c0_1] 27 (0, 0)) (za.out) hb)
        have n4_ := Aside0.mk (blk_below (g := zi) (o := .cells #[.slice none 0 0, .slice none 0 0] 27 (0, 0)) (ze.out) hb)
        have n5_ := Aside0.mk (blk_below (g := zh) (o := .cells #[u693000, u693001] 27 (0, 0)) (zf.out) hb)
        have n6_ := Aside0.mk (below_step (HB.out) hb)
        have n7_ := Aside0.mk (hbox)
        have n8_ := Aside0.mk ((by rw [hg]; exact (below_size (HB.out)) : w.heap.size ≤ zd))
        have n9_ := Aside0.mk ((by rw [hg]; exact (below_size (HB.out)) : w.heap.size ≤ zd))
        have n10_ := Aside0.mk ((by rw [hg]; exact Nat.ne_of_lt (blk_lt (g := zg) (o := .cells #[.slice A0_0 l0_0.length c0_0, .slice A0_1 l0_1.length c0_1] 27 (0, 0)) (za.out)) : zg ≠ zd))
        have n11_ := Aside0.mk ((by rw [hg]; exact Nat.ne_of_gt (blk_lt (g := zg) (o := .cells #[.slice A0_0 l0_0.length c0_0, .slice A0_1 l0_1.length c0_1] 27 (0, 0)) (za.out)) : zd ≠ zg))
        have n12_ := Aside0.mk ((by rw [hg]; exact Nat.ne_of_lt (blk_lt (g := zi) (o := .cells #[.slice none 0 0, .slice none 0 0] 27 (0, 0)) (ze.out)) : zi ≠ zd))
        have n13_ := Aside0.mk ((by rw [hg]; exact Nat.ne_of_gt (blk_lt (g := zi) (o := .cells #[.slice none 0 0, .slice none 0 0] 27 (0, 0)) (ze.out)) : zd ≠ zi))
        have n14_ := Aside0.mk ((by rw [hg]; exact Nat.ne_of_lt (blk_lt (g := zh) (o := .cells #[u693000, u693001] 27 (0, 0)) (zf.out)) : zh ≠ zd))
        have n15_ := Aside0.mk ((by rw [hg]; exact Nat.ne_of_gt (blk_lt (g := zh) (o := .cells #[u693000, u693001] 27 (0, 0)) (zf.out)) : zd ≠ zh))
        clear zb
        clear zc
        clear zj
        clear za
        clear ze
        clear zf
        clear HB
        have zb := n0_
        have zc := n1_
        have zj := n2_
        have za := n3_
        have ze := n4_
        have zf := n5_
        have HB := n6_
        have zk := n7_
        have zJ := n8_
        have zB := n9_
        have zn := n10_
        have zs := n11_
        have zo := n12_
        have zt := n13_
        have zp := n14_
        have zu := n15_
        clear n0_ n1_ n2_ n3_ n4_ n5_ n6_ n7_ n8_ n9_ n10_ n11_ n12_ n13_ n14_ n15_
        clear hb hbox hg
        obtain ⟨zm1, zn1, eo51⟩ := Kd.R_slice zj.out
        (first | subst eo51 | (injection eo51 with f1_ f2_ f3_; have f4_ := f1_.symm; have f5_ := f3_.symm; clear f1_ f2_ f3_; subst f4_; subst f5_))
        refine hK.out _ _ ⟨(blk_cell za.out 0).trans rfl, (blk_cell za.out 1).trans rfl⟩ (fun hHeld => ?_)
        clear hK K
        refine norm_ (a' := ?_) ?_ ?_
        rotate_left
        ·show Act.put _ (some 5) _ = _
         simp only [Act.put, List.setIfInBounds_toArray, List.set_cons_zero, List.set_cons_succ, i64_w, i32_w]
         rfl
        refine one_ (i := 4) (N := some 21) #[true, true, true, true, true, true, false] rfl rfl (by kernel_rfl) (by decide) (fun K hK => ?_)
        refine goes_ Try.func61 (by kernel_rfl) rfl #[.agg #[.slice A0_0 l0_0.length c0_0, .slice A0_1 l0_1.length c0_1], .slice zm1 t693.length zn1] (by rfl) rfl rfl (by (try simp only [List.map_toArray, List.map_cons, List.map_nil]); first | done | rfl | (simp only [List.length_drop, List.length_take]; rfl)) ?_
        with_reducible refine (spec_l03Rename.calls k1 _ _ l0_0 _ _ l0_1 _ _ t693 t696 t699 _ ?side1 ?side2 ?side3 ?side4 ?side5 ?side6 A18.out).mono ?_
        (case side1 => repeat (first | exact (Kd.C_below zD.out HB.out) | (with_reducible refine Kd.C_alloc ?_ _) | (with_reducible refine Kd.C_drewN ?_ _) | (with_reducible refine Kd.C_drew ?_)))
        (case side2 => exact zE.out)
        (case side3 => repeat (first | exact (Kd.C_below zF.out HB.out) | (with_reducible refine Kd.C_alloc ?_ _) | (with_reducible refine Kd.C_drewN ?_ _) | (with_reducible refine Kd.C_drew ?_)))
        (case side4 => exact zG.out)
        (case side5 => repeat (first | exact (Kd.R_reads' zj.out).2.2 | (with_reducible refine Kd.C_alloc ?_ _) | (with_reducible refine Kd.C_drewN ?_ _) | (with_reducible refine Kd.C_drew ?_)))
        (case side6 => exact (Kd.R_reads' zj.out).2.1)
        rintro e w52 ⟨v697, v700, rfl, ho0, ho1, hb⟩
        refine ⟨_, rfl, ?_⟩
        have n0_ := Aside0.mk (Kd.R_mono (Kd.R_told (Kd.R_told (Kd.R_old (zb.out) hb) (Kd.R_base ho0)) (Kd.R_base ho1)) (fun _ h_ => h_.1))
        have n1_ := Aside0.mk (Kd.R_mono (Kd.R_told (Kd.R_told (Kd.R_old (zc.out) hb) (Kd.R_base ho0)) (Kd.R_base ho1)) (fun _ h_ => h_.1))
        have n2_ := Aside0.mk (Kd.R_mono (Kd.R_told (Kd.R_told (Kd.R_old (zj.out) hb) (Kd.R_base ho0)) (Kd.R_base ho1)) (fun _ h_ => h_.1))
        have n3_ := Aside0.mk (Kd.R_lower (Kd.R_new' (Kd.R_new' (Kd.R_new' ho0 (Kd.R_lt (zb.out))) (Kd.R_lt (zc.out))) (Kd.R_lt (zj.out))) (below_size (HB.out)))
        have n4_ := Aside0.mk (Kd.R_lower (Kd.R_new' (Kd.R_new' (Kd.R_new' ho1 (Kd.R_lt (zb.out))) (Kd.R_lt (zc.out))) (Kd.R_lt (zj.out))) (below_size (HB.out)))
        have n5_ := Aside0.mk (blk_below (g := zg) (o := .cells #[.slice A0_0 l0_0.length c0_0, .slice A0_1 l0_1.length c0_1] 27 (0, 0)) (za.out) hb)
        have n6_ := Aside0.mk (blk_below (g := zi) (o := .cells #[.slice none 0 0, .slice none 0 0] 27 (0, 0)) (ze.out) hb)
        have n7_ := Aside0.mk (blk_below (g := zh) (o := .cells #[u693000, u693001] 27 (0, 0)) (zf.out) hb)
        have n8_ := Aside0.mk (blk_below (g := zd) (o := .cells #[.slice none 0 0, .slice none 0 0] 27 (0, 0)) (zk.out) hb)
        have n9_ := Aside0.mk (below_step (HB.out) hb)
        clear zb
        clear zc
        clear zj
        clear za
        clear ze
        clear zf
        clear zk
        clear HB
        have zb := n0_
        have zc := n1_
        have zj := n2_
        have zv := n3_
        have zw := n4_
        have za := n5_
        have ze := n6_
        have zf := n7_
        have zk := n8_
        have HB := n9_
        clear n0_ n1_ n2_ n3_ n4_ n5_ n6_ n7_ n8_ n9_
        (try clear hb)
        (try clear hb2)
        (try clear hk)
        (try clear hi)
        (try clear ho0)
        (try clear ho1)
        refine hK.out _ _ ⟨(blk_cell za.out 0).trans rfl, (blk_cell za.out 1).trans rfl⟩ (fun hHeld => ?_)
        clear hK K
        refine norm_ (a' := ?_) ?_ ?_
        rotate_left
        ·show Act.put _ (some 21) _ = _
         simp only [Act.put, List.setIfInBounds_toArray, List.set_cons_zero, List.set_cons_succ, i64_w, i32_w]
         rfl
        exact norm_ (by simp only [putAll, Act.put, List.setIfInBounds_toArray, List.set_cons_zero, List.set_cons_succ]) (hCont (.slice zm1 t693.length zn1, v697, v700, zd) _ ⟨hHeld, (Kd.R_mono zj.out (fun _ hk => ⟨hk.1.2, ⟨hk.2, ⟨hk.1.1.1.2, hk.1.1.2⟩⟩⟩)), (Kd.R_mono zv.out (fun _ hk => ⟨hk.2, ⟨hk.1.1.1, ⟨hk.1.1.2, hk.1.2⟩⟩⟩)), (Kd.R_mono zw.out (fun _ hk => ⟨hk.2, ⟨hk.1.1.1, ⟨hk.1.1.2, hk.1.2⟩⟩⟩)), (Kd.R_mono zb.out (fun _ hk => ⟨hk.1.1.2, ⟨hk.1.2, ⟨hk.2, hk.1.1.1⟩⟩⟩)), (Kd.R_mono zc.out (fun _ hk => ⟨hk.1.1.2, ⟨hk.1.2, ⟨hk.2, hk.1.1.1⟩⟩⟩)), (za.out), (ze.out), (zf.out), (zk.out), zJ.out, zB.out, zn.out, zs.out, zo.out, zt.out, zp.out, zu.out, (HB.out)⟩)
      ·skip
       refine box_step ?hg (N := 5) ?hd (cs := #[.slice none 0 0, .slice none 0 0]) (t := 27) ?hr ?_; (case hd => rfl); (case hg => rfl); (case hr => first | (go_simp; done) | (go_simp; rfl))
       intro zd hg w49 hbox hb
       have n0_ := Aside0.mk (Kd.R_below (zb.out) hb)
       have n1_ := Aside0.mk (Kd.R_below (zc.out) hb)
       have n2_ := Aside0.mk (blk_below (g := zg) (o := .cells #[.slice A0_0 l0_0.length c0_0, .slice A0_1 l0_1.length c0_1] 27 (0, 0)) (za.out) hb)
       have n3_ := Aside0.mk (blk_below (g := zi) (o := .cells #[.slice none 0 0, .slice none 0 0] 27 (0, 0)) (ze.out) hb)
       have n4_ := Aside0.mk (blk_below (g := zh) (o := .cells #[u693000, u693001] 27 (0, 0)) (zf.out) hb)
       have n5_ := Aside0.mk (below_step (HB.out) hb)
       have n6_ := Aside0.mk (hbox)
       have n7_ := Aside0.mk ((by rw [hg]; exact (below_size (HB.out)) : w.heap.size ≤ zd))
       have n8_ := Aside0.mk ((by rw [hg]; exact (below_size (HB.out)) : w.heap.size ≤ zd))
       have n9_ := Aside0.mk ((by rw [hg]; exact Nat.ne_of_lt (blk_lt (g := zg) (o := .cells #[.slice A0_0 l0_0.length c0_0, .slice A0_1 l0_1.length c0_1] 27 (0, 0)) (za.out)) : zg ≠ zd))
       have n10_ := Aside0.mk ((by rw [hg]; exact Nat.ne_of_gt (blk_lt (g := zg) (o := .cells #[.slice A0_0 l0_0.length c0_0, .slice A0_1 l0_1.length c0_1] 27 (0, 0)) (za.out)) : zd ≠ zg))
       have n11_ := Aside0.mk ((by rw [hg]; exact Nat.ne_of_lt (blk_lt (g := zi) (o := .cells #[.slice none 0 0, .slice none 0 0] 27 (0, 0)) (ze.out)) : zi ≠ zd))
       have n12_ := Aside0.mk ((by rw [hg]; exact Nat.ne_of_gt (blk_lt (g := zi) (o := .cells #[.slice none 0 0, .slice none 0 0] 27 (0, 0)) (ze.out)) : zd ≠ zi))
       have n13_ := Aside0.mk ((by rw [hg]; exact Nat.ne_of_lt (blk_lt (g := zh) (o := .cells #[u693000, u693001] 27 (0, 0)) (zf.out)) : zh ≠ zd))
       have n14_ := Aside0.mk ((by rw [hg]; exact Nat.ne_of_gt (blk_lt (g := zh) (o := .cells #[u693000, u693001] 27 (0, 0)) (zf.out)) : zd ≠ zh))
       clear zb
       clear zc
       clear za
       clear ze
       clear zf
       clear HB
       have zb := n0_
       have zc := n1_
       have za := n2_
       have ze := n3_
       have zf := n4_
       have HB := n5_
       have zk := n6_
       have zJ := n7_
       have zB := n8_
       have zn := n9_
       have zs := n10_
       have zo := n11_
       have zt := n12_
       have zp := n13_
       have zu := n14_
       clear n0_ n1_ n2_ n3_ n4_ n5_ n6_ n7_ n8_ n9_ n10_ n11_ n12_ n13_ n14_
       clear hb hbox hg
       refine hK.out _ _ ⟨(blk_cell za.out 0).trans rfl, (blk_cell za.out 1).trans rfl⟩ (fun hHeld => ?_)
       clear hK K
       refine norm_ (a' := ?_) ?_ ?_
       rotate_left
       ·show Act.put _ (some 5) _ = _
        simp only [Act.put, List.setIfInBounds_toArray, List.set_cons_zero, List.set_cons_succ, i64_w, i32_w]
        rfl
       refine one_ (i := 3) (N := some 20) #[true, true, true, true, false, true, false] rfl rfl (by kernel_rfl) (by decide) (fun K hK => ?_)
       refine goes_ Try.func62 (by kernel_rfl) rfl #[.agg #[.slice A0_0 l0_0.length c0_0, .slice A0_1 l0_1.length c0_1], .int .i64 x4_1] (by rfl) rfl rfl (by (try simp only [List.map_toArray, List.map_cons, List.map_nil]); first | done | rfl | (simp only [List.length_drop, List.length_take]; rfl)) ?_
       with_reducible refine (spec_l03Names.calls k1 _ _ l0_0 _ _ l0_1 x4_1 t693 _ ?side1 ?side2 ?side3 ?side4 A17.out).mono ?_
       (case side1 => repeat (first | exact (Kd.C_below zD.out HB.out) | (with_reducible refine Kd.C_alloc ?_ _) | (with_reducible refine Kd.C_drewN ?_ _) | (with_reducible refine Kd.C_drew ?_)))
       (case side2 => exact zE.out)
       (case side3 => repeat (first | exact (Kd.C_below zF.out HB.out) | (with_reducible refine Kd.C_alloc ?_ _) | (with_reducible refine Kd.C_drewN ?_ _) | (with_reducible refine Kd.C_drew ?_)))
       (case side4 => exact zG.out)
       rintro e w50 ⟨v694, rfl, ho0, hb⟩
       refine ⟨_, rfl, ?_⟩
       have n0_ := Aside0.mk (Kd.R_elder' (zb.out) (Kd.R_base ho0) hb)
       have n1_ := Aside0.mk (Kd.R_elder' (zc.out) (Kd.R_base ho0) hb)
       have n2_ := Aside0.mk (Kd.R_lower (Kd.R_new' (Kd.R_new' ho0 (Kd.R_lt (zb.out))) (Kd.R_lt (zc.out))) (below_size (HB.out)))
       have n3_ := Aside0.mk (blk_below (g := zg) (o := .cells #[.slice A0_0 l0_0.length c0_0, .slice A0_1 l0_1.length c0_1] 27 (0, 0)) (za.out) hb)
       have n4_ := Aside0.mk (blk_below (g := zi) (o := .cells #[.slice none 0 0, .slice none 0 0] 27 (0, 0)) (ze.out) hb)
       have n5_ := Aside0.mk (blk_below (g := zh) (o := .cells #[u693000, u693001] 27 (0, 0)) (zf.out) hb)
       have n6_ := Aside0.mk (blk_below (g := zd) (o := .cells #[.slice none 0 0, .slice none 0 0] 27 (0, 0)) (zk.out) hb)
       have n7_ := Aside0.mk (below_step (HB.out) hb)
       clear zb
       clear zc
       clear za
       clear ze
       clear zf
       clear zk
       clear HB
       have zb := n0_
       have zc := n1_
       have zj := n2_
       have za := n3_
       have ze := n4_
       have zf := n5_
       have zk := n6_
       have HB := n7_
       clear n0_ n1_ n2_ n3_ n4_ n5_ n6_ n7_
       (try clear hb)
       (try clear hb2)
       (try clear hk)
       (try clear hi)
       (try clear ho0)
       obtain ⟨zm1, zn1, eo51⟩ := Kd.R_slice zj.out
       (first | subst eo51 | (injection eo51 with f1_ f2_ f3_; have f4_ := f1_.symm; have f5_ := f3_.symm; clear f1_ f2_ f3_; subst f4_; subst f5_))
       refine hK.out _ _ ⟨(blk_cell za.out 0).trans rfl, (blk_cell za.out 1).trans rfl⟩ (fun hHeld => ?_)
       clear hK K
       refine norm_ (a' := ?_) ?_ ?_
       rotate_left
       ·show Act.put _ (some 20) _ = _
        simp only [Act.put, List.setIfInBounds_toArray, List.set_cons_zero, List.set_cons_succ, i64_w, i32_w]
        rfl
       refine one_ (i := 4) (N := some 21) #[true, true, true, true, true, true, false] rfl rfl (by kernel_rfl) (by decide) (fun K hK => ?_)
       refine goes_ Try.func61 (by kernel_rfl) rfl #[.agg #[.slice A0_0 l0_0.length c0_0, .slice A0_1 l0_1.length c0_1], .slice zm1 t693.length zn1] (by rfl) rfl rfl (by (try simp only [List.map_toArray, List.map_cons, List.map_nil]); first | done | rfl | (simp only [List.length_drop, List.length_take]; rfl)) ?_
       with_reducible refine (spec_l03Rename.calls k1 _ _ l0_0 _ _ l0_1 _ _ t693 t696 t699 _ ?side1 ?side2 ?side3 ?side4 ?side5 ?side6 A18.out).mono ?_
       (case side1 => repeat (first | exact (Kd.C_below zD.out HB.out) | (with_reducible refine Kd.C_alloc ?_ _) | (with_reducible refine Kd.C_drewN ?_ _) | (with_reducible refine Kd.C_drew ?_)))
       (case side2 => exact zE.out)
       (case side3 => repeat (first | exact (Kd.C_below zF.out HB.out) | (with_reducible refine Kd.C_alloc ?_ _) | (with_reducible refine Kd.C_drewN ?_ _) | (with_reducible refine Kd.C_drew ?_)))
       (case side4 => exact zG.out)
       (case side5 => repeat (first | exact (Kd.R_reads' zj.out).2.2 | (with_reducible refine Kd.C_alloc ?_ _) | (with_reducible refine Kd.C_drewN ?_ _) | (with_reducible refine Kd.C_drew ?_)))
       (case side6 => exact (Kd.R_reads' zj.out).2.1)
       rintro e w52 ⟨v697, v700, rfl, ho0, ho1, hb⟩
       refine ⟨_, rfl, ?_⟩
       have n0_ := Aside0.mk (Kd.R_mono (Kd.R_told (Kd.R_told (Kd.R_old (zb.out) hb) (Kd.R_base ho0)) (Kd.R_base ho1)) (fun _ h_ => h_.1))
       have n1_ := Aside0.mk (Kd.R_mono (Kd.R_told (Kd.R_told (Kd.R_old (zc.out) hb) (Kd.R_base ho0)) (Kd.R_base ho1)) (fun _ h_ => h_.1))
       have n2_ := Aside0.mk (Kd.R_mono (Kd.R_told (Kd.R_told (Kd.R_old (zj.out) hb) (Kd.R_base ho0)) (Kd.R_base ho1)) (fun _ h_ => h_.1))
       have n3_ := Aside0.mk (Kd.R_lower (Kd.R_new' (Kd.R_new' (Kd.R_new' ho0 (Kd.R_lt (zb.out))) (Kd.R_lt (zc.out))) (Kd.R_lt (zj.out))) (below_size (HB.out)))
       have n4_ := Aside0.mk (Kd.R_lower (Kd.R_new' (Kd.R_new' (Kd.R_new' ho1 (Kd.R_lt (zb.out))) (Kd.R_lt (zc.out))) (Kd.R_lt (zj.out))) (below_size (HB.out)))
       have n5_ := Aside0.mk (blk_below (g := zg) (o := .cells #[.slice A0_0 l0_0.length c0_0, .slice A0_1 l0_1.length c0_1] 27 (0, 0)) (za.out) hb)
       have n6_ := Aside0.mk (blk_below (g := zi) (o := .cells #[.slice none 0 0, .slice none 0 0] 27 (0, 0)) (ze.out) hb)
       have n7_ := Aside0.mk (blk_below (g := zh) (o := .cells #[u693000, u693001] 27 (0, 0)) (zf.out) hb)
       have n8_ := Aside0.mk (blk_below (g := zd) (o := .cells #[.slice none 0 0, .slice none 0 0] 27 (0, 0)) (zk.out) hb)
       have n9_ := Aside0.mk (below_step (HB.out) hb)
       clear zb
       clear zc
       clear zj
       clear za
       clear ze
       clear zf
       clear zk
       clear HB
       have zb := n0_
       have zc := n1_
       have zj := n2_
       have zv := n3_
       have zw := n4_
       have za := n5_
       have ze := n6_
       have zf := n7_
       have zk := n8_
       have HB := n9_
       clear n0_ n1_ n2_ n3_ n4_ n5_ n6_ n7_ n8_ n9_
       (try clear hb)
       (try clear hb2)
       (try clear hk)
       (try clear hi)
       (try clear ho0)
       (try clear ho1)
       refine hK.out _ _ ⟨(blk_cell za.out 0).trans rfl, (blk_cell za.out 1).trans rfl⟩ (fun hHeld => ?_)
       clear hK K
       refine norm_ (a' := ?_) ?_ ?_
       rotate_left
       ·show Act.put _ (some 21) _ = _
        simp only [Act.put, List.setIfInBounds_toArray, List.set_cons_zero, List.set_cons_succ, i64_w, i32_w]
        rfl
       exact norm_ (by simp only [putAll, Act.put, List.setIfInBounds_toArray, List.set_cons_zero, List.set_cons_succ]) (hCont (.slice zm1 t693.length zn1, v697, v700, zd) _ ⟨hHeld, (Kd.R_mono zj.out (fun _ hk => ⟨hk.1.2, ⟨hk.2, ⟨hk.1.1.1.2, hk.1.1.2⟩⟩⟩)), (Kd.R_mono zv.out (fun _ hk => ⟨hk.2, ⟨hk.1.1.1, ⟨hk.1.1.2, hk.1.2⟩⟩⟩)), (Kd.R_mono zw.out (fun _ hk => ⟨hk.2, ⟨hk.1.1.1, ⟨hk.1.1.2, hk.1.2⟩⟩⟩)), (Kd.R_mono zb.out (fun _ hk => ⟨hk.1.1.2, ⟨hk.1.2, ⟨hk.2, hk.1.1.1⟩⟩⟩)), (Kd.R_mono zc.out (fun _ hk => ⟨hk.1.1.2, ⟨hk.1.2, ⟨hk.2, hk.1.1.1⟩⟩⟩)), (za.out), (ze.out), (zf.out), (zk.out), zJ.out, zB.out, zn.out, zs.out, zo.out, zt.out, zp.out, zu.out, (HB.out)⟩)
     rintro ⟨v694, v697, v700, zd⟩ w53 ⟨hS_, h0_, h1_, h2_, h3_, h4_, h5_, h6_, h7_, h8_, h9_, h10_, h11_, h12_, h13_, h14_, h15_, h16_, h17_⟩
     have n0_ : Aside0 (Kd.R (Kd.int .i64) 3 w53 w.heap.size (fun k_ => some k_ ≠ (v697 : Value).ownBlock ∧ some k_ ≠ (v700 : Value).ownBlock ∧ some k_ ≠ (u693000 : Value).ownBlock ∧ some k_ ≠ (u693001 : Value).ownBlock) v694 t693) := ⟨h0_⟩
     have n1_ : Aside0 (Kd.R (Kd.int .i64) 3 w53 w.heap.size (fun k_ => some k_ ≠ (v694 : Value).ownBlock ∧ some k_ ≠ (v700 : Value).ownBlock ∧ some k_ ≠ (u693000 : Value).ownBlock ∧ some k_ ≠ (u693001 : Value).ownBlock) v697 t696) := ⟨h1_⟩
     have n2_ : Aside0 (Kd.R (Kd.int .i64) 3 w53 w.heap.size (fun k_ => some k_ ≠ (v694 : Value).ownBlock ∧ some k_ ≠ (v697 : Value).ownBlock ∧ some k_ ≠ (u693000 : Value).ownBlock ∧ some k_ ≠ (u693001 : Value).ownBlock) v700 t699) := ⟨h2_⟩
     have n3_ : Aside0 (Kd.R (Kd.int .i64) 3 w53 w.heap.size (fun k_ => some k_ ≠ (v694 : Value).ownBlock ∧ some k_ ≠ (v697 : Value).ownBlock ∧ some k_ ≠ (v700 : Value).ownBlock ∧ some k_ ≠ (u693001 : Value).ownBlock) u693000 zl) := ⟨h3_⟩
     have n4_ : Aside0 (Kd.R (Kd.int .i64) 3 w53 w.heap.size (fun k_ => some k_ ≠ (v694 : Value).ownBlock ∧ some k_ ≠ (v697 : Value).ownBlock ∧ some k_ ≠ (v700 : Value).ownBlock ∧ some k_ ≠ (u693000 : Value).ownBlock) u693001 zm) := ⟨h4_⟩
     have n5_ : Aside0 (w53.heap[zg]? = some (.cells #[.slice A0_0 l0_0.length c0_0, .slice A0_1 l0_1.length c0_1] 27 (0, 0))) := ⟨h5_⟩
     have n6_ : Aside0 (w53.heap[zi]? = some (.cells #[.slice none 0 0, .slice none 0 0] 27 (0, 0))) := ⟨h6_⟩
     have n7_ : Aside0 (w53.heap[zh]? = some (.cells #[u693000, u693001] 27 (0, 0))) := ⟨h7_⟩
     have n8_ : Aside0 (w53.heap[zd]? = some (.cells #[.slice none 0 0, .slice none 0 0] 27 (0, 0))) := ⟨h8_⟩
     have n9_ : Aside0 (w.heap.size ≤ zd) := ⟨h9_⟩
     have n10_ : Aside0 (w.heap.size ≤ zd) := ⟨h10_⟩
     have n11_ : Aside0 (zg ≠ zd) := ⟨h11_⟩
     have n12_ : Aside0 (zd ≠ zg) := ⟨h12_⟩
     have n13_ : Aside0 (zi ≠ zd) := ⟨h13_⟩
     have n14_ : Aside0 (zd ≠ zi) := ⟨h14_⟩
     have n15_ : Aside0 (zh ≠ zd) := ⟨h15_⟩
     have n16_ : Aside0 (zd ≠ zh) := ⟨h16_⟩
     have n17_ : Aside0 (Below w.heap.size w w53) := ⟨h17_⟩
     clear zb
     clear zc
     clear za
     clear ze
     clear zf
     clear HB
     clear h0_ h1_ h2_ h3_ h4_ h5_ h6_ h7_ h8_ h9_ h10_ h11_ h12_ h13_ h14_ h15_ h16_ h17_
     have zj := n0_
     have zv := n1_
     have zw := n2_
     have zb := n3_
     have zc := n4_
     have za := n5_
     have ze := n6_
     have zf := n7_
     have zk := n8_
     have zJ := n9_
     have zB := n10_
     have zn := n11_
     have zs := n12_
     have zo := n13_
     have zt := n14_
     have zp := n15_
     have zu := n16_
     have HB := n17_
     clear n0_ n1_ n2_ n3_ n4_ n5_ n6_ n7_ n8_ n9_ n10_ n11_ n12_ n13_ n14_ n15_ n16_ n17_
     have hHeld : w53.cell? ⟨zg, 0, none⟩ = some (.slice A0_0 l0_0.length c0_0) ∧ w53.cell? ⟨zg, 1, none⟩ = some (.slice A0_1 l0_1.length c0_1) := hS_
     obtain ⟨zL, zK, eo54⟩ := Kd.R_slice zv.out
     (first | subst eo54 | (injection eo54 with f1_ f2_ f3_; have f4_ := f1_.symm; have f5_ := f3_.symm; clear f1_ f2_ f3_; subst f4_; subst f5_))
     obtain ⟨zQ, zM, eo56⟩ := Kd.R_slice zw.out
     (first | subst eo56 | (injection eo56 with f1_ f2_ f3_; have f4_ := f1_.symm; have f5_ := f3_.symm; clear f1_ f2_ f3_; subst f4_; subst f5_))
     refine norm_ (a' := ?_) ?_ ?_
     rotate_left
     ·simp only [putAll, Act.put, List.setIfInBounds_toArray, List.set_cons_zero, List.set_cons_succ]
      rfl
     refine one_ (i := 6) (N := none) #[true, true, true, true, true, true, true] rfl rfl (by kernel_rfl) (by decide) (fun K hK => ?_)
     have hs55 : w53.cell? ⟨zd, 0, none⟩ = some (.slice none 0 0) := (blk_cell zk.out 0).trans rfl
     have hfs55 := blk_frozen zk.out 0
     have hns55_0 := zn.out
     have hns55_1 := zo.out
     have hns55_2 := zp.out
     have hms55_0 := zs.out
     have hms55_1 := zt.out
     have hms55_2 := zu.out
     have hs57 : w53.cell? ⟨zd, 1, none⟩ = some (.slice none 0 0) := (blk_cell zk.out 1).trans rfl
     have hfs57 := blk_frozen zk.out 1
     have hns57_0 := zn.out
     have hns57_1 := zo.out
     have hns57_2 := zp.out
     have hms57_0 := zs.out
     have hms57_1 := zt.out
     have hms57_2 := zu.out
     refine skip_ (w1 := ?_) (by rfl) rfl ?_ ?_
     rotate_left
     ·go_simp
      rfl
     refine hK.out _ _ ⟨((cell_far (p := ⟨zd, _, none⟩) zn.out _).trans (((cell_far (p := ⟨zd, _, none⟩) zn.out _).trans (hHeld.1)))), ((cell_far (p := ⟨zd, _, none⟩) zn.out _).trans (((cell_far (p := ⟨zd, _, none⟩) zn.out _).trans (hHeld.2))))⟩ (fun hHeld => ?_)
     clear hK K
     refine done_ (by kernel_rfl) ?_
     have hnb58 := zs.out
     have hnc58 := zn.out
     have hnb59 := zt.out
     have hnc59 := zo.out
     have hnb60 := zu.out
     have hnc60 := zp.out
     have hcz61_0 : w53.cell? ⟨zd, 0, none⟩ = some (.slice none 0 0) := (blk_cell zk.out 0).trans rfl
     have hcz61_1 : w53.cell? ⟨zd, 1, none⟩ = some (.slice none 0 0) := (blk_cell zk.out 1).trans rfl
     have hfz61_0 := blk_frozen zk.out 0
     have hfz61_1 := blk_frozen zk.out 1
     have hnb62 := zz.out
     have hnc62 := zx.out
     have hcz63_0 : w53.cell? ⟨zh, 0, none⟩ = some (u693000) := (blk_cell zf.out 0).trans rfl
     have hcz63_1 : w53.cell? ⟨zh, 1, none⟩ = some (u693001) := (blk_cell zf.out 1).trans rfl
     have hfz63_0 := blk_frozen zf.out 0
     have hfz63_1 := blk_frozen zf.out 1
     obtain ⟨zi1, zc1, eo64⟩ := Kd.R_slice zb.out
     subst eo64
     obtain ⟨zj1, zd1, eo65⟩ := Kd.R_slice zc.out
     subst eo65
     try go_wp2_with (first | ((with_reducible refine gate_callee (f := 83) rfl ?_); refine goesL_ (some 24) rfl rfl Try.func83 (by kernel_rfl) rfl #[.agg #[.slice zL t696.length zK, .slice zQ t699.length zM], .agg #[.slice zi1 zl.length zc1, .slice zj1 zm.length zd1]] rfl (by (try simp only [List.map_toArray, List.map_cons, List.map_nil]); first | done | rfl | (simp only [List.length_drop, List.length_take]; rfl)) ?_; (with_reducible refine (spec_l03Before.calls k1 _ _ t696 _ _ t699 _ _ zl _ _ zm false _ ?side1 ?side2 ?side3 ?side4 ?side5 ?side6 ?side7 ?side8 A19.out).mono ?_); (case side1 => refine (Kd.R_reads' (e := 3) (base := w.heap.size) (ok := fun k_ => (some k_ ≠ (v694 : Value).ownBlock ∧ (some k_ ≠ (.slice zQ t699.length zM : Value).ownBlock ∧ (some k_ ≠ (.slice zi1 zl.length zc1 : Value).ownBlock ∧ some k_ ≠ (.slice zj1 zm.length zd1 : Value).ownBlock)))) (n := t696.length) (c := zK) ?_).2.2; exact (by (with_reducible repeat (first | apply Kd.R_alloc | apply Kd.R_drewN | apply Kd.R_drew)); exact (Kd.R_mono (Kd.R_far (p := ⟨zd, 1, none⟩) (Kd.R_far (p := ⟨zd, 0, none⟩) (Kd.R_types zv.out zk.out (by decide)) (fun _ hk => hk.2) (.slice zL t696.length zK)) (fun _ hk => hk.2) (.slice zQ t699.length zM)) (fun _ h_ => h_.1)))); (case side2 => exact (Kd.R_reads' zv.out).2.1); (case side3 => refine (Kd.R_reads' (e := 3) (base := w.heap.size) (ok := fun k_ => (some k_ ≠ (v694 : Value).ownBlock ∧ (some k_ ≠ (.slice zL t696.length zK : Value).ownBlock ∧ (some k_ ≠ (.slice zi1 zl.length zc1 : Value).ownBlock ∧ some k_ ≠ (.slice zj1 zm.length zd1 : Value).ownBlock)))) (n := t699.length) (c := zM) ?_).2.2; exact (by (with_reducible repeat (first | apply Kd.R_alloc | apply Kd.R_drewN | apply Kd.R_drew)); exact (Kd.R_mono (Kd.R_far (p := ⟨zd, 1, none⟩) (Kd.R_far (p := ⟨zd, 0, none⟩) (Kd.R_types zw.out zk.out (by decide)) (fun _ hk => hk.2) (.slice zL t696.length zK)) (fun _ hk => hk.2) (.slice zQ t699.length zM)) (fun _ h_ => h_.1)))); (case side4 => exact (Kd.R_reads' zw.out).2.1); (case side5 => refine (Kd.R_reads' (e := 3) (base := w.heap.size) (ok := fun k_ => (some k_ ≠ (v694 : Value).ownBlock ∧ (some k_ ≠ (.slice zL t696.length zK : Value).ownBlock ∧ (some k_ ≠ (.slice zQ t699.length zM : Value).ownBlock ∧ some k_ ≠ (.slice zj1 zm.length zd1 : Value).ownBlock)))) (n := zl.length) (c := zc1) ?_).2.2; exact (by (with_reducible repeat (first | apply Kd.R_alloc | apply Kd.R_drewN | apply Kd.R_drew)); exact (Kd.R_mono (Kd.R_far (p := ⟨zd, 1, none⟩) (Kd.R_far (p := ⟨zd, 0, none⟩) (Kd.R_types zb.out zk.out (by decide)) (fun _ hk => hk.2) (.slice zL t696.length zK)) (fun _ hk => hk.2) (.slice zQ t699.length zM)) (fun _ h_ => h_.1)))); (case side6 => exact (Kd.R_reads' zb.out).2.1); (case side7 => refine (Kd.R_reads' (e := 3) (base := w.heap.size) (ok := fun k_ => (some k_ ≠ (v694 : Value).ownBlock ∧ (some k_ ≠ (.slice zL t696.length zK : Value).ownBlock ∧ (some k_ ≠ (.slice zQ t699.length zM : Value).ownBlock ∧ some k_ ≠ (.slice zi1 zl.length zc1 : Value).ownBlock)))) (n := zm.length) (c := zd1) ?_).2.2; exact (by (with_reducible repeat (first | apply Kd.R_alloc | apply Kd.R_drewN | apply Kd.R_drew)); exact (Kd.R_mono (Kd.R_far (p := ⟨zd, 1, none⟩) (Kd.R_far (p := ⟨zd, 0, none⟩) (Kd.R_types zc.out zk.out (by decide)) (fun _ hk => hk.2) (.slice zL t696.length zK)) (fun _ hk => hk.2) (.slice zQ t699.length zM)) (fun _ h_ => h_.1)))); (case side8 => exact (Kd.R_reads' zc.out).2.1); rintro e w66 ⟨rfl, hb⟩; refine ⟨_, rfl, ?_⟩; have n0_ := Aside0.mk (Kd.R_below (by (with_reducible repeat (first | apply Kd.R_alloc | apply Kd.R_drewN | apply Kd.R_drew)); exact (Kd.R_mono (Kd.R_far (p := ⟨zd, 1, none⟩) (Kd.R_far (p := ⟨zd, 0, none⟩) (Kd.R_types zb.out zk.out (by decide)) (fun _ hk => hk.2) (.slice zL t696.length zK)) (fun _ hk => hk.2) (.slice zQ t699.length zM)) (fun _ h_ => h_.1))) hb); have n1_ := Aside0.mk (Kd.R_below (by (with_reducible repeat (first | apply Kd.R_alloc | apply Kd.R_drewN | apply Kd.R_drew)); exact (Kd.R_mono (Kd.R_far (p := ⟨zd, 1, none⟩) (Kd.R_far (p := ⟨zd, 0, none⟩) (Kd.R_types zc.out zk.out (by decide)) (fun _ hk => hk.2) (.slice zL t696.length zK)) (fun _ hk => hk.2) (.slice zQ t699.length zM)) (fun _ h_ => h_.1))) hb); have n2_ := Aside0.mk (Kd.R_below (by (with_reducible repeat (first | apply Kd.R_alloc | apply Kd.R_drewN | apply Kd.R_drew)); exact (Kd.R_mono (Kd.R_far (p := ⟨zd, 1, none⟩) (Kd.R_far (p := ⟨zd, 0, none⟩) (Kd.R_types zj.out zk.out (by decide)) (fun _ hk => hk.2) (.slice zL t696.length zK)) (fun _ hk => hk.2) (.slice zQ t699.length zM)) (fun _ h_ => h_.1))) hb); have n3_ := Aside0.mk (Kd.R_below (by (with_reducible repeat (first | apply Kd.R_alloc | apply Kd.R_drewN | apply Kd.R_drew)); exact (Kd.R_mono (Kd.R_far (p := ⟨zd, 1, none⟩) (Kd.R_far (p := ⟨zd, 0, none⟩) (Kd.R_types zv.out zk.out (by decide)) (fun _ hk => hk.2) (.slice zL t696.length zK)) (fun _ hk => hk.2) (.slice zQ t699.length zM)) (fun _ h_ => h_.1))) hb); have n4_ := Aside0.mk (Kd.R_below (by (with_reducible repeat (first | apply Kd.R_alloc | apply Kd.R_drewN | apply Kd.R_drew)); exact (Kd.R_mono (Kd.R_far (p := ⟨zd, 1, none⟩) (Kd.R_far (p := ⟨zd, 0, none⟩) (Kd.R_types zw.out zk.out (by decide)) (fun _ hk => hk.2) (.slice zL t696.length zK)) (fun _ hk => hk.2) (.slice zQ t699.length zM)) (fun _ h_ => h_.1))) hb); have n5_ := Aside0.mk (blk_below (g := zg) (o := .cells #[.slice A0_0 l0_0.length c0_0, .slice A0_1 l0_1.length c0_1] 27 (0, 0)) (by (with_reducible repeat (first | refine blk_drewN ?_ _ | refine blk_drew ?_ | refine blk_alloc ?_ _)); refine blk_far ?_ zn.out _; (with_reducible repeat (first | refine blk_drewN ?_ _ | refine blk_drew ?_ | refine blk_alloc ?_ _)); refine blk_far ?_ zn.out _; (with_reducible repeat (first | refine blk_drewN ?_ _ | refine blk_drew ?_ | refine blk_alloc ?_ _)); exact za.out) hb); have n6_ := Aside0.mk (blk_below (g := zi) (o := .cells #[.slice none 0 0, .slice none 0 0] 27 (0, 0)) (by (with_reducible repeat (first | refine blk_drewN ?_ _ | refine blk_drew ?_ | refine blk_alloc ?_ _)); refine blk_far ?_ zo.out _; (with_reducible repeat (first | refine blk_drewN ?_ _ | refine blk_drew ?_ | refine blk_alloc ?_ _)); refine blk_far ?_ zo.out _; (with_reducible repeat (first | refine blk_drewN ?_ _ | refine blk_drew ?_ | refine blk_alloc ?_ _)); exact ze.out) hb); have n7_ := Aside0.mk (blk_below (g := zh) (o := .cells #[.slice zi1 zl.length zc1, .slice zj1 zm.length zd1] 27 (0, 0)) (by (with_reducible repeat (first | refine blk_drewN ?_ _ | refine blk_drew ?_ | refine blk_alloc ?_ _)); refine blk_far ?_ zp.out _; (with_reducible repeat (first | refine blk_drewN ?_ _ | refine blk_drew ?_ | refine blk_alloc ?_ _)); refine blk_far ?_ zp.out _; (with_reducible repeat (first | refine blk_drewN ?_ _ | refine blk_drew ?_ | refine blk_alloc ?_ _)); exact zf.out) hb); have n8_ := Aside0.mk (blk_below (g := zd) (o := .cells #[.slice zL t696.length zK, .slice zQ t699.length zM] 27 (0, 0)) (by (with_reducible repeat (first | refine blk_drewN ?_ _ | refine blk_drew ?_ | refine blk_alloc ?_ _)); refine blk_put (cs := #[.slice zL t696.length zK, .slice none 0 0]) ?_ 1 _ rfl; (with_reducible repeat (first | refine blk_drewN ?_ _ | refine blk_drew ?_ | refine blk_alloc ?_ _)); refine blk_put (cs := #[.slice none 0 0, .slice none 0 0]) ?_ 0 _ rfl; (with_reducible repeat (first | refine blk_drewN ?_ _ | refine blk_drew ?_ | refine blk_alloc ?_ _)); exact zk.out) hb); have n9_ := Aside0.mk (below_step (by repeat (first | (with_reducible first | exact HB.out | apply below_alloc | apply pw_below_drewN | apply below_drew1 | refine below_set ?_ ze1.out | refine below_set ?_ zf1.out | refine below_set ?_ zP.out | refine below_set ?_ zB.out) | exact HB.out)) hb); clear zb; clear zc; clear zj; clear zv; clear zw; clear za; clear ze; clear zf; clear zk; clear HB; have zb := n0_; have zc := n1_; have zj := n2_; have zv := n3_; have zw := n4_; have za := n5_; have ze := n6_; have zf := n7_; have zk := n8_; have HB := n9_; clear n0_ n1_ n2_ n3_ n4_ n5_ n6_ n7_ n8_ n9_; (try clear hb); (try clear hb2); (try clear hk); (try clear hi)))
     go_roundg k1
     case measure => have := HK1.out; omega
     case rel => exact ⟨(wrap64 (x4_1 + 1)), (zl), (zm), (.slice zi1 zl.length zc1), (.slice zj1 zm.length zd1), (by first | rfl | (simp; done) | (simp [*]; done)), H', ⟨by have := HK1.out; omega⟩, ⟨Kd.R_mono zb.out (fun _ hk => hk.2.2.2)⟩, ⟨Kd.R_mono zc.out (fun _ hk => hk.2.2.2)⟩, ⟨za.out⟩, ⟨ze.out⟩, ⟨zf.out⟩, ⟨HB.out⟩⟩
   ·rw [if_neg c16] at H
    have c16b0 : decide (x4_1 < (l0_0.length : Int)) = false := decide_eq_false c16
    clear c16
    simp only [Option.some.injEq, Prod.mk.injEq] at H
    obtain ⟨rfl, rfl⟩ := H
    have hnb67 := zV.out
    have hnc67 := zW.out
    have hnb68 := zr.out
    have hnc68 := zy.out
    have hcz69_0 : wr.cell? ⟨zg, 0, none⟩ = some (.slice A0_0 l0_0.length c0_0) := (blk_cell za.out 0).trans rfl
    have hcz69_1 : wr.cell? ⟨zg, 1, none⟩ = some (.slice A0_1 l0_1.length c0_1) := (blk_cell za.out 1).trans rfl
    have hfz69_0 := blk_frozen za.out 0
    have hfz69_1 := blk_frozen za.out 1
    have hnb70 := zz.out
    have hnc70 := zx.out
    have hcz71_0 : wr.cell? ⟨zh, 0, none⟩ = some (u693000) := (blk_cell zf.out 0).trans rfl
    have hcz71_1 : wr.cell? ⟨zh, 1, none⟩ = some (u693001) := (blk_cell zf.out 1).trans rfl
    have hfz71_0 := blk_frozen zf.out 0
    have hfz71_1 := blk_frozen zf.out 1
    obtain ⟨zq1, zr1, eo72⟩ := Kd.R_slice zb.out
    subst eo72
    have hcz73_0 : wr.cell? ⟨zi, 0, none⟩ = some (.slice none 0 0) := (blk_cell ze.out 0).trans rfl
    have hcz73_1 : wr.cell? ⟨zi, 1, none⟩ = some (.slice none 0 0) := (blk_cell ze.out 1).trans rfl
    have hfz73_0 := blk_frozen ze.out 0
    have hfz73_1 := blk_frozen ze.out 1
    obtain ⟨zu1, zv1, eo74⟩ := Kd.R_slice zc.out
    subst eo74
    go_wp2
    refine bodyPost_ret (results_cell_row rfl _ _ zi 27 #[.slice zq1 zl.length zr1, .slice zu1 zm.length zv1] (0, 0) _ rfl (by (with_reducible repeat (first | refine blk_drewN ?_ _ | refine blk_drew ?_ | refine blk_alloc ?_ _)); refine blk_put (cs := #[.slice zq1 zl.length zr1, .slice none 0 0]) ?_ 1 _ rfl; (with_reducible repeat (first | refine blk_drewN ?_ _ | refine blk_drew ?_ | refine blk_alloc ?_ _)); refine blk_put (cs := #[.slice none 0 0, .slice none 0 0]) ?_ 0 _ rfl; (with_reducible repeat (first | refine blk_drewN ?_ _ | refine blk_drew ?_ | refine blk_alloc ?_ _)); exact ze.out) Try.underlying27 rfl (by kernel_rfl)) rfl ?_
    exact ⟨_, _, by first | rfl | (simp [errW_none, errW_some] <;> rfl) | (simp [*, errW_none, errW_some] <;> rfl), by (with_reducible repeat (first | apply Kd.R_alloc | apply Kd.R_drewN | apply Kd.R_drew)); exact Kd.R_mono (Kd.R_far (p := ⟨zi, 1, none⟩) (Kd.R_far (p := ⟨zi, 0, none⟩) (Kd.R_types zb.out ze.out (by decide)) (fun _ hk => hk.2) (.slice zq1 zl.length zr1)) (fun _ hk => hk.2) (.slice zu1 zm.length zv1)) (fun _ hk => hk.1), by (with_reducible repeat (first | apply Kd.R_alloc | apply Kd.R_drewN | apply Kd.R_drew)); exact Kd.R_mono (Kd.R_far (p := ⟨zi, 1, none⟩) (Kd.R_far (p := ⟨zi, 0, none⟩) (Kd.R_types zc.out ze.out (by decide)) (fun _ hk => hk.2) (.slice zq1 zl.length zr1)) (fun _ hk => hk.2) (.slice zu1 zm.length zv1)) (fun _ hk => hk.1), by repeat (first | (with_reducible first | exact HB.out | apply below_alloc | apply pw_below_drewN | apply below_drew1 | refine below_set ?_ ze1.out | refine below_set ?_ zf1.out | refine below_set ?_ zP.out) | exact HB.out)⟩

end Go.Proofs.Ytlohmpgbjgidpad.P
