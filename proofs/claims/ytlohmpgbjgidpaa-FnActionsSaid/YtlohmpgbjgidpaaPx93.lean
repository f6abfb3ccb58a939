-- MADE by this project's printer (wip/mk) out of the translation; Lean checks it.
import Derived.Test.YtlohmpgbjgidpaaPx0
import Derived.Test.YtlohmpgbjgidpaaPx13
import Derived.Test.YtlohmpgbjgidpaaPx37
import Derived.Test.YtlohmpgbjgidpaaPx56
import Derived.Test.YtlohmpgbjgidpaaPx58
import Derived.Test.YtlohmpgbjgidpaaPx87
import Derived.Test.YtlohmpgbjgidpaaPx88
import Derived.Test.YtlohmpgbjgidpaaPx89
import Derived.Test.YtlohmpgbjgidpaaPx90
import Derived.Test.YtlohmpgbjgidpaaPx92
import Derived.Test.YtlohmpgbjgidpaaPx21
import Derived.Test.YtlohmpgbjgidpaaPx81
import Derived.Test.YtlohmpgbjgidpaaPx22
namespace Go.Proofs.Ytlohmpgbjgidpaa.P
open Go.RowKit Go.Proofs.YtlohmpgbjgidpaaW.PrintWords Go.Proofs.YtlohmpgbjgidpaaW.PrintLast Go.Proofs.YtlohmpgbjgidpaaW.PrintMore
attribute [local go_sem] max2_int min2_int max_two min_two max_three min_three max_four min_four   -- for this text's walks alone
set_option linter.unusedVariables false
set_option linter.unusedSimpArgs false

/-! ### impl_InverseWord: function 45 -/
def impl_InverseWord.l0 : Nat → ByteArray → List Int → Int → Option (ByteArray)
  | 0, _, _, _ => none
  | k + 1, x0, x3, x4 => if x4 ≥ 0 then (if 0 ≤ x4 then (if x4 < (x0.size : Int) then (if x3.length < 140737488355328 then (impl_InverseWord.l0 k x0 (x3 ++ [Go.bits .xor .u8 (bt x0 x4) 32]) (wrap64 (x4 - 1))) else (none)) else (none)) else (none)) else (some (strOfNums x3))
def impl_InverseWord.f (k : Nat) (a0 : ByteArray) : Option (ByteArray) := (impl_WordOk.f k a0).bind fun t613 => (if t613 = true then (impl_InverseWord.l0 k a0 (([] : List Int)) (wrap64 ((a0.size : Int) - 1))) else (some (⟨#[]⟩ : ByteArray)))
theorem impl_InverseWord.mono_l : ∀ k, (∀ y0 y1 y2, LeO (impl_InverseWord.l0 k y0 y1 y2) (impl_InverseWord.l0 (k + 1) y0 y1 y2))
  | 0 => fun _ _ _ r h => by simp [impl_InverseWord.l0] at h
  | k + 1 => by
    have ih0 := impl_InverseWord.mono_l k
    · intro y0 y1 y2
      unfold impl_InverseWord.l0
      repeat' first
      | (with_reducible exact ih0 _ _ _)
      | (with_reducible exact impl_WordOk.mono _ _)
      | (with_reducible exact LeO.refl _)
      | (with_reducible exact LeO.none _)
      | (with_reducible refine LeO.ite ?_ ?_)
      | (with_reducible refine LeO.bind ?_ (fun _ => ?_))
      | exact ih0 _ _ _
      | exact impl_WordOk.mono _ _
      | exact LeO.none _
      | refine LeO.ite ?_ ?_
      | refine LeO.bind ?_ (fun _ => ?_)
theorem impl_InverseWord.mono : ∀ a0 k, LeO (impl_InverseWord.f k a0) (impl_InverseWord.f (k + 1) a0) := by
  intro a0 k
  have ih0 := impl_InverseWord.mono_l k
  unfold impl_InverseWord.f
  repeat' first
      | (with_reducible exact ih0 _ _ _)
      | (with_reducible exact impl_WordOk.mono _ _)
      | (with_reducible exact LeO.refl _)
      | (with_reducible exact LeO.none _)
      | (with_reducible refine LeO.ite ?_ ?_)
      | (with_reducible refine LeO.bind ?_ (fun _ => ?_))
      | exact ih0 _ _ _
      | exact impl_WordOk.mono _ _
      | exact LeO.none _
      | refine LeO.ite ?_ ?_
      | refine LeO.bind ?_ (fun _ => ?_)
set_option maxHeartbeats 8000000 in
set_option maxRecDepth 100000 in
theorem impl_InverseWord.calls (k : Nat) (a0 : ByteArray) (r : ByteArray) (w : World) (h : impl_InverseWord.f k a0 = some r) :
    Calls Try.prog 45 #[.string a0] w fun e w' => e = .returned (.string r) ∧ Below w.heap.size w w' := by
  have HB := Aside0.mk (Below.refl w.heap.size w)
  have H : ((impl_WordOk.f k a0).bind fun t613 => (if t613 = true then (impl_InverseWord.l0 k a0 (([] : List Int)) (wrap64 ((a0.size : Int) - 1))) else (some (⟨#[]⟩ : ByteArray)))) = some r := h
  clear h
  replace H := Option.bind_eq_some_iff.mp H
  obtain ⟨t613, A20, H⟩ := H
  try dsimp only at H
  have A2 := Aside0.mk A20
  clear A20
  by_cases c3 : t613 = true
  · subst c3
    replace H := ifp_ H
    obtain ⟨y614, hy614⟩ : ∃ y_ : List Int, y_ = (([] : List Int)) := ⟨_, rfl⟩
    replace H : (impl_InverseWord.l0 k a0 y614 (wrap64 ((a0.size : Int) - 1))) = some r := by first | (rw [hy614]; with_reducible exact H) | (rw [hy614]; exact H)
    have Ny614 := Aside0.mk hy614
    clear hy614
    have H' := Aside0.mk H
    clear H
    go_enter Try.func45, Try.ntmps45
    go_wp2_with (first | ((with_reducible refine gate_callee (f := 20) rfl ?_); refine goesL_ (some 6) rfl rfl Try.func20 (by kernel_rfl) rfl #[.string a0] rfl (by (try simp only [List.map_toArray, List.map_cons, List.map_nil]); first | done | rfl | (simp only [List.length_drop, List.length_take]; rfl)) ?_; (with_reducible refine (impl_WordOk.calls k a0 true _ A2.out).mono ?_); rintro e w' ⟨rfl, ⟨nd, rfl⟩⟩; refine ⟨_, rfl, ?_⟩) | ((with_reducible refine gate_dst (N := 8) rfl ?_); refine Kd.R_lit (Kd.int .u8) _ 5 ?hg (N := 8) ?hd (xs := ([] : List Int)) (inner := []) (ok := fun _ => True) (okp := fun _ => True) ?hr ?hp (fun _ hk => hk) trivial (Below.refl _ _) (Nat.le_refl _) (by simp) ?_; (case hd => rfl); (case hg => rfl); (case hr => first | (go_simp; done) | (go_simp; rfl)); (case hp => exact (Reps.none _ _)); intro v615 w4 ho5 hb hg_ hnew_; clear hg_ hnew_; (first | rw [← Ny614.out] at ho5 | (simp only [Int.reduceToNat] at ho5; rw [← Ny614.out] at ho5)); have n0_ := Aside0.mk (Kd.R_lower ho5 (below_size (by repeat (first | (with_reducible first | exact HB.out | apply below_alloc | apply pw_below_drewN | apply below_drew1) | exact HB.out)))); have n1_ := Aside0.mk (below_step (by repeat (first | (with_reducible first | exact HB.out | apply below_alloc | apply pw_below_drewN | apply below_drew1) | exact HB.out)) hb); clear HB; have HO616 := n0_; have HB := n1_; clear n0_ n1_; clear hb ho5))
    go_loopg [3, 4] k (fun kq v3 v4 w' => ∃ (x3_1 : List Int) (x4_1 : Int), v4 = .int .i64 x4_1 ∧ Aside0 (impl_InverseWord.l0 kq a0 x3_1 x4_1 = some r) ∧ Aside0 (kq ≤ k) ∧ Aside0 (Kd.R (Kd.int .u8) 5 w' w.heap.size (fun _ => True) v3 x3_1) ∧ Aside0 (Below w.heap.size w w'))
    case atStart => exact ⟨(y614), (wrap64 ((a0.size : Int) - 1)), (by first | rfl | (simp; done) | (simp [*]; done)), H', ⟨Nat.le_refl _⟩, ⟨by (with_reducible repeat (first | apply Kd.R_alloc | apply Kd.R_drewN | apply Kd.R_drew)); exact HO616.out⟩, ⟨by repeat (first | (with_reducible first | exact HB.out | apply below_alloc | apply pw_below_drewN | apply below_drew1) | exact HB.out)⟩⟩
    case round =>
      clear H'
      try clear c2
      try clear p2
      try clear c3
      try clear c4
      obtain ⟨x3_1, x4_1, rfl, HA, HK1, HO_3, HB⟩ := hrel
      cases gk with
      | zero => exact absurd HA.out (by simp [impl_InverseWord.l0])
      | succ k1 =>
        have H := HA.out
        clear HA
        simp only [impl_InverseWord.l0] at H
        by_cases c6 : x4_1 ≥ 0
        · rw [if_pos c6] at H
          have c6b0 : decide (0 ≤ x4_1) = true := decide_eq_true c6
          clear c6
          by_cases c7 : 0 ≤ x4_1
          · rw [if_pos c7] at H
            have c7b0 : decide (0 ≤ x4_1) = true := decide_eq_true c7
            clear c7
            by_cases c8 : x4_1 < (a0.size : Int)
            · rw [if_pos c8] at H
              have c8b0 : decide (x4_1 < (a0.size : Int)) = true := decide_eq_true c8
              clear c8
              by_cases c10 : x3_1.length < 140737488355328
              · rw [if_pos c10] at H
                have LMc10 := Aside0.mk c10
                clear c10
                obtain ⟨y617, hy617⟩ : ∃ y_ : List Int, y_ = (x3_1 ++ [Go.bits .xor .u8 (bt a0 x4_1) 32]) := ⟨_, rfl⟩
                replace H : (impl_InverseWord.l0 k1 a0 y617 (wrap64 (x4_1 - 1))) = some r := by first | (rw [hy617]; with_reducible exact H) | (rw [hy617]; exact H)
                have Ny617 := Aside0.mk hy617
                clear hy617
                have H' := Aside0.mk H
                clear H
                have p9 : 0 ≤ (x4_1 : Int) := of_decide_eq_true (by first | (with_reducible assumption) | assumption)
                have q9 : x4_1 < (a0.size : Int) := of_decide_eq_true (by first | (with_reducible assumption) | assumption)
                have hx9 := bt_at a0 x4_1
                replace p9 := eq_true p9
                replace q9 := eq_true q9
                go_wp2_with (first | ((with_reducible refine gate_builtin (b := .append) (xs := #[.tmp 16, .tmp 21]) rfl ?_); at_builtin; refine Kd.R_append (Kd.int .u8) (w0 := w) w.heap.size rfl (.tmp 16) (.tmp 21) 30 5 (.int .u8 0) 1 rfl Try.underlying30 info5 rfl (by decide) (by omega) u3 x3_1 (Go.bits .xor .u8 (bt a0 x4_1) 32) [.int .u8 (Go.bits .xor .u8 (bt a0 x4_1) 32)] (fun _ => True) (fun _ => False) rfl rfl ?aP (fun _ hk => hk.elim) ?aF ?aO ?aB ?aS ?aL ?_; (case aP => exact rfl); (case aB => exact HB.out); (case aF => exact (fun _ _ => trivial)); (case aO => exact (HO_3.out)); (case aS => exact (below_size HB.out)); (case aL => have := LMc10.out; omega); intro v618 w11 ho hb hg hat; rw [← Ny617.out] at ho; have HO619 := Aside0.mk (ho); replace HB := Aside0.mk (hb); clear HO_3; clear ho hb hg hat))
                go_roundg k1
                case measure => have := HK1.out; omega
                case rel => exact ⟨(y617), (wrap64 (x4_1 - 1)), (by first | rfl | (simp; done) | (simp [*]; done)), H', ⟨by have := HK1.out; omega⟩, ⟨by (with_reducible repeat (first | apply Kd.R_alloc | apply Kd.R_drewN | apply Kd.R_drew)); exact HO619.out⟩, ⟨by repeat (first | (with_reducible first | exact HB.out | apply below_alloc | apply pw_below_drewN | apply below_drew1) | exact HB.out)⟩⟩
              · rw [if_neg c10] at H
                exact absurd H (by simp)
            · rw [if_neg c8] at H
              exact absurd H (by simp)
          · rw [if_neg c7] at H
            exact absurd H (by simp)
        · rw [if_neg c6] at H
          have c6b0 : decide (0 ≤ x4_1) = false := decide_eq_false c6
          clear c6
          obtain rfl := Option.some.inj H
          have hcv12 := own_string (P := Try.prog) Try.underlying30 Try.underlying5 Try.underlying9 (Kd.own_of_R HO_3.out)
          go_wp2
          go_ret
          exact ⟨by first | rfl | (simp [errW_none, errW_some] <;> rfl) | (simp [*, errW_none, errW_some] <;> rfl), by repeat (first | (with_reducible first | exact HB.out | apply below_alloc | apply pw_below_drewN | apply below_drew1) | exact HB.out)⟩
  · replace c3 := Bool.eq_false_iff.mpr c3
    subst c3
    replace H := ifn_ H
    obtain rfl := Option.some.inj H
    go_enter Try.func45, Try.ntmps45
    go_wp2_with (first | ((with_reducible refine gate_callee (f := 20) rfl ?_); refine goesL_ (some 6) rfl rfl Try.func20 (by kernel_rfl) rfl #[.string a0] rfl (by (try simp only [List.map_toArray, List.map_cons, List.map_nil]); first | done | rfl | (simp only [List.length_drop, List.length_take]; rfl)) ?_; (with_reducible refine (impl_WordOk.calls k a0 false _ A2.out).mono ?_); rintro e w' ⟨rfl, ⟨nd, rfl⟩⟩; refine ⟨_, rfl, ?_⟩))
    go_ret
    exact ⟨by first | rfl | (simp [errW_none, errW_some] <;> rfl) | (simp [*, errW_none, errW_some] <;> rfl), by repeat (first | (with_reducible first | exact HB.out | apply below_alloc | apply pw_below_drewN | apply below_drew1) | exact HB.out)⟩

/-! ### spec_l20New: function 66 -/
def spec_l20New.l0 : Nat → Int → Int → List Int → Int → Int → Option (List Int × Int × Int)
  | 0, _, _, _, _, _ => none
  | k + 1, x1, x6, x1000, x1001, x1002 => if x6 < x1 then ((spec_l01Byte.f x1000 x1001 x1002).bind fun bt => spec_l20New.l0 k x1 (wrap64 (x6 + 1)) x1000 bt.2.1 bt.2.2) else some (x1000, x1001, x1002)
def spec_l20New.f (k : Nat) (l0 : List Int) (a1 : Int) : Option (List Int × Int × Int) := (spec_l01New.f k l0).bind fun bt => spec_l20New.l0 k a1 0 bt.1 bt.2.1 bt.2.2
theorem spec_l20New.mono_l : ∀ k y0 y1 y2 y3 y4, LeO (spec_l20New.l0 k y0 y1 y2 y3 y4) (spec_l20New.l0 (k + 1) y0 y1 y2 y3 y4)
  | 0 => fun _ _ _ _ _ r h => by simp [spec_l20New.l0] at h
  | k + 1 => by
    have ih0 := spec_l20New.mono_l k
    intro y0 y1 y2 y3 y4
    unfold spec_l20New.l0
    refine LeO.ite (LeO.bind (LeO.refl _) fun _ => ih0 _ _ _ _ _) (LeO.refl _)
theorem spec_l20New.mono : ∀ a0 a1 k, LeO (spec_l20New.f k a0 a1) (spec_l20New.f (k + 1) a0 a1) := fun a0 a1 k => by
  unfold spec_l20New.f
  exact LeO.bind (spec_l01New.mono a0 k) fun _ => spec_l20New.mono_l k _ _ _ _ _
theorem below_keep {w0 w W W' : World} {g : Nat} (hW : Below w.heap.size w W) (hg : w.heap.size ≤ g) (hB : Below w0.heap.size w0 W) (hB' : Below w0.heap.size w0 W') (hk : KeepBut W W' g none) : Below w.heap.size w W' :=
  ⟨by rw [hB'.os, ← hB.os, hW.os], by rw [hB'.tape, ← hB.tape, hW.tape], by rw [hB'.output, ← hB.output, hW.output], Nat.le_trans hW.size hk.1, fun i hi => (hk.2 i (Nat.lt_of_lt_of_le hi hW.size) (by omega) (by simp)).trans (hW.block i hi)⟩
set_option maxHeartbeats 8000000 in
set_option maxRecDepth 100000 in
theorem spec_l20New.calls (k : Nat) (A0 : Option Addr) (c0 : Nat) (l0 : List Int) (a1 : Int) (r1 : List Int) (r2 : Int) (r3 : Int) (w0 w : World) (hB : Below w0.heap.size w0 w) (hr0 : Kd.C (Kd.int .u8) w0 A0 l0.length l0) (hc0 : l0.length ≤ c0) (h : spec_l20New.f k l0 a1 = some (r1, r2, r3)) :
    Calls Try.prog 66 #[.slice A0 l0.length c0, .int .i64 a1] w fun e w' => ∃ g_ : Nat, e = .returned (.pointer (some ⟨g_, 0, none⟩)) ∧ IsS81 w0 w' g_ r1 r2 r3 ∧ Below w0.heap.size w0 w' ∧ Below w.heap.size w w' := by
  have HR0 := Aside0.mk hr0
  have HC0 := Aside0.mk hc0
  have HBb := Aside0.mk hB
  clear hr0 hc0 hB
  simp only [spec_l20New.f] at h
  obtain ⟨⟨b, p, q⟩, A1, h⟩ := Option.bind_eq_some_iff.mp h
  have AA := Aside0.mk A1
  have H := Aside0.mk h
  clear A1 h
  go_enter Try.func66, Try.ntmps66
  go_wp2_with (go_at_call 59; (refine (spec_l01New.calls2 k A0 c0 l0 b p q w0 _ HBb.out HR0.out HC0.out AA.out).mono ?_); rintro e w1 ⟨g, rfl, hI, hb, hbw, hg⟩; have HI := Aside0.mk hI; have HB := Aside0.mk hb; have HW := Aside0.mk hbw; have HG := Aside0.mk hg; clear hI hb hbw hg)
  go_loopg [6] k (fun kq v6 w' => ∃ (x6 x1 x2 : Int), v6 = .int .i64 x6 ∧ Aside0 (spec_l20New.l0 kq a1 x6 b x1 x2 = some (r1, r2, r3)) ∧ Aside0 (IsS81 w0 w' g b x1 x2) ∧ Aside0 (Below w0.heap.size w0 w') ∧ Aside0 (Below w.heap.size w w'))
  case atStart => exact ⟨0, p, q, rfl, H, HI, HB, HW⟩
  case round =>
    clear H HI HB HW AA HBb
    obtain ⟨x6, x1, x2, rfl, HA, HI, HB, HW⟩ := hrel
    cases gk with
    | zero => exact absurd HA.out (by simp [spec_l20New.l0])
    | succ k1 =>
      have h := HA.out
      clear HA
      simp only [spec_l20New.l0] at h
      by_cases c : x6 < a1
      · rw [if_pos c] at h
        have cb : decide (x6 < a1) = true := decide_eq_true c
        clear c
        obtain ⟨⟨t, p1, p2⟩, A1, h⟩ := Option.bind_eq_some_iff.mp h
        have AA := Aside0.mk A1
        have H := Aside0.mk h
        clear A1 h
        go_wp2_with (go_at_call 72; (refine (spec_l01Byte.calls g b x1 x2 t p1 p2 w0 _ HI.out HB.out AA.out).mono ?_); rintro e w1 ⟨rfl, hI, hb, hk⟩; have HI1 := Aside0.mk hI; have HB1 := Aside0.mk hb; have HK1 := Aside0.mk hk; clear hI hb hk)
        go_roundg k1
        case measure => omega
        case rel => exact ⟨wrap64 (x6 + 1), p1, p2, rfl, H, HI1, HB1, ⟨below_keep HW.out HG.out HB.out HB1.out HK1.out⟩⟩
      · rw [if_neg c] at h
        have cb : decide (x6 < a1) = false := decide_eq_false c
        clear c
        simp only [Option.some.injEq, Prod.mk.injEq] at h
        obtain ⟨rfl, rfl, rfl⟩ := h
        go_wp2
        go_ret
        exact ⟨_, rfl, HI.out, HB.out, HW.out⟩

/-! ### spec_MakeWord: function 49 -/
def spec_MakeWord.f (k : Nat) (l0 : List Int) (a1 : Int) : Option (ByteArray) := (spec_l20New.f k l0 a1).bind fun bt692 => ((spec_l05Word.f k bt692.1 bt692.2.1 bt692.2.2 6).bind fun bt696 => (some bt696.1))
theorem spec_MakeWord.mono : ∀ a0 a1 k, LeO (spec_MakeWord.f k a0 a1) (spec_MakeWord.f (k + 1) a0 a1) := by
  intro a0 a1 k
  unfold spec_MakeWord.f
  repeat' first
      | (with_reducible exact spec_l05Word.mono _ _ _ _ _)
      | (with_reducible exact spec_l20New.mono _ _ _)
      | (with_reducible exact LeO.refl _)
      | (with_reducible exact LeO.none _)
      | (with_reducible refine LeO.ite ?_ ?_)
      | (with_reducible refine LeO.bind ?_ (fun _ => ?_))
      | exact spec_l05Word.mono _ _ _ _ _
      | exact spec_l20New.mono _ _ _
      | exact LeO.none _
      | refine LeO.ite ?_ ?_
      | refine LeO.bind ?_ (fun _ => ?_)
set_option maxHeartbeats 8000000 in
set_option maxRecDepth 100000 in
theorem spec_MakeWord.calls (k : Nat) (A0 : Option Addr) (c0 : Nat) (l0 : List Int) (a1 : Int) (r : ByteArray) (w : World) (hr0 : Kd.C (Kd.int .u8) w A0 l0.length l0) (hc0 : l0.length ≤ c0) (h : spec_MakeWord.f k l0 a1 = some r) :
    Calls Try.prog 49 #[.slice A0 l0.length c0, .int .i64 a1] w fun e w' => e = .returned (.string r) ∧ Below w.heap.size w w' := by
  have HR0 := Aside0.mk hr0
  have HC0 := Aside0.mk hc0
  clear hr0 hc0
  have HB := Aside0.mk (Below.refl w.heap.size w)
  have H : ((spec_l20New.f k l0 a1).bind fun bt692 => ((spec_l05Word.f k bt692.1 bt692.2.1 bt692.2.2 6).bind fun bt696 => (some bt696.1))) = some r := h
  clear h
  replace H := Option.bind_eq_some_iff.mp H
  obtain ⟨⟨t692, t693, t694⟩, A30, H⟩ := H
  replace H : ((spec_l05Word.f k t692 t693 t694 6).bind fun bt696 => (some bt696.1)) = some r := H
  have A3 := Aside0.mk A30
  clear A30
  replace H := Option.bind_eq_some_iff.mp H
  obtain ⟨⟨t696, t697, t698⟩, A40, H⟩ := H
  replace H : (some t696) = some r := H
  have A4 := Aside0.mk A40
  clear A40
  obtain rfl := Option.some.inj H
  go_enter Try.func49, Try.ntmps49
  go_wp2_with (first | ((with_reducible refine gate_callee (f := 66) rfl ?_); refine goesL_ (some 7) rfl rfl Try.func66 (by kernel_rfl) rfl #[.slice A0 l0.length c0, .int .i64 a1] rfl (by (try simp only [List.map_toArray, List.map_cons, List.map_nil]); first | done | rfl | (simp only [List.length_drop, List.length_take]; rfl)) ?_; (with_reducible refine (spec_l20New.calls k _ _ l0 a1 t692 t693 t694 w _ ?side1 ?side2 ?side3 A3.out).mono ?_); (case side1 => repeat (first | (with_reducible first | exact HB.out | apply below_alloc | apply pw_below_drewN | apply below_drew1) | exact HB.out)); (case side2 => exact HR0.out); (case side3 => exact HC0.out); rintro e w5 ⟨g695, rfl, hi, hb, hb2⟩; refine ⟨_, rfl, ?_⟩; have n0_ := Aside0.mk (hb); have n1_ := Aside0.mk (hi); clear HB; have HB := n0_; have HI695 := n1_; clear n0_ n1_; (try clear hb); (try clear hb2); (try clear hk); (try clear hi)) | ((with_reducible refine gate_callee (f := 78) rfl ?_); refine goesL_ (some 8) rfl rfl Try.func78 (by kernel_rfl) rfl #[.pointer (some ⟨g695, 0, none⟩), .int .i64 6] rfl (by (try simp only [List.map_toArray, List.map_cons, List.map_nil]); first | done | rfl | (simp only [List.length_drop, List.length_take]; rfl)) ?_; (with_reducible refine (spec_l05Word.calls k g695 t692 t693 t694 6 t696 t697 t698 w _ ?side1 ?side2 A4.out).mono ?_); (case side1 => repeat (first | (with_reducible first | exact HI695.out | apply IsS81.alloc | apply IsS81.drewN | apply IsS81.drew | apply IsS81.set_1 | apply IsS81.set_2) | exact HI695.out)); (case side2 => repeat (first | (with_reducible first | exact HB.out | apply below_alloc | apply pw_below_drewN | apply below_drew1 | refine below_set ?_ (IsS81.ge HI695.out)) | exact HB.out)); rintro e w6 ⟨rfl, hi, hb, hk⟩; refine ⟨_, rfl, ?_⟩; have n0_ := Aside0.mk (hb); have n1_ := Aside0.mk (hi); clear HB; clear HI695; have HB := n0_; have HI695 := n1_; clear n0_ n1_; (try clear hb); (try clear hb2); (try clear hk); (try clear hi)))
  go_ret
  exact ⟨by first | rfl | (simp [errW_none, errW_some] <;> rfl) | (simp [*, errW_none, errW_some] <;> rfl), by repeat (first | (with_reducible first | exact HB.out | apply below_alloc | apply pw_below_drewN | apply below_drew1 | refine below_set ?_ (IsS81.ge HI695.out)) | exact HB.out)⟩

/-! ### laws_FnActions: function 14 -/
def laws_FnActions.f (k : Nat) (l0 : List Int) : Option (Bool) := if (l0.length : Int) > 1048576 then (some true) else ((spec_MakeSurface.f k l0).bind fun zs => ((spec_MakeWord.f k l0 40).bind fun t821 => ((impl_RunWord.f k zs.1 zs.2 t821).bind fun zh1 => ((impl_InverseWord.f k t821).bind fun t830 => ((impl_RunWord.f k zh1.1 zh1.2.1 t830).bind fun zY => ((impl_RunWord.f k zs.1 zs.2 (⟨#[83, 83, 83, 83]⟩ : ByteArray)).bind fun zS => ((impl_RunWord.f k zs.1 zs.2 (⟨#[83, 84, 83, 84, 83, 84]⟩ : ByteArray)).bind fun zG => ((impl_RunWord.f k zs.1 zs.2 (⟨#[83, 83]⟩ : ByteArray)).bind fun zD => ((impl_ShearSurface.f k zs.1 zs.2).bind fun zg => ((impl_RunWord.f k zs.1 zs.2 (⟨#[84]⟩ : ByteArray)).bind fun zv => ((impl_UnturnSurface.f k zs.1 zs.2).bind fun zp => ((impl_TurnSurface.f k zp.1 zp.2.1).bind fun zm => ((impl_UnshearSurface.f k zg.1 zg.2.1).bind fun zk => (if zh1.2.2 = true then (if zY.2.2 = true then (if zS.2.2 = true then (if zG.2.2 = true then (if zD.2.2 = true then (if zg.2.2 = true then (if zv.2.2 = true then (if zp.2.2 = true then (if zm.2.2 = true then (if zk.2.2 = true then ((impl_WordOk.f k t821).bind fun t903 => (if t903 = true then ((impl_SameSurface.f k zY.1 zY.2.1 zs.1 zs.2).bind fun t904 => (if t904 = true then ((impl_SameSurface.f k zS.1 zS.2.1 zs.1 zs.2).bind fun t905 => (if t905 = true then ((impl_AreIsomorphic.f k zG.1 zG.2.1 zD.1 zD.2.1).bind fun t906 => (if t906 = true then ((impl_SameSurface.f k zg.1 zg.2.1 zv.1 zv.2.1).bind fun t907 => (if t907 = true then ((impl_SameSurface.f k zm.1 zm.2.1 zs.1 zs.2).bind fun t908 => (if t908 = true then ((impl_SameSurface.f k zk.1 zk.2.1 zs.1 zs.2).bind fun t909 => (some t909)) else (some false))) else (some false))) else (some false))) else (some false))) else (some false))) else (some false))) else (some false)) else (some false)) else (some false)) else (some false)) else (some false)) else (some false)) else (some false)) else (some false)) else (some false)) else (some false)))))))))))))))
theorem laws_FnActions.mono : ∀ a0 k, LeO (laws_FnActions.f k a0) (laws_FnActions.f (k + 1) a0) := by
 intro a0 k
 unfold laws_FnActions.f
 repeat' first
   | (with_reducible exact impl_AreIsomorphic.mono _ _ _ _ _)
   | (with_reducible exact impl_InverseWord.mono _ _)
   | (with_reducible exact impl_RunWord.mono _ _ _ _)
   | (with_reducible exact impl_SameSurface.mono _ _ _ _ _)
   | (with_reducible exact impl_ShearSurface.mono _ _ _)
   | (with_reducible exact impl_TurnSurface.mono _ _ _)
   | (with_reducible exact impl_UnshearSurface.mono _ _ _)
   | (with_reducible exact impl_UnturnSurface.mono _ _ _)
   | (with_reducible exact impl_WordOk.mono _ _)
   | (with_reducible exact spec_MakeSurface.mono _ _)
   | (with_reducible exact spec_MakeWord.mono _ _ _)
   | (with_reducible exact LeO.refl _)
   | (with_reducible exact LeO.none _)
   | (with_reducible refine LeO.ite ?_ ?_)
   | (with_reducible refine LeO.bind ?_ (fun _ => ?_))
   | exact impl_AreIsomorphic.mono _ _ _ _ _
   | exact impl_InverseWord.mono _ _
   | exact impl_RunWord.mono _ _ _ _
   | exact impl_SameSurface.mono _ _ _ _ _
   | exact impl_ShearSurface.mono _ _ _
   | exact impl_TurnSurface.mono _ _ _
   | exact impl_UnshearSurface.mono _ _ _
   | exact impl_UnturnSurface.mono _ _ _
   | exact impl_WordOk.mono _ _
   | exact spec_MakeSurface.mono _ _
   | exact spec_MakeWord.mono _ _ _
   | exact LeO.none _
   | refine LeO.ite ?_ ?_
   | refine LeO.bind ?_ (fun _ => ?_)
def laws_FnActions.T6 : Bool × List (List Nat × List Nat) := (true, [([], []), ([], []), ([1], [1]), ([0, 2, 2], [0, 2]), ([3], [3]), ([4], [4]), ([4], [4]), ([], []), ([7, 5, 3, 0, 1, 2, 3, 4, 5, 7], [5, 7]), ([6, 8, 0, 1, 2, 3, 4, 5, 6, 7, 8], [6])])
def laws_FnActions.B6 : List Nat := [0, 0, 2, 7, 15, 31, 31, 0, 191, 511]
theorem laws_FnActions.tab6 : rtab .any (opsOf Try.f14 6) = laws_FnActions.T6 := by kernel_rfl
theorem laws_FnActions.bits6 : waitsOk laws_FnActions.T6.2 laws_FnActions.B6 = true := by kernel_rfl
theorem R_fresh {e : Nat} {w1 : World} {b b' : Nat} {ok : Nat → Prop} {v : Value} {xs : List Int} (h : Kd.R (Kd.int .i64) e w1 b' ok v xs) (hl : b ≤ b') : Kd.R (Kd.int .i64) e w1 b (fun _ => True) v xs := Kd.R_mono (Kd.R_lower h hl) (fun _ _ => trivial)
set_option maxHeartbeats 8000000 in
set_option maxRecDepth 100000 in
theorem laws_FnActions.calls_true (k : Nat) (A0 : Option Addr) (c0 : Nat) (l0 : List Int) (w : World) (hr0 : Kd.C (Kd.int .u8) w A0 l0.length l0) (hc0 : l0.length ≤ c0) (h : laws_FnActions.f k l0 = some true) :
  Calls Try.prog 14 #[.slice A0 l0.length c0] w fun e w' => e = .returned (.bool true) ∧ Below w.heap.size w w' := by
 have hu33 := Try.underlying33
 have HR0 := Aside0.mk hr0
 have HC0 := Aside0.mk hc0
 clear hr0 hc0
 have HB := Aside0.mk (Below.refl w.heap.size w)
 have H : (if (l0.length : Int) > 1048576 then (some true) else ((spec_MakeSurface.f k l0).bind fun zs => ((spec_MakeWord.f k l0 40).bind fun t821 => ((impl_RunWord.f k zs.1 zs.2 t821).bind fun zh1 => ((impl_InverseWord.f k t821).bind fun t830 => ((impl_RunWord.f k zh1.1 zh1.2.1 t830).bind fun zY => ((impl_RunWord.f k zs.1 zs.2 (⟨#[83, 83, 83, 83]⟩ : ByteArray)).bind fun zS => ((impl_RunWord.f k zs.1 zs.2 (⟨#[83, 84, 83, 84, 83, 84]⟩ : ByteArray)).bind fun zG => ((impl_RunWord.f k zs.1 zs.2 (⟨#[83, 83]⟩ : ByteArray)).bind fun zD => ((impl_ShearSurface.f k zs.1 zs.2).bind fun zg => ((impl_RunWord.f k zs.1 zs.2 (⟨#[84]⟩ : ByteArray)).bind fun zv => ((impl_UnturnSurface.f k zs.1 zs.2).bind fun zp => ((impl_TurnSurface.f k zp.1 zp.2.1).bind fun zm => ((impl_UnshearSurface.f k zg.1 zg.2.1).bind fun zk => (if zh1.2.2 = true then (if zY.2.2 = true then (if zS.2.2 = true then (if zG.2.2 = true then (if zD.2.2 = true then (if zg.2.2 = true then (if zv.2.2 = true then (if zp.2.2 = true then (if zm.2.2 = true then (if zk.2.2 = true then ((impl_WordOk.f k t821).bind fun t903 => (if t903 = true then ((impl_SameSurface.f k zY.1 zY.2.1 zs.1 zs.2).bind fun t904 => (if t904 = true then ((impl_SameSurface.f k zS.1 zS.2.1 zs.1 zs.2).bind fun t905 => (if t905 = true then ((impl_AreIsomorphic.f k zG.1 zG.2.1 zD.1 zD.2.1).bind fun t906 => (if t906 = true then ((impl_SameSurface.f k zg.1 zg.2.1 zv.1 zv.2.1).bind fun t907 => (if t907 = true then ((impl_SameSurface.f k zm.1 zm.2.1 zs.1 zs.2).bind fun t908 => (if t908 = true then ((impl_SameSurface.f k zk.1 zk.2.1 zs.1 zs.2).bind fun t909 => (some t909)) else (some false))) else (some false))) else (some false))) else (some false))) else (some false))) else (some false))) else (some false)) else (some false)) else (some false)) else (some false)) else (some false)) else (some false)) else (some false)) else (some false)) else (some false)) else (some false)))))))))))))))) = some true := h
 clear h
 by_cases c2 : (l0.length : Int) > 1048576
 ·rw [if_pos c2] at H
  have c2b0 : decide (1048576 < (l0.length : Int)) = true := decide_eq_true c2
  have c2b1 : decide (1048576 < l0.length) = true := decide_eq_true (by omega)
  clear c2
  go_enter Try.func14, Try.ntmps14
  go_wp2
  go_ret
  exact ⟨by first | rfl | (simp [errW_none, errW_some] <;> rfl) | (simp [*, errW_none, errW_some] <;> rfl), by repeat (first | (with_reducible first | exact HB.out | apply below_alloc | apply pw_below_drewN | apply below_drew1) | exact HB.out)⟩
 ·rw [if_neg c2] at H
  have c2b0 : decide (1048576 < (l0.length : Int)) = false := decide_eq_false c2
  have c2b1 : decide (1048576 < l0.length) = false := decide_eq_false (by omega)
  clear c2
  replace H := Option.bind_eq_some_iff.mp H
  obtain ⟨⟨t814, t817⟩, A30, H⟩ := H
  try dsimp only at H
  have A3 := Aside0.mk A30
  clear A30
  replace H := Option.bind_eq_some_iff.mp H
  obtain ⟨t821, A40, H⟩ := H
  try dsimp only at H
  have A4 := Aside0.mk A40
  clear A40
  replace H := Option.bind_eq_some_iff.mp H
  obtain ⟨⟨t822, t825, t828⟩, A50, H⟩ := H
  try dsimp only at H
  have A5 := Aside0.mk A50
  clear A50
  replace H := Option.bind_eq_some_iff.mp H
  obtain ⟨t830, A60, H⟩ := H
  try dsimp only at H
  have A6 := Aside0.mk A60
  clear A60
  replace H := Option.bind_eq_some_iff.mp H
  obtain ⟨⟨t831, t834, t837⟩, A70, H⟩ := H
  try dsimp only at H
  have A7 := Aside0.mk A70
  clear A70
  replace H := Option.bind_eq_some_iff.mp H
  obtain ⟨⟨t839, t842, t845⟩, A80, H⟩ := H
  try dsimp only at H
  have A8 := Aside0.mk A80
  clear A80
  replace H := Option.bind_eq_some_iff.mp H
  obtain ⟨⟨t847, t850, t853⟩, A90, H⟩ := H
  try dsimp only at H
  have A9 := Aside0.mk A90
  clear A90
  replace H := Option.bind_eq_some_iff.mp H
  obtain ⟨⟨t855, t858, t861⟩, A100, H⟩ := H
  try dsimp only at H
  have A10 := Aside0.mk A100
  clear A100
  replace H := Option.bind_eq_some_iff.mp H
  obtain ⟨⟨t863, t866, t869⟩, A110, H⟩ := H
  try dsimp only at H
  have A11 := Aside0.mk A110
  clear A110
  replace H := Option.bind_eq_some_iff.mp H
  obtain ⟨⟨t871, t874, t877⟩, A120, H⟩ := H
  try dsimp only at H
  have A12 := Aside0.mk A120
  clear A120
  replace H := Option.bind_eq_some_iff.mp H
  obtain ⟨⟨t879, t882, t885⟩, A130, H⟩ := H
  try dsimp only at H
  have A13 := Aside0.mk A130
  clear A130
  replace H := Option.bind_eq_some_iff.mp H
  obtain ⟨⟨t887, t890, t893⟩, A140, H⟩ := H
  try dsimp only at H
  have A14 := Aside0.mk A140
  clear A140
  replace H := Option.bind_eq_some_iff.mp H
  obtain ⟨⟨t895, t898, t901⟩, A150, H⟩ := H
  try dsimp only at H
  have A15 := Aside0.mk A150
  clear A150
  by_cases c16 : t828 = true
  ·subst c16
   replace H := ifp_ H
   by_cases c17 : t837 = true
   ·subst c17
    replace H := ifp_ H
    by_cases c18 : t845 = true
    ·subst c18
     replace H := ifp_ H
     by_cases c19 : t853 = true
     ·subst c19
      replace H := ifp_ H
      by_cases c20 : t861 = true
      ·subst c20
       replace H := ifp_ H
       by_cases c21 : t869 = true
       ·subst c21
        replace H := ifp_ H
        by_cases c22 : t877 = true
        ·subst c22
         replace H := ifp_ H
         by_cases c23 : t885 = true
         ·subst c23
          replace H := ifp_ H
          by_cases c24 : t893 = true
          ·subst c24
           replace H := ifp_ H
           by_cases c25 : t901 = true
           ·subst c25
            replace H := ifp_ H
            replace H := Option.bind_eq_some_iff.mp H
            obtain ⟨t903, A260, H⟩ := H
            try dsimp only at H
            have A26 := Aside0.mk A260
            clear A260
            by_cases c27 : t903 = true
            ·subst c27
             replace H := ifp_ H
             replace H := Option.bind_eq_some_iff.mp H
             obtain ⟨t904, A280, H⟩ := H
             try dsimp only at H
             have A28 := Aside0.mk A280
             clear A280
             by_cases c29 : t904 = true
             ·subst c29
              replace H := ifp_ H
              replace H := Option.bind_eq_some_iff.mp H
              obtain ⟨t905, A300, H⟩ := H
              try dsimp only at H
              have A30 := Aside0.mk A300
              clear A300
              by_cases c31 : t905 = true
              ·subst c31
               replace H := ifp_ H
               replace H := Option.bind_eq_some_iff.mp H
               obtain ⟨t906, A320, H⟩ := H
               try dsimp only at H
               have A32 := Aside0.mk A320
               clear A320
               by_cases c33 : t906 = true
               ·subst c33
                replace H := ifp_ H
                replace H := Option.bind_eq_some_iff.mp H
                obtain ⟨t907, A340, H⟩ := H
                try dsimp only at H
                have A34 := Aside0.mk A340
                clear A340
                by_cases c35 : t907 = true
                ·subst c35
                 replace H := ifp_ H
                 replace H := Option.bind_eq_some_iff.mp H
                 obtain ⟨t908, A360, H⟩ := H
                 try dsimp only at H
                 have A36 := Aside0.mk A360
                 clear A360
                 by_cases c37 : t908 = true
                 ·subst c37
                  replace H := ifp_ H
                  replace H := Option.bind_eq_some_iff.mp H
                  obtain ⟨t909, A380, H⟩ := H
                  try dsimp only at H
                  have A38 := Aside0.mk A380
                  clear A380
                  have hr_ := Option.some.inj H
                  clear H
                  go_enter Try.func14, Try.ntmps14
                  try go_wp2_with (first | ((with_reducible refine gate_callee (f := 24) rfl ?_); refine goesL_ (some 29) rfl rfl Try.func24 (by kernel_rfl) rfl #[.slice A0 l0.length c0] rfl (by (try simp only [List.map_toArray, List.map_cons, List.map_nil]); first | done | rfl | (simp only [List.length_drop, List.length_take]; rfl)) ?_; (with_reducible refine (spec_MakeSurface.calls k _ _ l0 t814 t817 _ ?side1 ?side2 A3.out).mono ?_); (case side1 => repeat (first | exact HR0.out | (with_reducible refine Kd.C_alloc ?_ _) | (with_reducible refine Kd.C_drewN ?_ _) | (with_reducible refine Kd.C_drew ?_))); (case side2 => exact HC0.out); rintro e w39 ⟨v815, v818, rfl, ho0, ho1, hb⟩; refine ⟨_, rfl, ?_⟩; have zc := Aside0.mk (R_fresh ho0 (below_size HB.out)); have zd := Aside0.mk (R_fresh ho1 (below_size HB.out)); replace HB := hs_ HB hb; (try clear hb); (try clear hb2); (try clear hk); (try clear hi); (try clear ho0); (try clear ho1)) | ((with_reducible refine gate_dst (N := 3) rfl ?_); refine box_event ?hg (N := 3) ?hd (cs := #[.slice none 0 0, .slice none 0 0]) (t := 33) ?hr ?_; (case hd => rfl); (case hg => rfl); (case hr => first | (go_simp; done) | (go_simp; rfl)); intro zn hg w40 hbox hb; have za := Aside0.mk (hbox); have GW820 := sz_ HB hg; have zT := sz_ HB hg; replace zc := ab_ zc hb; replace zd := ab_ zd hb; replace HB := hs_ HB hb; clear hb hbox hg; obtain ⟨zK, zB, eo41⟩ := Kd.R_slice zc.out; subst eo41; have hcz42_0 : w40.cell? ⟨zn, 0, none⟩ = some (.slice none 0 0) := (blk_cell za.out 0).trans rfl; have hcz42_1 : w40.cell? ⟨zn, 1, none⟩ = some (.slice none 0 0) := (blk_cell za.out 1).trans rfl; have hfz42_0 := blk_frozen za.out 0; have hfz42_1 := blk_frozen za.out 1; obtain ⟨zL, zC, eo43⟩ := Kd.R_slice zd.out; subst eo43) | ((with_reducible refine gate_callee (f := 49) rfl ?_); refine goesL_ (some 31) rfl rfl Try.func49 (by kernel_rfl) rfl #[.slice A0 l0.length c0, .int .i64 40] rfl (by (try simp only [List.map_toArray, List.map_cons, List.map_nil]); first | done | rfl | (simp only [List.length_drop, List.length_take]; rfl)) ?_; (with_reducible refine (spec_MakeWord.calls k _ _ l0 40 t821 _ ?side1 ?side2 A4.out).mono ?_); (case side1 => exact Kd.C_below HR0.out (hb2_ HB.out zT.out)); (case side2 => exact HC0.out); rintro e w44 ⟨rfl, hb⟩; refine ⟨_, rfl, ?_⟩; replace zc := as_ zc za hb; replace zd := as_ zd za hb; replace za := bp_ za hb; replace HB := ht_ HB zT hb; (try clear hb); (try clear hb2); (try clear hk); (try clear hi); have hcz45_0 : w44.cell? ⟨zn, 0, none⟩ = some (.slice zK t814.length zB) := (blk_cell za.out 0).trans rfl; have hcz45_1 : w44.cell? ⟨zn, 1, none⟩ = some (.slice zL t817.length zC) := (blk_cell za.out 1).trans rfl; have hfz45_0 := blk_frozen za.out 0; have hfz45_1 := blk_frozen za.out 1) | ((with_reducible refine gate_callee (f := 50) rfl ?_); refine goesL_ (some 35) rfl rfl Try.func50 (by kernel_rfl) rfl #[.agg #[.slice zK t814.length zB, .slice zL t817.length zC], .string t821] rfl (by (try simp only [List.map_toArray, List.map_cons, List.map_nil]); first | done | rfl | (simp only [List.length_drop, List.length_take]; rfl)) ?_; (with_reducible refine (impl_RunWord.calls k _ _ t814 _ _ t817 t821 t822 t825 true _ ?side1 ?side2 ?side3 ?side4 A5.out).mono ?_); (case side1 => repeat (first | exact (Kd.R_reads' zc.out).2.2 | (with_reducible refine Kd.C_alloc ?_ _) | (with_reducible refine Kd.C_drewN ?_ _) | (with_reducible refine Kd.C_drew ?_))); (case side2 => exact (Kd.R_reads' zc.out).2.1); (case side3 => repeat (first | exact (Kd.R_reads' zd.out).2.2 | (with_reducible refine Kd.C_alloc ?_ _) | (with_reducible refine Kd.C_drewN ?_ _) | (with_reducible refine Kd.C_drew ?_))); (case side4 => exact (Kd.R_reads' zd.out).2.1); rintro e w46 ⟨v823, v826, rfl, ho0, ho1, hb⟩; refine ⟨_, rfl, ?_⟩; have zq := Aside0.mk (R_fresh ho0 (below_size HB.out)); have zr := Aside0.mk (R_fresh ho1 (below_size HB.out)); replace zc := ab_ zc hb; replace zd := ab_ zd hb; replace za := bb_ za hb; replace HB := hs_ HB hb; (try clear hb); (try clear hb2); (try clear hk); (try clear hi); (try clear ho0); (try clear ho1)) | ((with_reducible refine gate_dst (N := 5) rfl ?_); refine box_event ?hg (N := 5) ?hd (cs := #[.slice none 0 0, .slice none 0 0]) (t := 33) ?hr ?_; (case hd => rfl); (case hg => rfl); (case hr => first | (go_simp; done) | (go_simp; rfl)); intro zh hg w47 hbox hb; have zb := Aside0.mk (hbox); have GW829 := sz_ HB hg; have zV := sz_ HB hg; have zi1 := nl_ za hg; have NB829_820 := ng_ za hg; replace zc := ab_ zc hb; replace zd := ab_ zd hb; replace zq := ab_ zq hb; replace zr := ab_ zr hb; replace za := bb_ za hb; replace HB := hs_ HB hb; clear hb hbox hg; obtain ⟨zH, zI, eo48⟩ := Kd.R_slice zq.out; subst eo48; have hnb49 := NB829_820.out; have hnc49 := zi1.out; have hcz50_0 : w47.cell? ⟨zh, 0, none⟩ = some (.slice none 0 0) := (blk_cell zb.out 0).trans rfl; have hcz50_1 : w47.cell? ⟨zh, 1, none⟩ = some (.slice none 0 0) := (blk_cell zb.out 1).trans rfl; have hfz50_0 := blk_frozen zb.out 0; have hfz50_1 := blk_frozen zb.out 1; obtain ⟨zM, zN, eo51⟩ := Kd.R_slice zr.out; subst eo51))
                  have n0_ : Aside0 (Kd.R (Kd.int .i64) 3 ((w47.setCell ⟨zh, 0, none⟩ (.slice zH t822.length zI)).setCell ⟨zh, 1, none⟩ (.slice zM t825.length zN)) w.heap.size (fun _ => True) (.slice zK t814.length zB) t814) := ⟨by (with_reducible repeat (first | apply Kd.R_alloc | apply Kd.R_drewN | apply Kd.R_drew)); exact Kd.R_mono (Kd.R_far (p := ⟨zh, 1, none⟩) (Kd.R_far (p := ⟨zh, 0, none⟩) (Kd.R_types zc.out zb.out (by decide)) (fun _ hk => hk.2) (.slice zH t822.length zI)) (fun _ hk => hk.2) (.slice zM t825.length zN)) (fun _ _ => trivial)⟩
                  have n1_ : Aside0 (Kd.R (Kd.int .i64) 3 ((w47.setCell ⟨zh, 0, none⟩ (.slice zH t822.length zI)).setCell ⟨zh, 1, none⟩ (.slice zM t825.length zN)) w.heap.size (fun _ => True) (.slice zL t817.length zC) t817) := ⟨by (with_reducible repeat (first | apply Kd.R_alloc | apply Kd.R_drewN | apply Kd.R_drew)); exact Kd.R_mono (Kd.R_far (p := ⟨zh, 1, none⟩) (Kd.R_far (p := ⟨zh, 0, none⟩) (Kd.R_types zd.out zb.out (by decide)) (fun _ hk => hk.2) (.slice zH t822.length zI)) (fun _ hk => hk.2) (.slice zM t825.length zN)) (fun _ _ => trivial)⟩
                  have n2_ : Aside0 (Kd.R (Kd.int .i64) 3 ((w47.setCell ⟨zh, 0, none⟩ (.slice zH t822.length zI)).setCell ⟨zh, 1, none⟩ (.slice zM t825.length zN)) w.heap.size (fun _ => True) (.slice zH t822.length zI) t822) := ⟨by (with_reducible repeat (first | apply Kd.R_alloc | apply Kd.R_drewN | apply Kd.R_drew)); exact Kd.R_mono (Kd.R_far (p := ⟨zh, 1, none⟩) (Kd.R_far (p := ⟨zh, 0, none⟩) (Kd.R_types zq.out zb.out (by decide)) (fun _ hk => hk.2) (.slice zH t822.length zI)) (fun _ hk => hk.2) (.slice zM t825.length zN)) (fun _ _ => trivial)⟩
                  have n3_ : Aside0 (Kd.R (Kd.int .i64) 3 ((w47.setCell ⟨zh, 0, none⟩ (.slice zH t822.length zI)).setCell ⟨zh, 1, none⟩ (.slice zM t825.length zN)) w.heap.size (fun _ => True) (.slice zM t825.length zN) t825) := ⟨by (with_reducible repeat (first | apply Kd.R_alloc | apply Kd.R_drewN | apply Kd.R_drew)); exact Kd.R_mono (Kd.R_far (p := ⟨zh, 1, none⟩) (Kd.R_far (p := ⟨zh, 0, none⟩) (Kd.R_types zr.out zb.out (by decide)) (fun _ hk => hk.2) (.slice zH t822.length zI)) (fun _ hk => hk.2) (.slice zM t825.length zN)) (fun _ _ => trivial)⟩
                  have n4_ : Aside0 (((w47.setCell ⟨zh, 0, none⟩ (.slice zH t822.length zI)).setCell ⟨zh, 1, none⟩ (.slice zM t825.length zN)).heap[zn]? = some (.cells #[.slice zK t814.length zB, .slice zL t817.length zC] 33 (0, 0))) := ⟨by (with_reducible repeat (first | refine blk_drewN ?_ _ | refine blk_drew ?_ | refine blk_alloc ?_ _)); refine blk_far ?_ zi1.out _; (with_reducible repeat (first | refine blk_drewN ?_ _ | refine blk_drew ?_ | refine blk_alloc ?_ _)); refine blk_far ?_ zi1.out _; (with_reducible repeat (first | refine blk_drewN ?_ _ | refine blk_drew ?_ | refine blk_alloc ?_ _)); exact za.out⟩
                  have n5_ : Aside0 (((w47.setCell ⟨zh, 0, none⟩ (.slice zH t822.length zI)).setCell ⟨zh, 1, none⟩ (.slice zM t825.length zN)).heap[zh]? = some (.cells #[.slice zH t822.length zI, .slice zM t825.length zN] 33 (0, 0))) := ⟨by (with_reducible repeat (first | refine blk_drewN ?_ _ | refine blk_drew ?_ | refine blk_alloc ?_ _)); refine blk_put (cs := #[.slice zH t822.length zI, .slice none 0 0]) ?_ 1 _ rfl; (with_reducible repeat (first | refine blk_drewN ?_ _ | refine blk_drew ?_ | refine blk_alloc ?_ _)); refine blk_put (cs := #[.slice none 0 0, .slice none 0 0]) ?_ 0 _ rfl; (with_reducible repeat (first | refine blk_drewN ?_ _ | refine blk_drew ?_ | refine blk_alloc ?_ _)); exact zb.out⟩
                  have n6_ : Aside0 (Below w.heap.size w ((w47.setCell ⟨zh, 0, none⟩ (.slice zH t822.length zI)).setCell ⟨zh, 1, none⟩ (.slice zM t825.length zN))) := ⟨by repeat (first | (with_reducible first | exact HB.out | apply below_alloc | apply pw_below_drewN | apply below_drew1 | refine below_set ?_ zT.out | refine below_set ?_ zV.out) | exact HB.out)⟩
                  (try clear zc)
                  (try clear zd)
                  (try clear zq)
                  (try clear zr)
                  (try clear za)
                  (try clear zb)
                  (try clear HB)
                  generalize ((w47.setCell ⟨zh, 0, none⟩ (.slice zH t822.length zI)).setCell ⟨zh, 1, none⟩ (.slice zM t825.length zN)) = w52 at n0_ n1_ n2_ n3_ n4_ n5_ n6_ ⊢
                  have zc := n0_
                  have zd := n1_
                  have zq := n2_
                  have zr := n3_
                  have za := n4_
                  have zb := n5_
                  have HB := n6_
                  clear n0_ n1_ n2_ n3_ n4_ n5_ n6_
                  have n0_ := Aside0.mk (Kd.R_drew zc.out)
                  have n1_ := Aside0.mk (Kd.R_drew zd.out)
                  have n2_ := Aside0.mk (Kd.R_drew zq.out)
                  have n3_ := Aside0.mk (Kd.R_drew zr.out)
                  have n4_ := Aside0.mk (blk_drew za.out)
                  have n5_ := Aside0.mk (blk_drew zb.out)
                  have n6_ := Aside0.mk (below_drew1 HB.out)
                  clear zc zd zq zr za zb HB
                  have zc := n0_
                  have zd := n1_
                  have zq := n2_
                  have zr := n3_
                  have za := n4_
                  have zb := n5_
                  have HB := n6_
                  clear n0_ n1_ n2_ n3_ n4_ n5_ n6_
                  refine start_ (n := 10) (S := fun w' => w'.cell? ⟨zh, 0, none⟩ = some (.slice zH t822.length zI) ∧ w'.cell? ⟨zh, 1, none⟩ = some (.slice zM t825.length zN)) (ds := []) #[false, false, false, false, false, false, false, false, false, false] (by kernel_rfl) rfl rfl ⟨(blk_cell zb.out 0).trans rfl, (blk_cell zb.out 1).trans rfl⟩ (fun hHeld => ?_); refine with_tabW laws_FnActions.tab6 laws_FnActions.bits6 (fun HT_ HW_ => ?_)
                  generalize w52.drew = w53 at zc zd zq zr za zb HB hHeld ⊢
                  refine pure_ (i := 1) (N := some 40) (v := ?_) (a' := ?_) #[false, true, false, false, false, false, false, false, false, false] rfl rfl (any_of HT_.out (by kernel_rfl)) (fun _ _ _ h => h) (Or.inl ⟨by rfl, ?_⟩) ?_ ?_
                  rotate_left
                  ·intro w'
                   go_simp
                   with_reducible rfl
                  rotate_left
                  ·simp only [Act.put, List.setIfInBounds_toArray, List.set_cons_zero, List.set_cons_succ, i64_w, i32_w]
                   rfl
                  refine take_ (i := 0) (N := some 39) (v := ?_) (a' := ?_) #[true, true, false, false, false, false, false, false, false, false] rfl rfl (take_ofW HT_.out HW_.out (by kernel_rfl)) (fun _ _ _ h => h) (Or.inl ⟨by rfl, ?_⟩) hHeld ?_ ?_
                  rotate_left
                  ·rintro w' ⟨s0, s1⟩
                   go_simp
                   with_reducible rfl
                  rotate_left
                  ·simp only [Act.put, List.setIfInBounds_toArray, List.set_cons_zero, List.set_cons_succ, i64_w, i32_w]
                   rfl
                  refine join_ (σ := Value × Value × Nat) 2 #[true, true, true, true, true, true, true, true, false, false] (fun s_ => [(41, .string t830), (42, .tuple #[.agg #[s_.1, s_.2.1], .bool true]), (7, .pointer (some ⟨s_.2.2, 0, none⟩)), (38, .tuple #[.agg #[s_.1, s_.2.1], .bool true]), (43, .agg #[s_.1, s_.2.1]), (44, .bool true)]) (fun s_ w' => (w'.cell? ⟨zh, 0, none⟩ = some (.slice zH t822.length zI) ∧ w'.cell? ⟨zh, 1, none⟩ = some (.slice zM t825.length zN)) ∧ (Kd.R (Kd.int .i64) 3 w' w.heap.size (fun _ => True) (.slice zK t814.length zB) t814) ∧ (Kd.R (Kd.int .i64) 3 w' w.heap.size (fun _ => True) (.slice zL t817.length zC) t817) ∧ (Kd.R (Kd.int .i64) 3 w' w.heap.size (fun _ => True) (.slice zH t822.length zI) t822) ∧ (Kd.R (Kd.int .i64) 3 w' w.heap.size (fun _ => True) (.slice zM t825.length zN) t825) ∧ (Kd.R (Kd.int .i64) 3 w' w.heap.size (fun _ => True) s_.1 t831) ∧ (Kd.R (Kd.int .i64) 3 w' w.heap.size (fun _ => True) s_.2.1 t834) ∧ (w'.heap[zn]? = some (.cells #[.slice zK t814.length zB, .slice zL t817.length zC] 33 (0, 0))) ∧ (w'.heap[zh]? = some (.cells #[.slice zH t822.length zI, .slice zM t825.length zN] 33 (0, 0))) ∧ (w'.heap[s_.2.2]? = some (.cells #[.slice none 0 0, .slice none 0 0] 33 (0, 0))) ∧ (w.heap.size ≤ s_.2.2) ∧ (w.heap.size ≤ s_.2.2) ∧ (zn ≠ s_.2.2) ∧ (s_.2.2 ≠ zn) ∧ (zh ≠ s_.2.2) ∧ (s_.2.2 ≠ zh) ∧ (Below w.heap.size w w')) ?_ ?_
                  rotate_left
                  ·intro hCont
                   refine two_ (i := 2) (j := 7) (Ni := some 41) (Nj := some 7) #[true, true, true, false, false, false, false, false, false, false] #[true, true, false, false, false, false, false, true, false, false] rfl rfl rfl rfl (two_of HT_.out (by kernel_rfl)) (by decide) (by decide) (fun K hK => ?_) (fun K hK => ?_)
                   ·skip
                    refine goes_ Try.func45 (by kernel_rfl) rfl #[.string t821] (by rfl) rfl rfl (by (try simp only [List.map_toArray, List.map_cons, List.map_nil]); first | done | rfl | (simp only [List.length_drop, List.length_take]; rfl)) ?_
                    with_reducible refine (impl_InverseWord.calls k t821 t830 _ A6.out).mono ?_
                    rintro e w54 ⟨rfl, hb⟩
                    refine ⟨_, rfl, ?_⟩
                    have n0_ := Aside0.mk (Kd.R_below (by (with_reducible repeat (first | apply Kd.R_alloc | apply Kd.R_drewN | apply Kd.R_drew)); exact zc.out) hb)
                    have n1_ := Aside0.mk (Kd.R_below (by (with_reducible repeat (first | apply Kd.R_alloc | apply Kd.R_drewN | apply Kd.R_drew)); exact zd.out) hb)
                    have n2_ := Aside0.mk (Kd.R_below (by (with_reducible repeat (first | apply Kd.R_alloc | apply Kd.R_drewN | apply Kd.R_drew)); exact zq.out) hb)
                    have n3_ := Aside0.mk (Kd.R_below (by (with_reducible repeat (first | apply Kd.R_alloc | apply Kd.R_drewN | apply Kd.R_drew)); exact zr.out) hb)
                    have n4_ := Aside0.mk (blk_below (g := zn) (o := .cells #[.slice zK t814.length zB, .slice zL t817.length zC] 33 (0, 0)) (by (with_reducible repeat (first | refine blk_drewN ?_ _ | refine blk_drew ?_ | refine blk_alloc ?_ _)); exact za.out) hb)
                    have n5_ := Aside0.mk (blk_below (g := zh) (o := .cells #[.slice zH t822.length zI, .slice zM t825.length zN] 33 (0, 0)) (by (with_reducible repeat (first | refine blk_drewN ?_ _ | refine blk_drew ?_ | refine blk_alloc ?_ _)); exact zb.out) hb)
                    have n6_ := Aside0.mk (below_step (by repeat (first | (with_reducible first | exact HB.out | apply below_alloc | apply pw_below_drewN | apply below_drew1 | refine below_set ?_ zT.out | refine below_set ?_ zV.out) | exact HB.out)) hb)
                    clear zc zd zq zr za zb HB
                    have zc := n0_
                    have zd := n1_
                    have zq := n2_
                    have zr := n3_
                    have za := n4_
                    have zb := n5_
                    have HB := n6_
                    clear n0_ n1_ n2_ n3_ n4_ n5_ n6_
                    (try clear hb)
                    (try clear hb2)
                    (try clear hk)
                    (try clear hi)
                    refine hK.out _ _ ⟨(blk_cell zb.out 0).trans rfl, (blk_cell zb.out 1).trans rfl⟩ (fun hHeld => ?_)
                    clear hK K
                    refine norm_ (a' := ?_) ?_ ?_
                    rotate_left
                    ·show Act.put _ (some 41) _ = _
                     simp only [Act.put, List.setIfInBounds_toArray, List.set_cons_zero, List.set_cons_succ, i64_w, i32_w]
                     rfl
                    refine two_ (i := 3) (j := 7) (Ni := some 42) (Nj := some 7) #[true, true, true, true, false, false, false, false, false, false] #[true, true, true, false, false, false, false, true, false, false] rfl rfl rfl rfl (two_of HT_.out (by kernel_rfl)) (by decide) (by decide) (fun K hK => ?_) (fun K hK => ?_)
                    ·skip
                     refine goes_ Try.func50 (by kernel_rfl) rfl #[.agg #[.slice zH t822.length zI, .slice zM t825.length zN], .string t830] (by rfl) rfl rfl (by (try simp only [List.map_toArray, List.map_cons, List.map_nil]); first | done | rfl | (simp only [List.length_drop, List.length_take]; rfl)) ?_
                     with_reducible refine (impl_RunWord.calls k _ _ t822 _ _ t825 t830 t831 t834 true _ ?side1 ?side2 ?side3 ?side4 A7.out).mono ?_
                     (case side1 => repeat (first | exact (Kd.R_reads' zq.out).2.2 | (with_reducible refine Kd.C_alloc ?_ _) | (with_reducible refine Kd.C_drewN ?_ _) | (with_reducible refine Kd.C_drew ?_)))
                     (case side2 => exact (Kd.R_reads' zq.out).2.1)
                     (case side3 => repeat (first | exact (Kd.R_reads' zr.out).2.2 | (with_reducible refine Kd.C_alloc ?_ _) | (with_reducible refine Kd.C_drewN ?_ _) | (with_reducible refine Kd.C_drew ?_)))
                     (case side4 => exact (Kd.R_reads' zr.out).2.1)
                     rintro e w55 ⟨v832, v835, rfl, ho0, ho1, hb⟩
                     refine ⟨_, rfl, ?_⟩
                     have n0_ := Aside0.mk (Kd.R_below (by (with_reducible repeat (first | apply Kd.R_alloc | apply Kd.R_drewN | apply Kd.R_drew)); exact zc.out) hb)
                     have n1_ := Aside0.mk (Kd.R_below (by (with_reducible repeat (first | apply Kd.R_alloc | apply Kd.R_drewN | apply Kd.R_drew)); exact zd.out) hb)
                     have n2_ := Aside0.mk (Kd.R_below (by (with_reducible repeat (first | apply Kd.R_alloc | apply Kd.R_drewN | apply Kd.R_drew)); exact zq.out) hb)
                     have n3_ := Aside0.mk (Kd.R_below (by (with_reducible repeat (first | apply Kd.R_alloc | apply Kd.R_drewN | apply Kd.R_drew)); exact zr.out) hb)
                     have n4_ := Aside0.mk (R_fresh ho0 (below_size (by repeat (first | (with_reducible first | exact HB.out | apply below_alloc | apply pw_below_drewN | apply below_drew1 | refine below_set ?_ zT.out | refine below_set ?_ zV.out) | exact HB.out))))
                     have n5_ := Aside0.mk (R_fresh ho1 (below_size (by repeat (first | (with_reducible first | exact HB.out | apply below_alloc | apply pw_below_drewN | apply below_drew1 | refine below_set ?_ zT.out | refine below_set ?_ zV.out) | exact HB.out))))
                     have n6_ := Aside0.mk (blk_below (g := zn) (o := .cells #[.slice zK t814.length zB, .slice zL t817.length zC] 33 (0, 0)) (by (with_reducible repeat (first | refine blk_drewN ?_ _ | refine blk_drew ?_ | refine blk_alloc ?_ _)); exact za.out) hb)
                     have n7_ := Aside0.mk (blk_below (g := zh) (o := .cells #[.slice zH t822.length zI, .slice zM t825.length zN] 33 (0, 0)) (by (with_reducible repeat (first | refine blk_drewN ?_ _ | refine blk_drew ?_ | refine blk_alloc ?_ _)); exact zb.out) hb)
                     have n8_ := Aside0.mk (below_step (by repeat (first | (with_reducible first | exact HB.out | apply below_alloc | apply pw_below_drewN | apply below_drew1 | refine below_set ?_ zT.out | refine below_set ?_ zV.out) | exact HB.out)) hb)
                     clear zc zd zq zr za zb HB
                     have zc := n0_
                     have zd := n1_
                     have zq := n2_
                     have zr := n3_
                     have zt := n4_
                     have zu := n5_
                     have za := n6_
                     have zb := n7_
                     have HB := n8_
                     clear n0_ n1_ n2_ n3_ n4_ n5_ n6_ n7_ n8_
                     (try clear hb)
                     (try clear hb2)
                     (try clear hk)
                     (try clear hi)
                     (try clear ho0)
                     (try clear ho1)
                     refine hK.out _ _ ⟨(blk_cell zb.out 0).trans rfl, (blk_cell zb.out 1).trans rfl⟩ (fun hHeld => ?_)
                     clear hK K
                     refine norm_ (a' := ?_) ?_ ?_
                     rotate_left
                     ·show Act.put _ (some 42) _ = _
                      simp only [Act.put, List.setIfInBounds_toArray, List.set_cons_zero, List.set_cons_succ, i64_w, i32_w]
                      rfl
                     refine pure_ (i := 4) (N := some 38) (v := ?_) (a' := ?_) #[true, true, true, true, true, false, false, false, false, false] rfl rfl (any_of HT_.out (by kernel_rfl)) (fun _ _ _ h => h) (Or.inl ⟨by rfl, ?_⟩) ?_ ?_
                     rotate_left
                     ·intro w'
                      go_simp
                      with_reducible rfl
                     rotate_left
                     ·simp only [Act.put, List.setIfInBounds_toArray, List.set_cons_zero, List.set_cons_succ, i64_w, i32_w]
                      rfl
                     refine pure_ (i := 5) (N := some 43) (v := ?_) (a' := ?_) #[true, true, true, true, true, true, false, false, false, false] rfl rfl (any_of HT_.out (by kernel_rfl)) (fun _ _ _ h => h) (Or.inl ⟨by rfl, ?_⟩) ?_ ?_
                     rotate_left
                     ·intro w'
                      go_simp
                      with_reducible rfl
                     rotate_left
                     ·simp only [Act.put, List.setIfInBounds_toArray, List.set_cons_zero, List.set_cons_succ, i64_w, i32_w]
                      rfl
                     refine pure_ (i := 6) (N := some 44) (v := ?_) (a' := ?_) #[true, true, true, true, true, true, true, false, false, false] rfl rfl (any_of HT_.out (by kernel_rfl)) (fun _ _ _ h => h) (Or.inl ⟨by rfl, ?_⟩) ?_ ?_
                     rotate_left
                     ·intro w'
                      go_simp
                      with_reducible rfl
                     rotate_left
                     ·simp only [Act.put, List.setIfInBounds_toArray, List.set_cons_zero, List.set_cons_succ, i64_w, i32_w]
                      rfl
                     refine one_ (i := 7) (N := some 7) #[true, true, true, true, true, true, true, true, false, false] rfl rfl (one_of HT_.out (by kernel_rfl)) (by decide) (fun K hK => ?_)
                     refine box_step ?hg (N := 7) ?hd (cs := #[.slice none 0 0, .slice none 0 0]) (t := 33) ?hr ?_; (case hd => rfl); (case hg => rfl); (case hr => first | (go_simp; done) | (go_simp; rfl))
                     intro zw hg w56 hbox hb
                     have n0_ := Aside0.mk (Kd.R_below (by (with_reducible repeat (first | apply Kd.R_alloc | apply Kd.R_drewN | apply Kd.R_drew)); exact zc.out) hb)
                     have n1_ := Aside0.mk (Kd.R_below (by (with_reducible repeat (first | apply Kd.R_alloc | apply Kd.R_drewN | apply Kd.R_drew)); exact zd.out) hb)
                     have n2_ := Aside0.mk (Kd.R_below (by (with_reducible repeat (first | apply Kd.R_alloc | apply Kd.R_drewN | apply Kd.R_drew)); exact zq.out) hb)
                     have n3_ := Aside0.mk (Kd.R_below (by (with_reducible repeat (first | apply Kd.R_alloc | apply Kd.R_drewN | apply Kd.R_drew)); exact zr.out) hb)
                     have n4_ := Aside0.mk (Kd.R_below (by (with_reducible repeat (first | apply Kd.R_alloc | apply Kd.R_drewN | apply Kd.R_drew)); exact zt.out) hb)
                     have n5_ := Aside0.mk (Kd.R_below (by (with_reducible repeat (first | apply Kd.R_alloc | apply Kd.R_drewN | apply Kd.R_drew)); exact zu.out) hb)
                     have n6_ := Aside0.mk (blk_below (g := zn) (o := .cells #[.slice zK t814.length zB, .slice zL t817.length zC] 33 (0, 0)) (by (with_reducible repeat (first | refine blk_drewN ?_ _ | refine blk_drew ?_ | refine blk_alloc ?_ _)); exact za.out) hb)
                     have n7_ := Aside0.mk (blk_below (g := zh) (o := .cells #[.slice zH t822.length zI, .slice zM t825.length zN] 33 (0, 0)) (by (with_reducible repeat (first | refine blk_drewN ?_ _ | refine blk_drew ?_ | refine blk_alloc ?_ _)); exact zb.out) hb)
                     have n8_ := Aside0.mk (below_step (by repeat (first | (with_reducible first | exact HB.out | apply below_alloc | apply pw_below_drewN | apply below_drew1 | refine below_set ?_ zT.out | refine below_set ?_ zV.out) | exact HB.out)) hb)
                     have n9_ := Aside0.mk (hbox)
                     have n10_ := Aside0.mk ((by rw [hg]; exact (below_size (by repeat (first | (with_reducible first | exact HB.out | apply below_alloc | apply pw_below_drewN | apply below_drew1 | refine below_set ?_ zT.out | refine below_set ?_ zV.out) | exact HB.out))) : w.heap.size ≤ zw))
                     have n11_ := Aside0.mk ((by rw [hg]; exact (below_size (by repeat (first | (with_reducible first | exact HB.out | apply below_alloc | apply pw_below_drewN | apply below_drew1 | refine below_set ?_ zT.out | refine below_set ?_ zV.out) | exact HB.out))) : w.heap.size ≤ zw))
                     have n12_ := Aside0.mk ((by rw [hg]; exact Nat.ne_of_lt (blk_lt (g := zn) (o := .cells #[.slice zK t814.length zB, .slice zL t817.length zC] 33 (0, 0)) (by (with_reducible repeat (first | refine blk_drewN ?_ _ | refine blk_drew ?_ | refine blk_alloc ?_ _)); exact za.out)) : zn ≠ zw))
                     have n13_ := Aside0.mk ((by rw [hg]; exact Nat.ne_of_gt (blk_lt (g := zn) (o := .cells #[.slice zK t814.length zB, .slice zL t817.length zC] 33 (0, 0)) (by (with_reducible repeat (first | refine blk_drewN ?_ _ | refine blk_drew ?_ | refine blk_alloc ?_ _)); exact za.out)) : zw ≠ zn))
                     have n14_ := Aside0.mk ((by rw [hg]; exact Nat.ne_of_lt (blk_lt (g := zh) (o := .cells #[.slice zH t822.length zI, .slice zM t825.length zN] 33 (0, 0)) (by (with_reducible repeat (first | refine blk_drewN ?_ _ | refine blk_drew ?_ | refine blk_alloc ?_ _)); exact zb.out)) : zh ≠ zw))
                     have n15_ := Aside0.mk ((by rw [hg]; exact Nat.ne_of_gt (blk_lt (g := zh) (o := .cells #[.slice zH t822.length zI, .slice zM t825.length zN] 33 (0, 0)) (by (with_reducible repeat (first | refine blk_drewN ?_ _ | refine blk_drew ?_ | refine blk_alloc ?_ _)); exact zb.out)) : zw ≠ zh))
                     clear zc zd zq zr zt zu za zb HB
                     have zc := n0_
                     have zd := n1_
                     have zq := n2_
                     have zr := n3_
                     have zt := n4_
                     have zu := n5_
                     have za := n6_
                     have zb := n7_
                     have HB := n8_
                     have ze := n9_
                     have zj1 := n10_
                     have zZ := n11_
                     have za1 := n12_
                     have zd1 := n13_
                     have zU := n14_
                     have ze1 := n15_
                     clear n0_ n1_ n2_ n3_ n4_ n5_ n6_ n7_ n8_ n9_ n10_ n11_ n12_ n13_ n14_ n15_ hb hbox hg
                     refine hK.out _ _ ⟨(blk_cell zb.out 0).trans rfl, (blk_cell zb.out 1).trans rfl⟩ (fun hHeld => ?_)
                     clear hK K
                     refine norm_ (a' := ?_) ?_ ?_
                     rotate_left
                     ·show Act.put _ (some 7) _ = _
                      simp only [Act.put, List.setIfInBounds_toArray, List.set_cons_zero, List.set_cons_succ, i64_w, i32_w]
                      rfl
                     exact norm_ (by simp only [putAll, Act.put, List.setIfInBounds_toArray, List.set_cons_zero, List.set_cons_succ]) (hCont (v832, v835, zw) _ ⟨hHeld, (by (with_reducible repeat (first | apply Kd.R_alloc | apply Kd.R_drewN | apply Kd.R_drew)); exact Kd.R_mono zc.out (fun _ _ => trivial)), (by (with_reducible repeat (first | apply Kd.R_alloc | apply Kd.R_drewN | apply Kd.R_drew)); exact Kd.R_mono zd.out (fun _ _ => trivial)), (by (with_reducible repeat (first | apply Kd.R_alloc | apply Kd.R_drewN | apply Kd.R_drew)); exact Kd.R_mono zq.out (fun _ _ => trivial)), (by (with_reducible repeat (first | apply Kd.R_alloc | apply Kd.R_drewN | apply Kd.R_drew)); exact Kd.R_mono zr.out (fun _ _ => trivial)), (by (with_reducible repeat (first | apply Kd.R_alloc | apply Kd.R_drewN | apply Kd.R_drew)); exact Kd.R_mono zt.out (fun _ _ => trivial)), (by (with_reducible repeat (first | apply Kd.R_alloc | apply Kd.R_drewN | apply Kd.R_drew)); exact Kd.R_mono zu.out (fun _ _ => trivial)), (by (with_reducible repeat (first | refine blk_drewN ?_ _ | refine blk_drew ?_ | refine blk_alloc ?_ _)); exact za.out), (by (with_reducible repeat (first | refine blk_drewN ?_ _ | refine blk_drew ?_ | refine blk_alloc ?_ _)); exact zb.out), (by (with_reducible repeat (first | refine blk_drewN ?_ _ | refine blk_drew ?_ | refine blk_alloc ?_ _)); exact ze.out), zj1.out, zZ.out, za1.out, zd1.out, zU.out, ze1.out, (by repeat (first | (with_reducible first | exact HB.out | apply below_alloc | apply pw_below_drewN | apply below_drew1 | refine below_set ?_ zT.out | refine below_set ?_ zV.out | refine below_set ?_ zZ.out) | exact HB.out))⟩)
                    ·skip
                     refine box_step ?hg (N := 7) ?hd (cs := #[.slice none 0 0, .slice none 0 0]) (t := 33) ?hr ?_; (case hd => rfl); (case hg => rfl); (case hr => first | (go_simp; done) | (go_simp; rfl))
                     intro zw hg w55 hbox hb
                     have n0_ := Aside0.mk (Kd.R_below (by (with_reducible repeat (first | apply Kd.R_alloc | apply Kd.R_drewN | apply Kd.R_drew)); exact zc.out) hb)
                     have n1_ := Aside0.mk (Kd.R_below (by (with_reducible repeat (first | apply Kd.R_alloc | apply Kd.R_drewN | apply Kd.R_drew)); exact zd.out) hb)
                     have n2_ := Aside0.mk (Kd.R_below (by (with_reducible repeat (first | apply Kd.R_alloc | apply Kd.R_drewN | apply Kd.R_drew)); exact zq.out) hb)
                     have n3_ := Aside0.mk (Kd.R_below (by (with_reducible repeat (first | apply Kd.R_alloc | apply Kd.R_drewN | apply Kd.R_drew)); exact zr.out) hb)
                     have n4_ := Aside0.mk (blk_below (g := zn) (o := .cells #[.slice zK t814.length zB, .slice zL t817.length zC] 33 (0, 0)) (by (with_reducible repeat (first | refine blk_drewN ?_ _ | refine blk_drew ?_ | refine blk_alloc ?_ _)); exact za.out) hb)
                     have n5_ := Aside0.mk (blk_below (g := zh) (o := .cells #[.slice zH t822.length zI, .slice zM t825.length zN] 33 (0, 0)) (by (with_reducible repeat (first | refine blk_drewN ?_ _ | refine blk_drew ?_ | refine blk_alloc ?_ _)); exact zb.out) hb)
                     have n6_ := Aside0.mk (below_step (by repeat (first | (with_reducible first | exact HB.out | apply below_alloc | apply pw_below_drewN | apply below_drew1 | refine below_set ?_ zT.out | refine below_set ?_ zV.out) | exact HB.out)) hb)
                     have n7_ := Aside0.mk (hbox)
                     have n8_ := Aside0.mk ((by rw [hg]; exact (below_size (by repeat (first | (with_reducible first | exact HB.out | apply below_alloc | apply pw_below_drewN | apply below_drew1 | refine below_set ?_ zT.out | refine below_set ?_ zV.out) | exact HB.out))) : w.heap.size ≤ zw))
                     have n9_ := Aside0.mk ((by rw [hg]; exact (below_size (by repeat (first | (with_reducible first | exact HB.out | apply below_alloc | apply pw_below_drewN | apply below_drew1 | refine below_set ?_ zT.out | refine below_set ?_ zV.out) | exact HB.out))) : w.heap.size ≤ zw))
                     have n10_ := Aside0.mk ((by rw [hg]; exact Nat.ne_of_lt (blk_lt (g := zn) (o := .cells #[.slice zK t814.length zB, .slice zL t817.length zC] 33 (0, 0)) (by (with_reducible repeat (first | refine blk_drewN ?_ _ | refine blk_drew ?_ | refine blk_alloc ?_ _)); exact za.out)) : zn ≠ zw))
                     have n11_ := Aside0.mk ((by rw [hg]; exact Nat.ne_of_gt (blk_lt (g := zn) (o := .cells #[.slice zK t814.length zB, .slice zL t817.length zC] 33 (0, 0)) (by (with_reducible repeat (first | refine blk_drewN ?_ _ | refine blk_drew ?_ | refine blk_alloc ?_ _)); exact za.out)) : zw ≠ zn))
                     have n12_ := Aside0.mk ((by rw [hg]; exact Nat.ne_of_lt (blk_lt (g := zh) (o := .cells #[.slice zH t822.length zI, .slice zM t825.length zN] 33 (0, 0)) (by (with_reducible repeat (first | refine blk_drewN ?_ _ | refine blk_drew ?_ | refine blk_alloc ?_ _)); exact zb.out)) : zh ≠ zw))
                     have n13_ := Aside0.mk ((by rw [hg]; exact Nat.ne_of_gt (blk_lt (g := zh) (o := .cells #[.slice zH t822.length zI, .slice zM t825.length zN] 33 (0, 0)) (by (with_reducible repeat (first | refine blk_drewN ?_ _ | refine blk_drew ?_ | refine blk_alloc ?_ _)); exact zb.out)) : zw ≠ zh))
                     clear zc zd zq zr za zb HB
                     have zc := n0_
                     have zd := n1_
                     have zq := n2_
                     have zr := n3_
                     have za := n4_
                     have zb := n5_
                     have HB := n6_
                     have ze := n7_
                     have zj1 := n8_
                     have zZ := n9_
                     have za1 := n10_
                     have zd1 := n11_
                     have zU := n12_
                     have ze1 := n13_
                     clear n0_ n1_ n2_ n3_ n4_ n5_ n6_ n7_ n8_ n9_ n10_ n11_ n12_ n13_ hb hbox hg
                     refine hK.out _ _ ⟨(blk_cell zb.out 0).trans rfl, (blk_cell zb.out 1).trans rfl⟩ (fun hHeld => ?_)
                     clear hK K
                     refine norm_ (a' := ?_) ?_ ?_
                     rotate_left
                     ·show Act.put _ (some 7) _ = _
                      simp only [Act.put, List.setIfInBounds_toArray, List.set_cons_zero, List.set_cons_succ, i64_w, i32_w]
                      rfl
                     refine one_ (i := 3) (N := some 42) #[true, true, true, true, false, false, false, true, false, false] rfl rfl (one_of HT_.out (by kernel_rfl)) (by decide) (fun K hK => ?_)
                     refine goes_ Try.func50 (by kernel_rfl) rfl #[.agg #[.slice zH t822.length zI, .slice zM t825.length zN], .string t830] (by rfl) rfl rfl (by (try simp only [List.map_toArray, List.map_cons, List.map_nil]); first | done | rfl | (simp only [List.length_drop, List.length_take]; rfl)) ?_
                     with_reducible refine (impl_RunWord.calls k _ _ t822 _ _ t825 t830 t831 t834 true _ ?side1 ?side2 ?side3 ?side4 A7.out).mono ?_
                     (case side1 => repeat (first | exact (Kd.R_reads' zq.out).2.2 | (with_reducible refine Kd.C_alloc ?_ _) | (with_reducible refine Kd.C_drewN ?_ _) | (with_reducible refine Kd.C_drew ?_)))
                     (case side2 => exact (Kd.R_reads' zq.out).2.1)
                     (case side3 => repeat (first | exact (Kd.R_reads' zr.out).2.2 | (with_reducible refine Kd.C_alloc ?_ _) | (with_reducible refine Kd.C_drewN ?_ _) | (with_reducible refine Kd.C_drew ?_)))
                     (case side4 => exact (Kd.R_reads' zr.out).2.1)
                     rintro e w56 ⟨v832, v835, rfl, ho0, ho1, hb⟩
                     refine ⟨_, rfl, ?_⟩
                     have n0_ := Aside0.mk (Kd.R_below (by (with_reducible repeat (first | apply Kd.R_alloc | apply Kd.R_drewN | apply Kd.R_drew)); exact zc.out) hb)
                     have n1_ := Aside0.mk (Kd.R_below (by (with_reducible repeat (first | apply Kd.R_alloc | apply Kd.R_drewN | apply Kd.R_drew)); exact zd.out) hb)
                     have n2_ := Aside0.mk (Kd.R_below (by (with_reducible repeat (first | apply Kd.R_alloc | apply Kd.R_drewN | apply Kd.R_drew)); exact zq.out) hb)
                     have n3_ := Aside0.mk (Kd.R_below (by (with_reducible repeat (first | apply Kd.R_alloc | apply Kd.R_drewN | apply Kd.R_drew)); exact zr.out) hb)
                     have n4_ := Aside0.mk (R_fresh ho0 (below_size (by repeat (first | (with_reducible first | exact HB.out | apply below_alloc | apply pw_below_drewN | apply below_drew1 | refine below_set ?_ zT.out | refine below_set ?_ zV.out | refine below_set ?_ zZ.out) | exact HB.out))))
                     have n5_ := Aside0.mk (R_fresh ho1 (below_size (by repeat (first | (with_reducible first | exact HB.out | apply below_alloc | apply pw_below_drewN | apply below_drew1 | refine below_set ?_ zT.out | refine below_set ?_ zV.out | refine below_set ?_ zZ.out) | exact HB.out))))
                     have n6_ := Aside0.mk (blk_below (g := zn) (o := .cells #[.slice zK t814.length zB, .slice zL t817.length zC] 33 (0, 0)) (by (with_reducible repeat (first | refine blk_drewN ?_ _ | refine blk_drew ?_ | refine blk_alloc ?_ _)); exact za.out) hb)
                     have n7_ := Aside0.mk (blk_below (g := zh) (o := .cells #[.slice zH t822.length zI, .slice zM t825.length zN] 33 (0, 0)) (by (with_reducible repeat (first | refine blk_drewN ?_ _ | refine blk_drew ?_ | refine blk_alloc ?_ _)); exact zb.out) hb)
                     have n8_ := Aside0.mk (blk_below (g := zw) (o := .cells #[.slice none 0 0, .slice none 0 0] 33 (0, 0)) (by (with_reducible repeat (first | refine blk_drewN ?_ _ | refine blk_drew ?_ | refine blk_alloc ?_ _)); exact ze.out) hb)
                     have n9_ := Aside0.mk (below_step (by repeat (first | (with_reducible first | exact HB.out | apply below_alloc | apply pw_below_drewN | apply below_drew1 | refine below_set ?_ zT.out | refine below_set ?_ zV.out | refine below_set ?_ zZ.out) | exact HB.out)) hb)
                     clear zc zd zq zr za zb ze HB
                     have zc := n0_
                     have zd := n1_
                     have zq := n2_
                     have zr := n3_
                     have zt := n4_
                     have zu := n5_
                     have za := n6_
                     have zb := n7_
                     have ze := n8_
                     have HB := n9_
                     clear n0_ n1_ n2_ n3_ n4_ n5_ n6_ n7_ n8_ n9_
                     (try clear hb)
                     (try clear hb2)
                     (try clear hk)
                     (try clear hi)
                     (try clear ho0)
                     (try clear ho1)
                     refine hK.out _ _ ⟨(blk_cell zb.out 0).trans rfl, (blk_cell zb.out 1).trans rfl⟩ (fun hHeld => ?_)
                     clear hK K
                     refine norm_ (a' := ?_) ?_ ?_
                     rotate_left
                     ·show Act.put _ (some 42) _ = _
                      simp only [Act.put, List.setIfInBounds_toArray, List.set_cons_zero, List.set_cons_succ, i64_w, i32_w]
                      rfl
                     refine pure_ (i := 4) (N := some 38) (v := ?_) (a' := ?_) #[true, true, true, true, true, false, false, true, false, false] rfl rfl (any_of HT_.out (by kernel_rfl)) (fun _ _ _ h => h) (Or.inl ⟨by rfl, ?_⟩) ?_ ?_
                     rotate_left
                     ·intro w'
                      go_simp
                      with_reducible rfl
                     rotate_left
                     ·simp only [Act.put, List.setIfInBounds_toArray, List.set_cons_zero, List.set_cons_succ, i64_w, i32_w]
                      rfl
                     refine pure_ (i := 5) (N := some 43) (v := ?_) (a' := ?_) #[true, true, true, true, true, true, false, true, false, false] rfl rfl (any_of HT_.out (by kernel_rfl)) (fun _ _ _ h => h) (Or.inl ⟨by rfl, ?_⟩) ?_ ?_
                     rotate_left
                     ·intro w'
                      go_simp
                      with_reducible rfl
                     rotate_left
                     ·simp only [Act.put, List.setIfInBounds_toArray, List.set_cons_zero, List.set_cons_succ, i64_w, i32_w]
                      rfl
                     refine pure_ (i := 6) (N := some 44) (v := ?_) (a' := ?_) #[true, true, true, true, true, true, true, true, false, false] rfl rfl (any_of HT_.out (by kernel_rfl)) (fun _ _ _ h => h) (Or.inl ⟨by rfl, ?_⟩) ?_ ?_
                     rotate_left
                     ·intro w'
                      go_simp
                      with_reducible rfl
                     rotate_left
                     ·simp only [Act.put, List.setIfInBounds_toArray, List.set_cons_zero, List.set_cons_succ, i64_w, i32_w]
                      rfl
                     exact norm_ (by simp only [putAll, Act.put, List.setIfInBounds_toArray, List.set_cons_zero, List.set_cons_succ]) (hCont (v832, v835, zw) _ ⟨hHeld, (by (with_reducible repeat (first | apply Kd.R_alloc | apply Kd.R_drewN | apply Kd.R_drew)); exact Kd.R_mono zc.out (fun _ _ => trivial)), (by (with_reducible repeat (first | apply Kd.R_alloc | apply Kd.R_drewN | apply Kd.R_drew)); exact Kd.R_mono zd.out (fun _ _ => trivial)), (by (with_reducible repeat (first | apply Kd.R_alloc | apply Kd.R_drewN | apply Kd.R_drew)); exact Kd.R_mono zq.out (fun _ _ => trivial)), (by (with_reducible repeat (first | apply Kd.R_alloc | apply Kd.R_drewN | apply Kd.R_drew)); exact Kd.R_mono zr.out (fun _ _ => trivial)), (by (with_reducible repeat (first | apply Kd.R_alloc | apply Kd.R_drewN | apply Kd.R_drew)); exact Kd.R_mono zt.out (fun _ _ => trivial)), (by (with_reducible repeat (first | apply Kd.R_alloc | apply Kd.R_drewN | apply Kd.R_drew)); exact Kd.R_mono zu.out (fun _ _ => trivial)), (by (with_reducible repeat (first | refine blk_drewN ?_ _ | refine blk_drew ?_ | refine blk_alloc ?_ _)); exact za.out), (by (with_reducible repeat (first | refine blk_drewN ?_ _ | refine blk_drew ?_ | refine blk_alloc ?_ _)); exact zb.out), (by (with_reducible repeat (first | refine blk_drewN ?_ _ | refine blk_drew ?_ | refine blk_alloc ?_ _)); exact ze.out), zj1.out, zZ.out, za1.out, zd1.out, zU.out, ze1.out, (by repeat (first | (with_reducible first | exact HB.out | apply below_alloc | apply pw_below_drewN | apply below_drew1 | refine below_set ?_ zT.out | refine below_set ?_ zV.out | refine below_set ?_ zZ.out) | exact HB.out))⟩)
                   ·skip
                    refine box_step ?hg (N := 7) ?hd (cs := #[.slice none 0 0, .slice none 0 0]) (t := 33) ?hr ?_; (case hd => rfl); (case hg => rfl); (case hr => first | (go_simp; done) | (go_simp; rfl))
                    intro zw hg w54 hbox hb
                    have n0_ := Aside0.mk (Kd.R_below (by (with_reducible repeat (first | apply Kd.R_alloc | apply Kd.R_drewN | apply Kd.R_drew)); exact zc.out) hb)
                    have n1_ := Aside0.mk (Kd.R_below (by (with_reducible repeat (first | apply Kd.R_alloc | apply Kd.R_drewN | apply Kd.R_drew)); exact zd.out) hb)
                    have n2_ := Aside0.mk (Kd.R_below (by (with_reducible repeat (first | apply Kd.R_alloc | apply Kd.R_drewN | apply Kd.R_drew)); exact zq.out) hb)
                    have n3_ := Aside0.mk (Kd.R_below (by (with_reducible repeat (first | apply Kd.R_alloc | apply Kd.R_drewN | apply Kd.R_drew)); exact zr.out) hb)
                    have n4_ := Aside0.mk (blk_below (g := zn) (o := .cells #[.slice zK t814.length zB, .slice zL t817.length zC] 33 (0, 0)) (by (with_reducible repeat (first | refine blk_drewN ?_ _ | refine blk_drew ?_ | refine blk_alloc ?_ _)); exact za.out) hb)
                    have n5_ := Aside0.mk (blk_below (g := zh) (o := .cells #[.slice zH t822.length zI, .slice zM t825.length zN] 33 (0, 0)) (by (with_reducible repeat (first | refine blk_drewN ?_ _ | refine blk_drew ?_ | refine blk_alloc ?_ _)); exact zb.out) hb)
                    have n6_ := Aside0.mk (below_step (by repeat (first | (with_reducible first | exact HB.out | apply below_alloc | apply pw_below_drewN | apply below_drew1 | refine below_set ?_ zT.out | refine below_set ?_ zV.out) | exact HB.out)) hb)
                    have n7_ := Aside0.mk (hbox)
                    have n8_ := Aside0.mk ((by rw [hg]; exact (below_size (by repeat (first | (with_reducible first | exact HB.out | apply below_alloc | apply pw_below_drewN | apply below_drew1 | refine below_set ?_ zT.out | refine below_set ?_ zV.out) | exact HB.out))) : w.heap.size ≤ zw))
                    have n9_ := Aside0.mk ((by rw [hg]; exact (below_size (by repeat (first | (with_reducible first | exact HB.out | apply below_alloc | apply pw_below_drewN | apply below_drew1 | refine below_set ?_ zT.out | refine below_set ?_ zV.out) | exact HB.out))) : w.heap.size ≤ zw))
                    have n10_ := Aside0.mk ((by rw [hg]; exact Nat.ne_of_lt (blk_lt (g := zn) (o := .cells #[.slice zK t814.length zB, .slice zL t817.length zC] 33 (0, 0)) (by (with_reducible repeat (first | refine blk_drewN ?_ _ | refine blk_drew ?_ | refine blk_alloc ?_ _)); exact za.out)) : zn ≠ zw))
                    have n11_ := Aside0.mk ((by rw [hg]; exact Nat.ne_of_gt (blk_lt (g := zn) (o := .cells #[.slice zK t814.length zB, .slice zL t817.length zC] 33 (0, 0)) (by (with_reducible repeat (first | refine blk_drewN ?_ _ | refine blk_drew ?_ | refine blk_alloc ?_ _)); exact za.out)) : zw ≠ zn))
                    have n12_ := Aside0.mk ((by rw [hg]; exact Nat.ne_of_lt (blk_lt (g := zh) (o := .cells #[.slice zH t822.length zI, .slice zM t825.length zN] 33 (0, 0)) (by (with_reducible repeat (first | refine blk_drewN ?_ _ | refine blk_drew ?_ | refine blk_alloc ?_ _)); exact zb.out)) : zh ≠ zw))
                    have n13_ := Aside0.mk ((by rw [hg]; exact Nat.ne_of_gt (blk_lt (g := zh) (o := .cells #[.slice zH t822.length zI, .slice zM t825.length zN] 33 (0, 0)) (by (with_reducible repeat (first | refine blk_drewN ?_ _ | refine blk_drew ?_ | refine blk_alloc ?_ _)); exact zb.out)) : zw ≠ zh))
                    clear zc zd zq zr za zb HB
                    have zc := n0_
                    have zd := n1_
                    have zq := n2_
                    have zr := n3_
                    have za := n4_
                    have zb := n5_
                    have HB := n6_
                    have ze := n7_
                    have zj1 := n8_
                    have zZ := n9_
                    have za1 := n10_
                    have zd1 := n11_
                    have zU := n12_
                    have ze1 := n13_
                    clear n0_ n1_ n2_ n3_ n4_ n5_ n6_ n7_ n8_ n9_ n10_ n11_ n12_ n13_ hb hbox hg
                    refine hK.out _ _ ⟨(blk_cell zb.out 0).trans rfl, (blk_cell zb.out 1).trans rfl⟩ (fun hHeld => ?_)
                    clear hK K
                    refine norm_ (a' := ?_) ?_ ?_
                    rotate_left
                    ·show Act.put _ (some 7) _ = _
                     simp only [Act.put, List.setIfInBounds_toArray, List.set_cons_zero, List.set_cons_succ, i64_w, i32_w]
                     rfl
                    refine one_ (i := 2) (N := some 41) #[true, true, true, false, false, false, false, true, false, false] rfl rfl (one_of HT_.out (by kernel_rfl)) (by decide) (fun K hK => ?_)
                    refine goes_ Try.func45 (by kernel_rfl) rfl #[.string t821] (by rfl) rfl rfl (by (try simp only [List.map_toArray, List.map_cons, List.map_nil]); first | done | rfl | (simp only [List.length_drop, List.length_take]; rfl)) ?_
                    with_reducible refine (impl_InverseWord.calls k t821 t830 _ A6.out).mono ?_
                    rintro e w55 ⟨rfl, hb⟩
                    refine ⟨_, rfl, ?_⟩
                    have n0_ := Aside0.mk (Kd.R_below (by (with_reducible repeat (first | apply Kd.R_alloc | apply Kd.R_drewN | apply Kd.R_drew)); exact zc.out) hb)
                    have n1_ := Aside0.mk (Kd.R_below (by (with_reducible repeat (first | apply Kd.R_alloc | apply Kd.R_drewN | apply Kd.R_drew)); exact zd.out) hb)
                    have n2_ := Aside0.mk (Kd.R_below (by (with_reducible repeat (first | apply Kd.R_alloc | apply Kd.R_drewN | apply Kd.R_drew)); exact zq.out) hb)
                    have n3_ := Aside0.mk (Kd.R_below (by (with_reducible repeat (first | apply Kd.R_alloc | apply Kd.R_drewN | apply Kd.R_drew)); exact zr.out) hb)
                    have n4_ := Aside0.mk (blk_below (g := zn) (o := .cells #[.slice zK t814.length zB, .slice zL t817.length zC] 33 (0, 0)) (by (with_reducible repeat (first | refine blk_drewN ?_ _ | refine blk_drew ?_ | refine blk_alloc ?_ _)); exact za.out) hb)
                    have n5_ := Aside0.mk (blk_below (g := zh) (o := .cells #[.slice zH t822.length zI, .slice zM t825.length zN] 33 (0, 0)) (by (with_reducible repeat (first | refine blk_drewN ?_ _ | refine blk_drew ?_ | refine blk_alloc ?_ _)); exact zb.out) hb)
                    have n6_ := Aside0.mk (blk_below (g := zw) (o := .cells #[.slice none 0 0, .slice none 0 0] 33 (0, 0)) (by (with_reducible repeat (first | refine blk_drewN ?_ _ | refine blk_drew ?_ | refine blk_alloc ?_ _)); exact ze.out) hb)
                    have n7_ := Aside0.mk (below_step (by repeat (first | (with_reducible first | exact HB.out | apply below_alloc | apply pw_below_drewN | apply below_drew1 | refine below_set ?_ zT.out | refine below_set ?_ zV.out | refine below_set ?_ zZ.out) | exact HB.out)) hb)
                    clear zc zd zq zr za zb ze HB
                    have zc := n0_
                    have zd := n1_
                    have zq := n2_
                    have zr := n3_
                    have za := n4_
                    have zb := n5_
                    have ze := n6_
                    have HB := n7_
                    clear n0_ n1_ n2_ n3_ n4_ n5_ n6_ n7_
                    (try clear hb)
                    (try clear hb2)
                    (try clear hk)
                    (try clear hi)
                    refine hK.out _ _ ⟨(blk_cell zb.out 0).trans rfl, (blk_cell zb.out 1).trans rfl⟩ (fun hHeld => ?_)
                    clear hK K
                    refine norm_ (a' := ?_) ?_ ?_
                    rotate_left
                    ·show Act.put _ (some 41) _ = _
                     simp only [Act.put, List.setIfInBounds_toArray, List.set_cons_zero, List.set_cons_succ, i64_w, i32_w]
                     rfl
                    refine one_ (i := 3) (N := some 42) #[true, true, true, true, false, false, false, true, false, false] rfl rfl (one_of HT_.out (by kernel_rfl)) (by decide) (fun K hK => ?_)
                    refine goes_ Try.func50 (by kernel_rfl) rfl #[.agg #[.slice zH t822.length zI, .slice zM t825.length zN], .string t830] (by rfl) rfl rfl (by (try simp only [List.map_toArray, List.map_cons, List.map_nil]); first | done | rfl | (simp only [List.length_drop, List.length_take]; rfl)) ?_
                    with_reducible refine (impl_RunWord.calls k _ _ t822 _ _ t825 t830 t831 t834 true _ ?side1 ?side2 ?side3 ?side4 A7.out).mono ?_
                    (case side1 => repeat (first | exact (Kd.R_reads' zq.out).2.2 | (with_reducible refine Kd.C_alloc ?_ _) | (with_reducible refine Kd.C_drewN ?_ _) | (with_reducible refine Kd.C_drew ?_)))
                    (case side2 => exact (Kd.R_reads' zq.out).2.1)
                    (case side3 => repeat (first | exact (Kd.R_reads' zr.out).2.2 | (with_reducible refine Kd.C_alloc ?_ _) | (with_reducible refine Kd.C_drewN ?_ _) | (with_reducible refine Kd.C_drew ?_)))
                    (case side4 => exact (Kd.R_reads' zr.out).2.1)
                    rintro e w56 ⟨v832, v835, rfl, ho0, ho1, hb⟩
                    refine ⟨_, rfl, ?_⟩
                    have n0_ := Aside0.mk (Kd.R_below (by (with_reducible repeat (first | apply Kd.R_alloc | apply Kd.R_drewN | apply Kd.R_drew)); exact zc.out) hb)
                    have n1_ := Aside0.mk (Kd.R_below (by (with_reducible repeat (first | apply Kd.R_alloc | apply Kd.R_drewN | apply Kd.R_drew)); exact zd.out) hb)
                    have n2_ := Aside0.mk (Kd.R_below (by (with_reducible repeat (first | apply Kd.R_alloc | apply Kd.R_drewN | apply Kd.R_drew)); exact zq.out) hb)
                    have n3_ := Aside0.mk (Kd.R_below (by (with_reducible repeat (first | apply Kd.R_alloc | apply Kd.R_drewN | apply Kd.R_drew)); exact zr.out) hb)
                    have n4_ := Aside0.mk (R_fresh ho0 (below_size (by repeat (first | (with_reducible first | exact HB.out | apply below_alloc | apply pw_below_drewN | apply below_drew1 | refine below_set ?_ zT.out | refine below_set ?_ zV.out | refine below_set ?_ zZ.out) | exact HB.out))))
                    have n5_ := Aside0.mk (R_fresh ho1 (below_size (by repeat (first | (with_reducible first | exact HB.out | apply below_alloc | apply pw_below_drewN | apply below_drew1 | refine below_set ?_ zT.out | refine below_set ?_ zV.out | refine below_set ?_ zZ.out) | exact HB.out))))
                    have n6_ := Aside0.mk (blk_below (g := zn) (o := .cells #[.slice zK t814.length zB, .slice zL t817.length zC] 33 (0, 0)) (by (with_reducible repeat (first | refine blk_drewN ?_ _ | refine blk_drew ?_ | refine blk_alloc ?_ _)); exact za.out) hb)
                    have n7_ := Aside0.mk (blk_below (g := zh) (o := .cells #[.slice zH t822.length zI, .slice zM t825.length zN] 33 (0, 0)) (by (with_reducible repeat (first | refine blk_drewN ?_ _ | refine blk_drew ?_ | refine blk_alloc ?_ _)); exact zb.out) hb)
                    have n8_ := Aside0.mk (blk_below (g := zw) (o := .cells #[.slice none 0 0, .slice none 0 0] 33 (0, 0)) (by (with_reducible repeat (first | refine blk_drewN ?_ _ | refine blk_drew ?_ | refine blk_alloc ?_ _)); exact ze.out) hb)
                    have n9_ := Aside0.mk (below_step (by repeat (first | (with_reducible first | exact HB.out | apply below_alloc | apply pw_below_drewN | apply below_drew1 | refine below_set ?_ zT.out | refine below_set ?_ zV.out | refine below_set ?_ zZ.out) | exact HB.out)) hb)
                    clear zc zd zq zr za zb ze HB
                    have zc := n0_
                    have zd := n1_
                    have zq := n2_
                    have zr := n3_
                    have zt := n4_
                    have zu := n5_
                    have za := n6_
                    have zb := n7_
                    have ze := n8_
                    have HB := n9_
                    clear n0_ n1_ n2_ n3_ n4_ n5_ n6_ n7_ n8_ n9_
                    (try clear hb)
                    (try clear hb2)
                    (try clear hk)
                    (try clear hi)
                    (try clear ho0)
                    (try clear ho1)
                    refine hK.out _ _ ⟨(blk_cell zb.out 0).trans rfl, (blk_cell zb.out 1).trans rfl⟩ (fun hHeld => ?_)
                    clear hK K
                    refine norm_ (a' := ?_) ?_ ?_
                    rotate_left
                    ·show Act.put _ (some 42) _ = _
                     simp only [Act.put, List.setIfInBounds_toArray, List.set_cons_zero, List.set_cons_succ, i64_w, i32_w]
                     rfl
                    refine pure_ (i := 4) (N := some 38) (v := ?_) (a' := ?_) #[true, true, true, true, true, false, false, true, false, false] rfl rfl (any_of HT_.out (by kernel_rfl)) (fun _ _ _ h => h) (Or.inl ⟨by rfl, ?_⟩) ?_ ?_
                    rotate_left
                    ·intro w'
                     go_simp
                     with_reducible rfl
                    rotate_left
                    ·simp only [Act.put, List.setIfInBounds_toArray, List.set_cons_zero, List.set_cons_succ, i64_w, i32_w]
                     rfl
                    refine pure_ (i := 5) (N := some 43) (v := ?_) (a' := ?_) #[true, true, true, true, true, true, false, true, false, false] rfl rfl (any_of HT_.out (by kernel_rfl)) (fun _ _ _ h => h) (Or.inl ⟨by rfl, ?_⟩) ?_ ?_
                    rotate_left
                    ·intro w'
                     go_simp
                     with_reducible rfl
                    rotate_left
                    ·simp only [Act.put, List.setIfInBounds_toArray, List.set_cons_zero, List.set_cons_succ, i64_w, i32_w]
                     rfl
                    refine pure_ (i := 6) (N := some 44) (v := ?_) (a' := ?_) #[true, true, true, true, true, true, true, true, false, false] rfl rfl (any_of HT_.out (by kernel_rfl)) (fun _ _ _ h => h) (Or.inl ⟨by rfl, ?_⟩) ?_ ?_
                    rotate_left
                    ·intro w'
                     go_simp
                     with_reducible rfl
                    rotate_left
                    ·simp only [Act.put, List.setIfInBounds_toArray, List.set_cons_zero, List.set_cons_succ, i64_w, i32_w]
                     rfl
                    exact norm_ (by simp only [putAll, Act.put, List.setIfInBounds_toArray, List.set_cons_zero, List.set_cons_succ]) (hCont (v832, v835, zw) _ ⟨hHeld, (by (with_reducible repeat (first | apply Kd.R_alloc | apply Kd.R_drewN | apply Kd.R_drew)); exact Kd.R_mono zc.out (fun _ _ => trivial)), (by (with_reducible repeat (first | apply Kd.R_alloc | apply Kd.R_drewN | apply Kd.R_drew)); exact Kd.R_mono zd.out (fun _ _ => trivial)), (by (with_reducible repeat (first | apply Kd.R_alloc | apply Kd.R_drewN | apply Kd.R_drew)); exact Kd.R_mono zq.out (fun _ _ => trivial)), (by (with_reducible repeat (first | apply Kd.R_alloc | apply Kd.R_drewN | apply Kd.R_drew)); exact Kd.R_mono zr.out (fun _ _ => trivial)), (by (with_reducible repeat (first | apply Kd.R_alloc | apply Kd.R_drewN | apply Kd.R_drew)); exact Kd.R_mono zt.out (fun _ _ => trivial)), (by (with_reducible repeat (first | apply Kd.R_alloc | apply Kd.R_drewN | apply Kd.R_drew)); exact Kd.R_mono zu.out (fun _ _ => trivial)), (by (with_reducible repeat (first | refine blk_drewN ?_ _ | refine blk_drew ?_ | refine blk_alloc ?_ _)); exact za.out), (by (with_reducible repeat (first | refine blk_drewN ?_ _ | refine blk_drew ?_ | refine blk_alloc ?_ _)); exact zb.out), (by (with_reducible repeat (first | refine blk_drewN ?_ _ | refine blk_drew ?_ | refine blk_alloc ?_ _)); exact ze.out), zj1.out, zZ.out, za1.out, zd1.out, zU.out, ze1.out, (by repeat (first | (with_reducible first | exact HB.out | apply below_alloc | apply pw_below_drewN | apply below_drew1 | refine below_set ?_ zT.out | refine below_set ?_ zV.out | refine below_set ?_ zZ.out) | exact HB.out))⟩)
                  rintro ⟨v832, v835, zw⟩ w57 ⟨hS_, h0_, h1_, h2_, h3_, h4_, h5_, h6_, h7_, h8_, h9_, h10_, h11_, h12_, h13_, h14_, h15_⟩
                  have n0_ : Aside0 (Kd.R (Kd.int .i64) 3 w57 w.heap.size (fun _ => True) (.slice zK t814.length zB) t814) := ⟨h0_⟩
                  have n1_ : Aside0 (Kd.R (Kd.int .i64) 3 w57 w.heap.size (fun _ => True) (.slice zL t817.length zC) t817) := ⟨h1_⟩
                  have n2_ : Aside0 (Kd.R (Kd.int .i64) 3 w57 w.heap.size (fun _ => True) (.slice zH t822.length zI) t822) := ⟨h2_⟩
                  have n3_ : Aside0 (Kd.R (Kd.int .i64) 3 w57 w.heap.size (fun _ => True) (.slice zM t825.length zN) t825) := ⟨h3_⟩
                  have n4_ : Aside0 (Kd.R (Kd.int .i64) 3 w57 w.heap.size (fun _ => True) v832 t831) := ⟨h4_⟩
                  have n5_ : Aside0 (Kd.R (Kd.int .i64) 3 w57 w.heap.size (fun _ => True) v835 t834) := ⟨h5_⟩
                  have n6_ : Aside0 (w57.heap[zn]? = some (.cells #[.slice zK t814.length zB, .slice zL t817.length zC] 33 (0, 0))) := ⟨h6_⟩
                  have n7_ : Aside0 (w57.heap[zh]? = some (.cells #[.slice zH t822.length zI, .slice zM t825.length zN] 33 (0, 0))) := ⟨h7_⟩
                  have n8_ : Aside0 (w57.heap[zw]? = some (.cells #[.slice none 0 0, .slice none 0 0] 33 (0, 0))) := ⟨h8_⟩
                  have n9_ : Aside0 (w.heap.size ≤ zw) := ⟨h9_⟩
                  have n10_ : Aside0 (w.heap.size ≤ zw) := ⟨h10_⟩
                  have n11_ : Aside0 (zn ≠ zw) := ⟨h11_⟩
                  have n12_ : Aside0 (zw ≠ zn) := ⟨h12_⟩
                  have n13_ : Aside0 (zh ≠ zw) := ⟨h13_⟩
                  have n14_ : Aside0 (zw ≠ zh) := ⟨h14_⟩
                  have n15_ : Aside0 (Below w.heap.size w w57) := ⟨h15_⟩
                  clear zc zd zq zr za zb HB h0_ h1_ h2_ h3_ h4_ h5_ h6_ h7_ h8_ h9_ h10_ h11_ h12_ h13_ h14_ h15_
                  have zc := n0_
                  have zd := n1_
                  have zq := n2_
                  have zr := n3_
                  have zt := n4_
                  have zu := n5_
                  have za := n6_
                  have zb := n7_
                  have ze := n8_
                  have zj1 := n9_
                  have zZ := n10_
                  have za1 := n11_
                  have zd1 := n12_
                  have zU := n13_
                  have ze1 := n14_
                  have HB := n15_
                  clear n0_ n1_ n2_ n3_ n4_ n5_ n6_ n7_ n8_ n9_ n10_ n11_ n12_ n13_ n14_ n15_
                  have hHeld : w57.cell? ⟨zh, 0, none⟩ = some (.slice zH t822.length zI) ∧ w57.cell? ⟨zh, 1, none⟩ = some (.slice zM t825.length zN) := hS_
                  obtain ⟨Ao58, zF2, eo58⟩ := Kd.R_slice zt.out
                  (first | subst eo58 | (injection eo58 with f1_ f2_ f3_; have f4_ := f1_.symm; have f5_ := f3_.symm; clear f1_ f2_ f3_; subst f4_; subst f5_))
                  obtain ⟨Ao60, zG2, eo60⟩ := Kd.R_slice zu.out
                  (first | subst eo60 | (injection eo60 with f1_ f2_ f3_; have f4_ := f1_.symm; have f5_ := f3_.symm; clear f1_ f2_ f3_; subst f4_; subst f5_))
                  refine norm_ (a' := ?_) ?_ ?_
                  rotate_left
                  ·simp only [putAll, Act.put, List.setIfInBounds_toArray, List.set_cons_zero, List.set_cons_succ]
                   rfl
                  refine one_ (i := 8) (N := none) #[true, true, true, true, true, true, true, true, true, false] rfl rfl (one_of HT_.out (by kernel_rfl)) (by decide) (fun K hK => ?_)
                  have hs59 : w57.cell? ⟨zw, 0, none⟩ = some (.slice none 0 0) := (blk_cell ze.out 0).trans rfl
                  have hfs59 := blk_frozen ze.out 0
                  have hns59_0 := za1.out
                  have hns59_1 := zU.out
                  have hms59_0 := zd1.out
                  have hms59_1 := ze1.out
                  have hs61 : w57.cell? ⟨zw, 1, none⟩ = some (.slice none 0 0) := (blk_cell ze.out 1).trans rfl
                  have hfs61 := blk_frozen ze.out 1
                  have hns61_0 := za1.out
                  have hns61_1 := zU.out
                  have hms61_0 := zd1.out
                  have hms61_1 := ze1.out
                  refine skip_ (w1 := ?_) (by rfl) rfl ?_ ?_
                  rotate_left
                  ·go_simp
                   rfl
                  refine hK.out _ _ ⟨((cell_far (p := ⟨zw, _, none⟩) zU.out _).trans (((cell_far (p := ⟨zw, _, none⟩) zU.out _).trans (hHeld.1)))), ((cell_far (p := ⟨zw, _, none⟩) zU.out _).trans (((cell_far (p := ⟨zw, _, none⟩) zU.out _).trans (hHeld.2))))⟩ (fun hHeld => ?_)
                  clear hK K
                  refine pure_ (i := 9) (N := some 8) (v := ?_) (a' := ?_) #[true, true, true, true, true, true, true, true, true, true] rfl rfl (any_of HT_.out (by kernel_rfl)) (fun _ _ _ h => h) (Or.inl ⟨by rfl, ?_⟩) ?_ ?_
                  rotate_left
                  ·intro w'
                   go_simp
                   with_reducible rfl
                  rotate_left
                  ·simp only [Act.put, List.setIfInBounds_toArray, List.set_cons_zero, List.set_cons_succ, i64_w, i32_w]
                   rfl
                  refine done_ (done_of HT_.out (by kernel_rfl)) ?_
                  have hnb62 := za1.out
                  have hnc62 := zd1.out
                  have hcz63_0 : w57.cell? ⟨zn, 0, none⟩ = some (.slice zK t814.length zB) := (blk_cell za.out 0).trans rfl
                  have hcz63_1 : w57.cell? ⟨zn, 1, none⟩ = some (.slice zL t817.length zC) := (blk_cell za.out 1).trans rfl
                  have hfz63_0 := blk_frozen za.out 0
                  have hfz63_1 := blk_frozen za.out 1
                  try go_wp2_with (first | ((with_reducible refine gate_callee (f := 50) rfl ?_); refine goesL_ (some 47) rfl rfl Try.func50 (by kernel_rfl) rfl #[.agg #[.slice zK t814.length zB, .slice zL t817.length zC], .string (⟨#[83, 83, 83, 83]⟩ : ByteArray)] rfl (by (try simp only [List.map_toArray, List.map_cons, List.map_nil]); first | done | rfl | (simp only [List.length_drop, List.length_take]; rfl)) ?_; (with_reducible refine (impl_RunWord.calls k _ _ t814 _ _ t817 (⟨#[83, 83, 83, 83]⟩ : ByteArray) t839 t842 true _ ?side1 ?side2 ?side3 ?side4 A8.out).mono ?_); (case side1 => refine (Kd.R_reads' (e := 3) (base := w.heap.size) (ok := fun _ => True) (n := t814.length) (c := zB) ?_).2.2; exact ((rs2_ zc.out ze.out))); (case side2 => exact (Kd.R_reads' zc.out).2.1); (case side3 => refine (Kd.R_reads' (e := 3) (base := w.heap.size) (ok := fun _ => True) (n := t817.length) (c := zC) ?_).2.2; exact ((rs2_ zd.out ze.out))); (case side4 => exact (Kd.R_reads' zd.out).2.1); rintro e w64 ⟨v840, v843, rfl, ho0, ho1, hb⟩; refine ⟨_, rfl, ?_⟩; have zz := Aside0.mk (R_fresh ho0 (below_size (hb2_ HB.out zZ.out))); have zA := Aside0.mk (R_fresh ho1 (below_size (hb2_ HB.out zZ.out))); replace zc := as_ zc ze hb; replace zd := as_ zd ze hb; replace zt := as_ zt ze hb; replace zu := as_ zu ze hb; replace za := bf_ za za1 hb; replace zb := bf_ zb zU hb; replace ze := bp_ ze hb; replace HB := ht_ HB zZ hb; clear zq; clear zr; (try clear hb); (try clear hb2); (try clear hk); (try clear hi); (try clear ho0); (try clear ho1)) | ((with_reducible refine gate_dst (N := 9) rfl ?_); refine box_event ?hg (N := 9) ?hd (cs := #[.slice none 0 0, .slice none 0 0]) (t := 33) ?hr ?_; (case hd => rfl); (case hg => rfl); (case hr => first | (go_simp; done) | (go_simp; rfl)); intro zk2 hg w65 hbox hb; have zf := Aside0.mk (hbox); have GW846 := sz_ HB hg; have zl2 := sz_ HB hg; have zn1 := nl_ za hg; have NB846_820 := ng_ za hg; have zo1 := nl_ zb hg; have NB846_829 := ng_ zb hg; have zp1 := nl_ ze hg; have NB846_838 := ng_ ze hg; replace zc := ab_ zc hb; replace zd := ab_ zd hb; replace zt := ab_ zt hb; replace zu := ab_ zu hb; replace zz := ab_ zz hb; replace zA := ab_ zA hb; replace za := bb_ za hb; replace zb := bb_ zb hb; replace ze := bb_ ze hb; replace HB := hs_ HB hb; clear hb hbox hg; obtain ⟨Ao66, co66, eo66⟩ := Kd.R_slice zz.out; subst eo66; have hnb67 := NB846_820.out; have hnc67 := zn1.out; have hnb68 := NB846_829.out; have hnc68 := zo1.out; have hnb69 := NB846_838.out; have hnc69 := zp1.out; have hcz70_0 : w65.cell? ⟨zk2, 0, none⟩ = some (.slice none 0 0) := (blk_cell zf.out 0).trans rfl; have hcz70_1 : w65.cell? ⟨zk2, 1, none⟩ = some (.slice none 0 0) := (blk_cell zf.out 1).trans rfl; have hfz70_0 := blk_frozen zf.out 0; have hfz70_1 := blk_frozen zf.out 1; obtain ⟨Ao71, co71, eo71⟩ := Kd.R_slice zA.out; subst eo71; have hcz72_0 : w65.cell? ⟨zn, 0, none⟩ = some (.slice zK t814.length zB) := (blk_cell za.out 0).trans rfl; have hcz72_1 : w65.cell? ⟨zn, 1, none⟩ = some (.slice zL t817.length zC) := (blk_cell za.out 1).trans rfl; have hfz72_0 := blk_frozen za.out 0; have hfz72_1 := blk_frozen za.out 1) | ((with_reducible refine gate_callee (f := 50) rfl ?_); refine goesL_ (some 52) rfl rfl Try.func50 (by kernel_rfl) rfl #[.agg #[.slice zK t814.length zB, .slice zL t817.length zC], .string (⟨#[83, 84, 83, 84, 83, 84]⟩ : ByteArray)] rfl (by (try simp only [List.map_toArray, List.map_cons, List.map_nil]); first | done | rfl | (simp only [List.length_drop, List.length_take]; rfl)) ?_; (with_reducible refine (impl_RunWord.calls k _ _ t814 _ _ t817 (⟨#[83, 84, 83, 84, 83, 84]⟩ : ByteArray) t847 t850 true _ ?side1 ?side2 ?side3 ?side4 A9.out).mono ?_); (case side1 => refine (Kd.R_reads' (e := 3) (base := w.heap.size) (ok := fun _ => True) (n := t814.length) (c := zB) ?_).2.2; exact ((rs2_ zc.out zf.out))); (case side2 => exact (Kd.R_reads' zc.out).2.1); (case side3 => refine (Kd.R_reads' (e := 3) (base := w.heap.size) (ok := fun _ => True) (n := t817.length) (c := zC) ?_).2.2; exact ((rs2_ zd.out zf.out))); (case side4 => exact (Kd.R_reads' zd.out).2.1); rintro e w73 ⟨v848, v851, rfl, ho0, ho1, hb⟩; refine ⟨_, rfl, ?_⟩; have zE := Aside0.mk (R_fresh ho0 (below_size (hb2_ HB.out zl2.out))); have zF := Aside0.mk (R_fresh ho1 (below_size (hb2_ HB.out zl2.out))); replace zc := as_ zc zf hb; replace zd := as_ zd zf hb; replace zt := as_ zt zf hb; replace zu := as_ zu zf hb; replace zz := as_ zz zf hb; replace zA := as_ zA zf hb; replace za := bf_ za zn1 hb; replace zb := bf_ zb zo1 hb; replace ze := bf_ ze zp1 hb; replace zf := bp_ zf hb; replace HB := ht_ HB zl2 hb; (try clear hb); (try clear hb2); (try clear hk); (try clear hi); (try clear ho0); (try clear ho1)) | ((with_reducible refine gate_dst (N := 11) rfl ?_); refine box_event ?hg (N := 11) ?hd (cs := #[.slice none 0 0, .slice none 0 0]) (t := 33) ?hr ?_; (case hd => rfl); (case hg => rfl); (case hr => first | (go_simp; done) | (go_simp; rfl)); intro zm2 hg w74 hbox hb; have zi := Aside0.mk (hbox); have GW854 := sz_ HB hg; have zn2 := sz_ HB hg; have zq1 := nl_ za hg; have NB854_820 := ng_ za hg; have zr1 := nl_ zb hg; have NB854_829 := ng_ zb hg; have zs1 := nl_ ze hg; have NB854_838 := ng_ ze hg; have zt1 := nl_ zf hg; have NB854_846 := ng_ zf hg; replace zc := ab_ zc hb; replace zd := ab_ zd hb; replace zt := ab_ zt hb; replace zu := ab_ zu hb; replace zz := ab_ zz hb; replace zA := ab_ zA hb; replace zE := ab_ zE hb; replace zF := ab_ zF hb; replace za := bb_ za hb; replace zb := bb_ zb hb; replace ze := bb_ ze hb; replace zf := bb_ zf hb; replace HB := hs_ HB hb; clear hb hbox hg; obtain ⟨Ao75, co75, eo75⟩ := Kd.R_slice zE.out; subst eo75; have hnb76 := NB854_820.out; have hnc76 := zq1.out; have hnb77 := NB854_829.out; have hnc77 := zr1.out; have hnb78 := NB854_838.out; have hnc78 := zs1.out; have hnb79 := NB854_846.out; have hnc79 := zt1.out; have hcz80_0 : w74.cell? ⟨zm2, 0, none⟩ = some (.slice none 0 0) := (blk_cell zi.out 0).trans rfl; have hcz80_1 : w74.cell? ⟨zm2, 1, none⟩ = some (.slice none 0 0) := (blk_cell zi.out 1).trans rfl; have hfz80_0 := blk_frozen zi.out 0; have hfz80_1 := blk_frozen zi.out 1; obtain ⟨Ao81, co81, eo81⟩ := Kd.R_slice zF.out; subst eo81; have hcz82_0 : w74.cell? ⟨zn, 0, none⟩ = some (.slice zK t814.length zB) := (blk_cell za.out 0).trans rfl; have hcz82_1 : w74.cell? ⟨zn, 1, none⟩ = some (.slice zL t817.length zC) := (blk_cell za.out 1).trans rfl; have hfz82_0 := blk_frozen za.out 0; have hfz82_1 := blk_frozen za.out 1) | ((with_reducible refine gate_callee (f := 50) rfl ?_); refine goesL_ (some 57) rfl rfl Try.func50 (by kernel_rfl) rfl #[.agg #[.slice zK t814.length zB, .slice zL t817.length zC], .string (⟨#[83, 83]⟩ : ByteArray)] rfl (by (try simp only [List.map_toArray, List.map_cons, List.map_nil]); first | done | rfl | (simp only [List.length_drop, List.length_take]; rfl)) ?_; (with_reducible refine (impl_RunWord.calls k _ _ t814 _ _ t817 (⟨#[83, 83]⟩ : ByteArray) t855 t858 true _ ?side1 ?side2 ?side3 ?side4 A10.out).mono ?_); (case side1 => refine (Kd.R_reads' (e := 3) (base := w.heap.size) (ok := fun _ => True) (n := t814.length) (c := zB) ?_).2.2; exact ((rs2_ zc.out zi.out))); (case side2 => exact (Kd.R_reads' zc.out).2.1); (case side3 => refine (Kd.R_reads' (e := 3) (base := w.heap.size) (ok := fun _ => True) (n := t817.length) (c := zC) ?_).2.2; exact ((rs2_ zd.out zi.out))); (case side4 => exact (Kd.R_reads' zd.out).2.1); rintro e w83 ⟨v856, v859, rfl, ho0, ho1, hb⟩; refine ⟨_, rfl, ?_⟩; have zO := Aside0.mk (R_fresh ho0 (below_size (hb2_ HB.out zn2.out))); have zP := Aside0.mk (R_fresh ho1 (below_size (hb2_ HB.out zn2.out))); replace zc := as_ zc zi hb; replace zd := as_ zd zi hb; replace zt := as_ zt zi hb; replace zu := as_ zu zi hb; replace zz := as_ zz zi hb; replace zA := as_ zA zi hb; replace zE := as_ zE zi hb; replace zF := as_ zF zi hb; replace za := bf_ za zq1 hb; replace zb := bf_ zb zr1 hb; replace ze := bf_ ze zs1 hb; replace zf := bf_ zf zt1 hb; replace zi := bp_ zi hb; replace HB := ht_ HB zn2 hb; (try clear hb); (try clear hb2); (try clear hk); (try clear hi); (try clear ho0); (try clear ho1)) | ((with_reducible refine gate_dst (N := 13) rfl ?_); refine box_event ?hg (N := 13) ?hd (cs := #[.slice none 0 0, .slice none 0 0]) (t := 33) ?hr ?_; (case hd => rfl); (case hg => rfl); (case hr => first | (go_simp; done) | (go_simp; rfl)); intro zo2 hg w84 hbox hb; have zl := Aside0.mk (hbox); have GW862 := sz_ HB hg; have zp2 := sz_ HB hg; have zu1 := nl_ za hg; have NB862_820 := ng_ za hg; have zv1 := nl_ zb hg; have NB862_829 := ng_ zb hg; have zw1 := nl_ ze hg; have NB862_838 := ng_ ze hg; have zx1 := nl_ zf hg; have NB862_846 := ng_ zf hg; have zy1 := nl_ zi hg; have NB862_854 := ng_ zi hg; replace zc := ab_ zc hb; replace zd := ab_ zd hb; replace zt := ab_ zt hb; replace zu := ab_ zu hb; replace zz := ab_ zz hb; replace zA := ab_ zA hb; replace zE := ab_ zE hb; replace zF := ab_ zF hb; replace zO := ab_ zO hb; replace zP := ab_ zP hb; replace za := bb_ za hb; replace zb := bb_ zb hb; replace ze := bb_ ze hb; replace zf := bb_ zf hb; replace zi := bb_ zi hb; replace HB := hs_ HB hb; clear hb hbox hg; obtain ⟨Ao85, co85, eo85⟩ := Kd.R_slice zO.out; subst eo85; have hnb86 := NB862_820.out; have hnc86 := zu1.out; have hnb87 := NB862_829.out; have hnc87 := zv1.out; have hnb88 := NB862_838.out; have hnc88 := zw1.out; have hnb89 := NB862_846.out; have hnc89 := zx1.out; have hnb90 := NB862_854.out; have hnc90 := zy1.out; have hcz91_0 : w84.cell? ⟨zo2, 0, none⟩ = some (.slice none 0 0) := (blk_cell zl.out 0).trans rfl; have hcz91_1 : w84.cell? ⟨zo2, 1, none⟩ = some (.slice none 0 0) := (blk_cell zl.out 1).trans rfl; have hfz91_0 := blk_frozen zl.out 0; have hfz91_1 := blk_frozen zl.out 1; obtain ⟨Ao92, co92, eo92⟩ := Kd.R_slice zP.out; subst eo92; have hcz93_0 : w84.cell? ⟨zn, 0, none⟩ = some (.slice zK t814.length zB) := (blk_cell za.out 0).trans rfl; have hcz93_1 : w84.cell? ⟨zn, 1, none⟩ = some (.slice zL t817.length zC) := (blk_cell za.out 1).trans rfl; have hfz93_0 := blk_frozen za.out 0; have hfz93_1 := blk_frozen za.out 1) | ((with_reducible refine gate_callee (f := 51) rfl ?_); refine goesL_ (some 62) rfl rfl Try.func51 (by kernel_rfl) rfl #[.agg #[.slice zK t814.length zB, .slice zL t817.length zC]] rfl (by (try simp only [List.map_toArray, List.map_cons, List.map_nil]); first | done | rfl | (simp only [List.length_drop, List.length_take]; rfl)) ?_; (with_reducible refine (impl_ShearSurface.calls k _ _ t814 _ _ t817 t863 t866 true _ ?side1 ?side2 ?side3 ?side4 A11.out).mono ?_); (case side1 => refine (Kd.R_reads' (e := 3) (base := w.heap.size) (ok := fun _ => True) (n := t814.length) (c := zB) ?_).2.2; exact ((rs2_ zc.out zl.out))); (case side2 => exact (Kd.R_reads' zc.out).2.1); (case side3 => refine (Kd.R_reads' (e := 3) (base := w.heap.size) (ok := fun _ => True) (n := t817.length) (c := zC) ?_).2.2; exact ((rs2_ zd.out zl.out))); (case side4 => exact (Kd.R_reads' zd.out).2.1); rintro e w94 ⟨v864, v867, rfl, ho0, ho1, hb⟩; refine ⟨_, rfl, ?_⟩; have zQ := Aside0.mk (R_fresh ho0 (below_size (hb2_ HB.out zp2.out))); have zR := Aside0.mk (R_fresh ho1 (below_size (hb2_ HB.out zp2.out))); replace zc := as_ zc zl hb; replace zd := as_ zd zl hb; replace zt := as_ zt zl hb; replace zu := as_ zu zl hb; replace zz := as_ zz zl hb; replace zA := as_ zA zl hb; replace zE := as_ zE zl hb; replace zF := as_ zF zl hb; replace zO := as_ zO zl hb; replace zP := as_ zP zl hb; replace za := bf_ za zu1 hb; replace zb := bf_ zb zv1 hb; replace ze := bf_ ze zw1 hb; replace zf := bf_ zf zx1 hb; replace zi := bf_ zi zy1 hb; replace zl := bp_ zl hb; replace HB := ht_ HB zp2 hb; (try clear hb); (try clear hb2); (try clear hk); (try clear hi); (try clear ho0); (try clear ho1)) | ((with_reducible refine gate_dst (N := 15) rfl ?_); refine box_event ?hg (N := 15) ?hd (cs := #[.slice none 0 0, .slice none 0 0]) (t := 33) ?hr ?_; (case hd => rfl); (case hg => rfl); (case hr => first | (go_simp; done) | (go_simp; rfl)); intro zk1 hg w95 hbox hb; have zj := Aside0.mk (hbox); have GW870 := sz_ HB hg; have zq2 := sz_ HB hg; have zz1 := nl_ za hg; have NB870_820 := ng_ za hg; have zA1 := nl_ zb hg; have NB870_829 := ng_ zb hg; have zB1 := nl_ ze hg; have NB870_838 := ng_ ze hg; have zC1 := nl_ zf hg; have NB870_846 := ng_ zf hg; have zD1 := nl_ zi hg; have NB870_854 := ng_ zi hg; have zE1 := nl_ zl hg; have NB870_862 := ng_ zl hg; replace zc := ab_ zc hb; replace zd := ab_ zd hb; replace zt := ab_ zt hb; replace zu := ab_ zu hb; replace zz := ab_ zz hb; replace zA := ab_ zA hb; replace zE := ab_ zE hb; replace zF := ab_ zF hb; replace zO := ab_ zO hb; replace zP := ab_ zP hb; replace zQ := ab_ zQ hb; replace zR := ab_ zR hb; replace za := bb_ za hb; replace zb := bb_ zb hb; replace ze := bb_ ze hb; replace zf := bb_ zf hb; replace zi := bb_ zi hb; replace zl := bb_ zl hb; replace HB := hs_ HB hb; clear hb hbox hg; obtain ⟨zA2, zy2, eo96⟩ := Kd.R_slice zQ.out; subst eo96; have hnb97 := NB870_820.out; have hnc97 := zz1.out; have hnb98 := NB870_829.out; have hnc98 := zA1.out; have hnb99 := NB870_838.out; have hnc99 := zB1.out; have hnb100 := NB870_846.out; have hnc100 := zC1.out; have hnb101 := NB870_854.out; have hnc101 := zD1.out; have hnb102 := NB870_862.out; have hnc102 := zE1.out; have hcz103_0 : w95.cell? ⟨zk1, 0, none⟩ = some (.slice none 0 0) := (blk_cell zj.out 0).trans rfl; have hcz103_1 : w95.cell? ⟨zk1, 1, none⟩ = some (.slice none 0 0) := (blk_cell zj.out 1).trans rfl; have hfz103_0 := blk_frozen zj.out 0; have hfz103_1 := blk_frozen zj.out 1; obtain ⟨zz2, zr2, eo104⟩ := Kd.R_slice zR.out; subst eo104; have hcz105_0 : w95.cell? ⟨zn, 0, none⟩ = some (.slice zK t814.length zB) := (blk_cell za.out 0).trans rfl; have hcz105_1 : w95.cell? ⟨zn, 1, none⟩ = some (.slice zL t817.length zC) := (blk_cell za.out 1).trans rfl; have hfz105_0 := blk_frozen za.out 0; have hfz105_1 := blk_frozen za.out 1) | ((with_reducible refine gate_callee (f := 50) rfl ?_); refine goesL_ (some 67) rfl rfl Try.func50 (by kernel_rfl) rfl #[.agg #[.slice zK t814.length zB, .slice zL t817.length zC], .string (⟨#[84]⟩ : ByteArray)] rfl (by (try simp only [List.map_toArray, List.map_cons, List.map_nil]); first | done | rfl | (simp only [List.length_drop, List.length_take]; rfl)) ?_; (with_reducible refine (impl_RunWord.calls k _ _ t814 _ _ t817 (⟨#[84]⟩ : ByteArray) t871 t874 true _ ?side1 ?side2 ?side3 ?side4 A12.out).mono ?_); (case side1 => refine (Kd.R_reads' (e := 3) (base := w.heap.size) (ok := fun _ => True) (n := t814.length) (c := zB) ?_).2.2; exact ((rs2_ zc.out zj.out))); (case side2 => exact (Kd.R_reads' zc.out).2.1); (case side3 => refine (Kd.R_reads' (e := 3) (base := w.heap.size) (ok := fun _ => True) (n := t817.length) (c := zC) ?_).2.2; exact ((rs2_ zd.out zj.out))); (case side4 => exact (Kd.R_reads' zd.out).2.1); rintro e w106 ⟨v872, v875, rfl, ho0, ho1, hb⟩; refine ⟨_, rfl, ?_⟩; have zW := Aside0.mk (R_fresh ho0 (below_size (hb2_ HB.out zq2.out))); have zX := Aside0.mk (R_fresh ho1 (below_size (hb2_ HB.out zq2.out))); replace zc := as_ zc zj hb; replace zd := as_ zd zj hb; replace zt := as_ zt zj hb; replace zu := as_ zu zj hb; replace zz := as_ zz zj hb; replace zA := as_ zA zj hb; replace zE := as_ zE zj hb; replace zF := as_ zF zj hb; replace zO := as_ zO zj hb; replace zP := as_ zP zj hb; replace zQ := as_ zQ zj hb; replace zR := as_ zR zj hb; replace za := bf_ za zz1 hb; replace zb := bf_ zb zA1 hb; replace ze := bf_ ze zB1 hb; replace zf := bf_ zf zC1 hb; replace zi := bf_ zi zD1 hb; replace zl := bf_ zl zE1 hb; replace zj := bp_ zj hb; replace HB := ht_ HB zq2 hb; (try clear hb); (try clear hb2); (try clear hk); (try clear hi); (try clear ho0); (try clear ho1)) | ((with_reducible refine gate_dst (N := 17) rfl ?_); refine box_event ?hg (N := 17) ?hd (cs := #[.slice none 0 0, .slice none 0 0]) (t := 33) ?hr ?_; (case hd => rfl); (case hg => rfl); (case hr => first | (go_simp; done) | (go_simp; rfl)); intro zs2 hg w107 hbox hb; have zo := Aside0.mk (hbox); have GW878 := sz_ HB hg; have zt2 := sz_ HB hg; have zF1 := nl_ za hg; have NB878_820 := ng_ za hg; have zG1 := nl_ zb hg; have NB878_829 := ng_ zb hg; have zH1 := nl_ ze hg; have NB878_838 := ng_ ze hg; have zI1 := nl_ zf hg; have NB878_846 := ng_ zf hg; have zJ1 := nl_ zi hg; have NB878_854 := ng_ zi hg; have zK1 := nl_ zl hg; have NB878_862 := ng_ zl hg; have zL1 := nl_ zj hg; have NB878_870 := ng_ zj hg; replace zc := ab_ zc hb; replace zd := ab_ zd hb; replace zt := ab_ zt hb; replace zu := ab_ zu hb; replace zz := ab_ zz hb; replace zA := ab_ zA hb; replace zE := ab_ zE hb; replace zF := ab_ zF hb; replace zO := ab_ zO hb; replace zP := ab_ zP hb; replace zQ := ab_ zQ hb; replace zR := ab_ zR hb; replace zW := ab_ zW hb; replace zX := ab_ zX hb; replace za := bb_ za hb; replace zb := bb_ zb hb; replace ze := bb_ ze hb; replace zf := bb_ zf hb; replace zi := bb_ zi hb; replace zl := bb_ zl hb; replace zj := bb_ zj hb; replace HB := hs_ HB hb; clear hb hbox hg; obtain ⟨Ao108, co108, eo108⟩ := Kd.R_slice zW.out; subst eo108; have hnb109 := NB878_820.out; have hnc109 := zF1.out; have hnb110 := NB878_829.out; have hnc110 := zG1.out; have hnb111 := NB878_838.out; have hnc111 := zH1.out; have hnb112 := NB878_846.out; have hnc112 := zI1.out; have hnb113 := NB878_854.out; have hnc113 := zJ1.out; have hnb114 := NB878_862.out; have hnc114 := zK1.out; have hnb115 := NB878_870.out; have hnc115 := zL1.out; have hcz116_0 : w107.cell? ⟨zs2, 0, none⟩ = some (.slice none 0 0) := (blk_cell zo.out 0).trans rfl; have hcz116_1 : w107.cell? ⟨zs2, 1, none⟩ = some (.slice none 0 0) := (blk_cell zo.out 1).trans rfl; have hfz116_0 := blk_frozen zo.out 0; have hfz116_1 := blk_frozen zo.out 1; obtain ⟨Ao117, co117, eo117⟩ := Kd.R_slice zX.out; subst eo117; have hcz118_0 : w107.cell? ⟨zn, 0, none⟩ = some (.slice zK t814.length zB) := (blk_cell za.out 0).trans rfl; have hcz118_1 : w107.cell? ⟨zn, 1, none⟩ = some (.slice zL t817.length zC) := (blk_cell za.out 1).trans rfl; have hfz118_0 := blk_frozen za.out 0; have hfz118_1 := blk_frozen za.out 1) | ((with_reducible refine gate_callee (f := 52) rfl ?_); refine goesL_ (some 72) rfl rfl Try.func52 (by kernel_rfl) rfl #[.agg #[.slice zK t814.length zB, .slice zL t817.length zC]] rfl (by (try simp only [List.map_toArray, List.map_cons, List.map_nil]); first | done | rfl | (simp only [List.length_drop, List.length_take]; rfl)) ?_; (with_reducible refine (impl_UnturnSurface.calls k _ _ t814 _ _ t817 t879 t882 true _ ?side1 ?side2 ?side3 ?side4 A13.out).mono ?_); (case side1 => refine (Kd.R_reads' (e := 3) (base := w.heap.size) (ok := fun _ => True) (n := t814.length) (c := zB) ?_).2.2; exact ((rs2_ zc.out zo.out))); (case side2 => exact (Kd.R_reads' zc.out).2.1); (case side3 => refine (Kd.R_reads' (e := 3) (base := w.heap.size) (ok := fun _ => True) (n := t817.length) (c := zC) ?_).2.2; exact ((rs2_ zd.out zo.out))); (case side4 => exact (Kd.R_reads' zd.out).2.1); rintro e w119 ⟨v880, v883, rfl, ho0, ho1, hb⟩; refine ⟨_, rfl, ?_⟩; have zl1 := Aside0.mk (R_fresh ho0 (below_size (hb2_ HB.out zt2.out))); have zm1 := Aside0.mk (R_fresh ho1 (below_size (hb2_ HB.out zt2.out))); replace zc := as_ zc zo hb; replace zd := as_ zd zo hb; replace zt := as_ zt zo hb; replace zu := as_ zu zo hb; replace zz := as_ zz zo hb; replace zA := as_ zA zo hb; replace zE := as_ zE zo hb; replace zF := as_ zF zo hb; replace zO := as_ zO zo hb; replace zP := as_ zP zo hb; replace zQ := as_ zQ zo hb; replace zR := as_ zR zo hb; replace zW := as_ zW zo hb; replace zX := as_ zX zo hb; replace za := bf_ za zF1 hb; replace zb := bf_ zb zG1 hb; replace ze := bf_ ze zH1 hb; replace zf := bf_ zf zI1 hb; replace zi := bf_ zi zJ1 hb; replace zl := bf_ zl zK1 hb; replace zj := bf_ zj zL1 hb; replace zo := bp_ zo hb; replace HB := ht_ HB zt2 hb; (try clear hb); (try clear hb2); (try clear hk); (try clear hi); (try clear ho0); (try clear ho1)) | ((with_reducible refine gate_dst (N := 19) rfl ?_); refine box_event ?hg (N := 19) ?hd (cs := #[.slice none 0 0, .slice none 0 0]) (t := 33) ?hr ?_; (case hd => rfl); (case hg => rfl); (case hr => first | (go_simp; done) | (go_simp; rfl)); intro zB2 hg w120 hbox hb; have zJ := Aside0.mk (hbox); have GW886 := sz_ HB hg; have zu2 := sz_ HB hg; have zM1 := nl_ za hg; have NB886_820 := ng_ za hg; have zN1 := nl_ zb hg; have NB886_829 := ng_ zb hg; have zO1 := nl_ ze hg; have NB886_838 := ng_ ze hg; have zP1 := nl_ zf hg; have NB886_846 := ng_ zf hg; have zQ1 := nl_ zi hg; have NB886_854 := ng_ zi hg; have zR1 := nl_ zl hg; have NB886_862 := ng_ zl hg; have zS1 := nl_ zj hg; have NB886_870 := ng_ zj hg; have zT1 := nl_ zo hg; have NB886_878 := ng_ zo hg; replace zc := ab_ zc hb; replace zd := ab_ zd hb; replace zt := ab_ zt hb; replace zu := ab_ zu hb; replace zz := ab_ zz hb; replace zA := ab_ zA hb; replace zE := ab_ zE hb; replace zF := ab_ zF hb; replace zO := ab_ zO hb; replace zP := ab_ zP hb; replace zQ := ab_ zQ hb; replace zR := ab_ zR hb; replace zW := ab_ zW hb; replace zX := ab_ zX hb; replace zl1 := ab_ zl1 hb; replace zm1 := ab_ zm1 hb; replace za := bb_ za hb; replace zb := bb_ zb hb; replace ze := bb_ ze hb; replace zf := bb_ zf hb; replace zi := bb_ zi hb; replace zl := bb_ zl hb; replace zj := bb_ zj hb; replace zo := bb_ zo hb; replace HB := hs_ HB hb; clear hb hbox hg; obtain ⟨Ao121, zC2, eo121⟩ := Kd.R_slice zl1.out; subst eo121; have hnb122 := NB886_820.out; have hnc122 := zM1.out; have hnb123 := NB886_829.out; have hnc123 := zN1.out; have hnb124 := NB886_838.out; have hnc124 := zO1.out; have hnb125 := NB886_846.out; have hnc125 := zP1.out; have hnb126 := NB886_854.out; have hnc126 := zQ1.out; have hnb127 := NB886_862.out; have hnc127 := zR1.out; have hnb128 := NB886_870.out; have hnc128 := zS1.out; have hnb129 := NB886_878.out; have hnc129 := zT1.out; have hcz130_0 : w120.cell? ⟨zB2, 0, none⟩ = some (.slice none 0 0) := (blk_cell zJ.out 0).trans rfl; have hcz130_1 : w120.cell? ⟨zB2, 1, none⟩ = some (.slice none 0 0) := (blk_cell zJ.out 1).trans rfl; have hfz130_0 := blk_frozen zJ.out 0; have hfz130_1 := blk_frozen zJ.out 1; obtain ⟨Ao131, zD2, eo131⟩ := Kd.R_slice zm1.out; subst eo131) | ((with_reducible refine gate_callee (f := 53) rfl ?_); refine goesL_ (some 77) rfl rfl Try.func53 (by kernel_rfl) rfl #[.agg #[.slice Ao121 t879.length zC2, .slice Ao131 t882.length zD2]] rfl (by (try simp only [List.map_toArray, List.map_cons, List.map_nil]); first | done | rfl | (simp only [List.length_drop, List.length_take]; rfl)) ?_; (with_reducible refine (impl_TurnSurface.calls k _ _ t879 _ _ t882 t887 t890 true _ ?side1 ?side2 ?side3 ?side4 A14.out).mono ?_); (case side1 => refine (Kd.R_reads' (e := 3) (base := w.heap.size) (ok := fun _ => True) (n := t879.length) (c := zC2) ?_).2.2; exact ((rs2_ zl1.out zJ.out))); (case side2 => exact (Kd.R_reads' zl1.out).2.1); (case side3 => refine (Kd.R_reads' (e := 3) (base := w.heap.size) (ok := fun _ => True) (n := t882.length) (c := zD2) ?_).2.2; exact ((rs2_ zm1.out zJ.out))); (case side4 => exact (Kd.R_reads' zm1.out).2.1); rintro e w132 ⟨v888, v891, rfl, ho0, ho1, hb⟩; refine ⟨_, rfl, ?_⟩; have zb1 := Aside0.mk (R_fresh ho0 (below_size (hb2_ HB.out zu2.out))); have zc1 := Aside0.mk (R_fresh ho1 (below_size (hb2_ HB.out zu2.out))); replace zc := as_ zc zJ hb; replace zd := as_ zd zJ hb; replace zt := as_ zt zJ hb; replace zu := as_ zu zJ hb; replace zz := as_ zz zJ hb; replace zA := as_ zA zJ hb; replace zE := as_ zE zJ hb; replace zF := as_ zF zJ hb; replace zO := as_ zO zJ hb; replace zP := as_ zP zJ hb; replace zQ := as_ zQ zJ hb; replace zR := as_ zR zJ hb; replace zW := as_ zW zJ hb; replace zX := as_ zX zJ hb; replace za := bf_ za zM1 hb; replace zb := bf_ zb zN1 hb; replace ze := bf_ ze zO1 hb; replace zf := bf_ zf zP1 hb; replace zi := bf_ zi zQ1 hb; replace zl := bf_ zl zR1 hb; replace zj := bf_ zj zS1 hb; replace zo := bf_ zo zT1 hb; replace zJ := bp_ zJ hb; replace HB := ht_ HB zu2 hb; clear zl1; clear zm1; (try clear hb); (try clear hb2); (try clear hk); (try clear hi); (try clear ho0); (try clear ho1)) | ((with_reducible refine gate_dst (N := 21) rfl ?_); refine box_event ?hg (N := 21) ?hd (cs := #[.slice none 0 0, .slice none 0 0]) (t := 33) ?hr ?_; (case hd => rfl); (case hg => rfl); (case hr => first | (go_simp; done) | (go_simp; rfl)); intro zv2 hg w133 hbox hb; have zx := Aside0.mk (hbox); have GW894 := sz_ HB hg; have zw2 := sz_ HB hg; have zU1 := nl_ za hg; have NB894_820 := ng_ za hg; have zV1 := nl_ zb hg; have NB894_829 := ng_ zb hg; have zW1 := nl_ ze hg; have NB894_838 := ng_ ze hg; have zX1 := nl_ zf hg; have NB894_846 := ng_ zf hg; have zY1 := nl_ zi hg; have NB894_854 := ng_ zi hg; have zZ1 := nl_ zl hg; have NB894_862 := ng_ zl hg; have za2 := nl_ zj hg; have NB894_870 := ng_ zj hg; have zb2 := nl_ zo hg; have NB894_878 := ng_ zo hg; have zc2 := nl_ zJ hg; have NB894_886 := ng_ zJ hg; replace zc := ab_ zc hb; replace zd := ab_ zd hb; replace zt := ab_ zt hb; replace zu := ab_ zu hb; replace zz := ab_ zz hb; replace zA := ab_ zA hb; replace zE := ab_ zE hb; replace zF := ab_ zF hb; replace zO := ab_ zO hb; replace zP := ab_ zP hb; replace zQ := ab_ zQ hb; replace zR := ab_ zR hb; replace zW := ab_ zW hb; replace zX := ab_ zX hb; replace zb1 := ab_ zb1 hb; replace zc1 := ab_ zc1 hb; replace za := bb_ za hb; replace zb := bb_ zb hb; replace ze := bb_ ze hb; replace zf := bb_ zf hb; replace zi := bb_ zi hb; replace zl := bb_ zl hb; replace zj := bb_ zj hb; replace zo := bb_ zo hb; replace zJ := bb_ zJ hb; replace HB := hs_ HB hb; clear hb hbox hg; obtain ⟨Ao134, co134, eo134⟩ := Kd.R_slice zb1.out; subst eo134; have hnb135 := NB894_820.out; have hnc135 := zU1.out; have hnb136 := NB894_829.out; have hnc136 := zV1.out; have hnb137 := NB894_838.out; have hnc137 := zW1.out; have hnb138 := NB894_846.out; have hnc138 := zX1.out; have hnb139 := NB894_854.out; have hnc139 := zY1.out; have hnb140 := NB894_862.out; have hnc140 := zZ1.out; have hnb141 := NB894_870.out; have hnc141 := za2.out; have hnb142 := NB894_878.out; have hnc142 := zb2.out; have hnb143 := NB894_886.out; have hnc143 := zc2.out; have hcz144_0 : w133.cell? ⟨zv2, 0, none⟩ = some (.slice none 0 0) := (blk_cell zx.out 0).trans rfl; have hcz144_1 : w133.cell? ⟨zv2, 1, none⟩ = some (.slice none 0 0) := (blk_cell zx.out 1).trans rfl; have hfz144_0 := blk_frozen zx.out 0; have hfz144_1 := blk_frozen zx.out 1; obtain ⟨Ao145, co145, eo145⟩ := Kd.R_slice zc1.out; subst eo145; have hcz146_0 : w133.cell? ⟨zk1, 0, none⟩ = some (.slice zA2 t863.length zy2) := (blk_cell zj.out 0).trans rfl; have hcz146_1 : w133.cell? ⟨zk1, 1, none⟩ = some (.slice zz2 t866.length zr2) := (blk_cell zj.out 1).trans rfl; have hfz146_0 := blk_frozen zj.out 0; have hfz146_1 := blk_frozen zj.out 1) | ((with_reducible refine gate_callee (f := 54) rfl ?_); refine goesL_ (some 82) rfl rfl Try.func54 (by kernel_rfl) rfl #[.agg #[.slice zA2 t863.length zy2, .slice zz2 t866.length zr2]] rfl (by (try simp only [List.map_toArray, List.map_cons, List.map_nil]); first | done | rfl | (simp only [List.length_drop, List.length_take]; rfl)) ?_; (with_reducible refine (impl_UnshearSurface.calls k _ _ t863 _ _ t866 t895 t898 true _ ?side1 ?side2 ?side3 ?side4 A15.out).mono ?_); (case side1 => refine (Kd.R_reads' (e := 3) (base := w.heap.size) (ok := fun _ => True) (n := t863.length) (c := zy2) ?_).2.2; exact ((rs2_ zQ.out zx.out))); (case side2 => exact (Kd.R_reads' zQ.out).2.1); (case side3 => refine (Kd.R_reads' (e := 3) (base := w.heap.size) (ok := fun _ => True) (n := t866.length) (c := zr2) ?_).2.2; exact ((rs2_ zR.out zx.out))); (case side4 => exact (Kd.R_reads' zR.out).2.1); rintro e w147 ⟨v896, v899, rfl, ho0, ho1, hb⟩; refine ⟨_, rfl, ?_⟩; have zf1 := Aside0.mk (R_fresh ho0 (below_size (hb2_ HB.out zw2.out))); have zg1 := Aside0.mk (R_fresh ho1 (below_size (hb2_ HB.out zw2.out))); replace zc := as_ zc zx hb; replace zd := as_ zd zx hb; replace zt := as_ zt zx hb; replace zu := as_ zu zx hb; replace zz := as_ zz zx hb; replace zA := as_ zA zx hb; replace zE := as_ zE zx hb; replace zF := as_ zF zx hb; replace zO := as_ zO zx hb; replace zP := as_ zP zx hb; replace zQ := as_ zQ zx hb; replace zR := as_ zR zx hb; replace zW := as_ zW zx hb; replace zX := as_ zX zx hb; replace zb1 := as_ zb1 zx hb; replace zc1 := as_ zc1 zx hb; replace za := bf_ za zU1 hb; replace zb := bf_ zb zV1 hb; replace ze := bf_ ze zW1 hb; replace zf := bf_ zf zX1 hb; replace zi := bf_ zi zY1 hb; replace zl := bf_ zl zZ1 hb; replace zj := bf_ zj za2 hb; replace zo := bf_ zo zb2 hb; replace zJ := bf_ zJ zc2 hb; replace zx := bp_ zx hb; replace HB := ht_ HB zw2 hb; (try clear hb); (try clear hb2); (try clear hk); (try clear hi); (try clear ho0); (try clear ho1)) | ((with_reducible refine gate_dst (N := 23) rfl ?_); refine box_event ?hg (N := 23) ?hd (cs := #[.slice none 0 0, .slice none 0 0]) (t := 33) ?hr ?_; (case hd => rfl); (case hg => rfl); (case hr => first | (go_simp; done) | (go_simp; rfl)); intro zx2 hg w148 hbox hb; have zy := Aside0.mk (hbox); have GW902 := sz_ HB hg; have zE2 := sz_ HB hg; have zd2 := nl_ za hg; have NB902_820 := ng_ za hg; have NB829_902 := nl_ zb hg; have NB902_829 := ng_ zb hg; have NB838_902 := nl_ ze hg; have NB902_838 := ng_ ze hg; have ze2 := nl_ zf hg; have NB902_846 := ng_ zf hg; have zf2 := nl_ zi hg; have NB902_854 := ng_ zi hg; have zg2 := nl_ zl hg; have NB902_862 := ng_ zl hg; have zh2 := nl_ zj hg; have NB902_870 := ng_ zj hg; have zi2 := nl_ zo hg; have NB902_878 := ng_ zo hg; have NB886_902 := nl_ zJ hg; have NB902_886 := ng_ zJ hg; have zj2 := nl_ zx hg; have NB902_894 := ng_ zx hg; replace zc := ab_ zc hb; replace zd := ab_ zd hb; replace zt := ab_ zt hb; replace zu := ab_ zu hb; replace zz := ab_ zz hb; replace zA := ab_ zA hb; replace zE := ab_ zE hb; replace zF := ab_ zF hb; replace zO := ab_ zO hb; replace zP := ab_ zP hb; replace zQ := ab_ zQ hb; replace zR := ab_ zR hb; replace zW := ab_ zW hb; replace zX := ab_ zX hb; replace zb1 := ab_ zb1 hb; replace zc1 := ab_ zc1 hb; replace zf1 := ab_ zf1 hb; replace zg1 := ab_ zg1 hb; replace za := bb_ za hb; replace ze := bb_ ze hb; replace zf := bb_ zf hb; replace zi := bb_ zi hb; replace zl := bb_ zl hb; replace zj := bb_ zj hb; replace zo := bb_ zo hb; replace zx := bb_ zx hb; replace HB := hs_ HB hb; clear zb; clear zJ; clear hb hbox hg; obtain ⟨Ao149, co149, eo149⟩ := Kd.R_slice zf1.out; subst eo149; have hnb150 := NB902_820.out; have hnc150 := zd2.out; have hnb151 := NB902_829.out; have hnc151 := NB829_902.out; have hnb152 := NB902_838.out; have hnc152 := NB838_902.out; have hnb153 := NB902_846.out; have hnc153 := ze2.out; have hnb154 := NB902_854.out; have hnc154 := zf2.out; have hnb155 := NB902_862.out; have hnc155 := zg2.out; have hnb156 := NB902_870.out; have hnc156 := zh2.out; have hnb157 := NB902_878.out; have hnc157 := zi2.out; have hnb158 := NB902_886.out; have hnc158 := NB886_902.out; have hnb159 := NB902_894.out; have hnc159 := zj2.out; have hcz160_0 : w148.cell? ⟨zx2, 0, none⟩ = some (.slice none 0 0) := (blk_cell zy.out 0).trans rfl; have hcz160_1 : w148.cell? ⟨zx2, 1, none⟩ = some (.slice none 0 0) := (blk_cell zy.out 1).trans rfl; have hfz160_0 := blk_frozen zy.out 0; have hfz160_1 := blk_frozen zy.out 1; obtain ⟨Ao161, co161, eo161⟩ := Kd.R_slice zg1.out; subst eo161) | (go_at_call 20; (with_reducible refine (impl_WordOk.calls k t821 true _ A26.out).mono ?_); rintro e w' ⟨rfl, ⟨nd, rfl⟩⟩; have hnb162 := ze1.out; have hnc162 := zU.out; have hcz163_0 : w148.cell? ⟨zw, 0, none⟩ = some (.slice Ao58 t831.length zF2) := (blk_cell ze.out 0).trans rfl; have hcz163_1 : w148.cell? ⟨zw, 1, none⟩ = some (.slice Ao60 t834.length zG2) := (blk_cell ze.out 1).trans rfl; have hfz163_0 := blk_frozen ze.out 0; have hfz163_1 := blk_frozen ze.out 1; have hcz164_0 : w148.cell? ⟨zn, 0, none⟩ = some (.slice zK t814.length zB) := (blk_cell za.out 0).trans rfl; have hcz164_1 : w148.cell? ⟨zn, 1, none⟩ = some (.slice zL t817.length zC) := (blk_cell za.out 1).trans rfl; have hfz164_0 := blk_frozen za.out 0; have hfz164_1 := blk_frozen za.out 1) | (go_at_call 29; (with_reducible refine (impl_SameSurface.calls k _ _ t831 _ _ t834 _ _ t814 _ _ t817 true _ ?side1 ?side2 ?side3 ?side4 ?side5 ?side6 ?side7 ?side8 A28.out).mono ?_); (case side1 => refine (Kd.R_reads' (e := 3) (base := w.heap.size) (ok := fun _ => True) (n := t831.length) (c := zF2) ?_).2.2; exact ((Kd.R_drewN (rs2_ zt.out zy.out) _))); (case side2 => exact (Kd.R_reads' zt.out).2.1); (case side3 => refine (Kd.R_reads' (e := 3) (base := w.heap.size) (ok := fun _ => True) (n := t834.length) (c := zG2) ?_).2.2; exact ((Kd.R_drewN (rs2_ zu.out zy.out) _))); (case side4 => exact (Kd.R_reads' zu.out).2.1); (case side5 => refine (Kd.R_reads' (e := 3) (base := w.heap.size) (ok := fun _ => True) (n := t814.length) (c := zB) ?_).2.2; exact ((Kd.R_drewN (rs2_ zc.out zy.out) _))); (case side6 => exact (Kd.R_reads' zc.out).2.1); (case side7 => refine (Kd.R_reads' (e := 3) (base := w.heap.size) (ok := fun _ => True) (n := t817.length) (c := zC) ?_).2.2; exact ((Kd.R_drewN (rs2_ zd.out zy.out) _))); (case side8 => exact (Kd.R_reads' zd.out).2.1); rintro e w165 ⟨rfl, hb⟩; replace hb := dn_ hb; replace zc := as_ zc zy hb; replace zd := as_ zd zy hb; replace zz := as_ zz zy hb; replace zA := as_ zA zy hb; replace zE := as_ zE zy hb; replace zF := as_ zF zy hb; replace zO := as_ zO zy hb; replace zP := as_ zP zy hb; replace zQ := as_ zQ zy hb; replace zR := as_ zR zy hb; replace zW := as_ zW zy hb; replace zX := as_ zX zy hb; replace zb1 := as_ zb1 zy hb; replace zc1 := as_ zc1 zy hb; replace zf1 := as_ zf1 zy hb; replace zg1 := as_ zg1 zy hb; replace za := bf_ za zd2 hb; replace zf := bf_ zf ze2 hb; replace zi := bf_ zi zf2 hb; replace zl := bf_ zl zg2 hb; replace zj := bf_ zj zh2 hb; replace zo := bf_ zo zi2 hb; replace zx := bf_ zx zj2 hb; replace zy := bp_ zy hb; replace HB := ht_ HB zE2 hb; clear zt; clear zu; clear ze; (try clear hb); (try clear hb2); (try clear hk); (try clear hi); have hcz166_0 : w165.cell? ⟨zk2, 0, none⟩ = some (.slice Ao66 t839.length co66) := (blk_cell zf.out 0).trans rfl; have hcz166_1 : w165.cell? ⟨zk2, 1, none⟩ = some (.slice Ao71 t842.length co71) := (blk_cell zf.out 1).trans rfl; have hfz166_0 := blk_frozen zf.out 0; have hfz166_1 := blk_frozen zf.out 1; have hcz167_0 : w165.cell? ⟨zn, 0, none⟩ = some (.slice zK t814.length zB) := (blk_cell za.out 0).trans rfl; have hcz167_1 : w165.cell? ⟨zn, 1, none⟩ = some (.slice zL t817.length zC) := (blk_cell za.out 1).trans rfl; have hfz167_0 := blk_frozen za.out 0; have hfz167_1 := blk_frozen za.out 1) | (go_at_call 29; (with_reducible refine (impl_SameSurface.calls k _ _ t839 _ _ t842 _ _ t814 _ _ t817 true _ ?side1 ?side2 ?side3 ?side4 ?side5 ?side6 ?side7 ?side8 A30.out).mono ?_); (case side1 => repeat (first | exact (Kd.R_reads' zz.out).2.2 | (with_reducible refine Kd.C_alloc ?_ _) | (with_reducible refine Kd.C_drewN ?_ _) | (with_reducible refine Kd.C_drew ?_))); (case side2 => exact (Kd.R_reads' zz.out).2.1); (case side3 => repeat (first | exact (Kd.R_reads' zA.out).2.2 | (with_reducible refine Kd.C_alloc ?_ _) | (with_reducible refine Kd.C_drewN ?_ _) | (with_reducible refine Kd.C_drew ?_))); (case side4 => exact (Kd.R_reads' zA.out).2.1); (case side5 => repeat (first | exact (Kd.R_reads' zc.out).2.2 | (with_reducible refine Kd.C_alloc ?_ _) | (with_reducible refine Kd.C_drewN ?_ _) | (with_reducible refine Kd.C_drew ?_))); (case side6 => exact (Kd.R_reads' zc.out).2.1); (case side7 => repeat (first | exact (Kd.R_reads' zd.out).2.2 | (with_reducible refine Kd.C_alloc ?_ _) | (with_reducible refine Kd.C_drewN ?_ _) | (with_reducible refine Kd.C_drew ?_))); (case side8 => exact (Kd.R_reads' zd.out).2.1); rintro e w168 ⟨rfl, hb⟩; replace zc := ab_ zc hb; replace zd := ab_ zd hb; replace zE := ab_ zE hb; replace zF := ab_ zF hb; replace zO := ab_ zO hb; replace zP := ab_ zP hb; replace zQ := ab_ zQ hb; replace zR := ab_ zR hb; replace zW := ab_ zW hb; replace zX := ab_ zX hb; replace zb1 := ab_ zb1 hb; replace zc1 := ab_ zc1 hb; replace zf1 := ab_ zf1 hb; replace zg1 := ab_ zg1 hb; replace za := bb_ za hb; replace zi := bb_ zi hb; replace zl := bb_ zl hb; replace zj := bb_ zj hb; replace zo := bb_ zo hb; replace zx := bb_ zx hb; replace zy := bb_ zy hb; replace HB := hs_ HB hb; clear zz; clear zA; clear zf; (try clear hb); (try clear hb2); (try clear hk); (try clear hi); have hcz169_0 : w168.cell? ⟨zm2, 0, none⟩ = some (.slice Ao75 t847.length co75) := (blk_cell zi.out 0).trans rfl; have hcz169_1 : w168.cell? ⟨zm2, 1, none⟩ = some (.slice Ao81 t850.length co81) := (blk_cell zi.out 1).trans rfl; have hfz169_0 := blk_frozen zi.out 0; have hfz169_1 := blk_frozen zi.out 1; have hcz170_0 : w168.cell? ⟨zo2, 0, none⟩ = some (.slice Ao85 t855.length co85) := (blk_cell zl.out 0).trans rfl; have hcz170_1 : w168.cell? ⟨zo2, 1, none⟩ = some (.slice Ao92 t858.length co92) := (blk_cell zl.out 1).trans rfl; have hfz170_0 := blk_frozen zl.out 0; have hfz170_1 := blk_frozen zl.out 1) | (go_at_call 30; (with_reducible refine (impl_AreIsomorphic.calls k _ _ t847 _ _ t850 _ _ t855 _ _ t858 true _ ?side1 ?side2 ?side3 ?side4 ?side5 ?side6 ?side7 ?side8 A32.out).mono ?_); (case side1 => repeat (first | exact (Kd.R_reads' zE.out).2.2 | (with_reducible refine Kd.C_alloc ?_ _) | (with_reducible refine Kd.C_drewN ?_ _) | (with_reducible refine Kd.C_drew ?_))); (case side2 => exact (Kd.R_reads' zE.out).2.1); (case side3 => repeat (first | exact (Kd.R_reads' zF.out).2.2 | (with_reducible refine Kd.C_alloc ?_ _) | (with_reducible refine Kd.C_drewN ?_ _) | (with_reducible refine Kd.C_drew ?_))); (case side4 => exact (Kd.R_reads' zF.out).2.1); (case side5 => repeat (first | exact (Kd.R_reads' zO.out).2.2 | (with_reducible refine Kd.C_alloc ?_ _) | (with_reducible refine Kd.C_drewN ?_ _) | (with_reducible refine Kd.C_drew ?_))); (case side6 => exact (Kd.R_reads' zO.out).2.1); (case side7 => repeat (first | exact (Kd.R_reads' zP.out).2.2 | (with_reducible refine Kd.C_alloc ?_ _) | (with_reducible refine Kd.C_drewN ?_ _) | (with_reducible refine Kd.C_drew ?_))); (case side8 => exact (Kd.R_reads' zP.out).2.1); rintro e w171 ⟨rfl, hb⟩; replace zc := ab_ zc hb; replace zd := ab_ zd hb; replace zQ := ab_ zQ hb; replace zR := ab_ zR hb; replace zW := ab_ zW hb; replace zX := ab_ zX hb; replace zb1 := ab_ zb1 hb; replace zc1 := ab_ zc1 hb; replace zf1 := ab_ zf1 hb; replace zg1 := ab_ zg1 hb; replace za := bb_ za hb; replace zj := bb_ zj hb; replace zo := bb_ zo hb; replace zx := bb_ zx hb; replace zy := bb_ zy hb; replace HB := hs_ HB hb; clear zE; clear zF; clear zO; clear zP; clear zi; clear zl; (try clear hb); (try clear hb2); (try clear hk); (try clear hi); have hcz172_0 : w171.cell? ⟨zk1, 0, none⟩ = some (.slice zA2 t863.length zy2) := (blk_cell zj.out 0).trans rfl; have hcz172_1 : w171.cell? ⟨zk1, 1, none⟩ = some (.slice zz2 t866.length zr2) := (blk_cell zj.out 1).trans rfl; have hfz172_0 := blk_frozen zj.out 0; have hfz172_1 := blk_frozen zj.out 1; have hcz173_0 : w171.cell? ⟨zs2, 0, none⟩ = some (.slice Ao108 t871.length co108) := (blk_cell zo.out 0).trans rfl; have hcz173_1 : w171.cell? ⟨zs2, 1, none⟩ = some (.slice Ao117 t874.length co117) := (blk_cell zo.out 1).trans rfl; have hfz173_0 := blk_frozen zo.out 0; have hfz173_1 := blk_frozen zo.out 1) | (go_at_call 29; (with_reducible refine (impl_SameSurface.calls k _ _ t863 _ _ t866 _ _ t871 _ _ t874 true _ ?side1 ?side2 ?side3 ?side4 ?side5 ?side6 ?side7 ?side8 A34.out).mono ?_); (case side1 => repeat (first | exact (Kd.R_reads' zQ.out).2.2 | (with_reducible refine Kd.C_alloc ?_ _) | (with_reducible refine Kd.C_drewN ?_ _) | (with_reducible refine Kd.C_drew ?_))); (case side2 => exact (Kd.R_reads' zQ.out).2.1); (case side3 => repeat (first | exact (Kd.R_reads' zR.out).2.2 | (with_reducible refine Kd.C_alloc ?_ _) | (with_reducible refine Kd.C_drewN ?_ _) | (with_reducible refine Kd.C_drew ?_))); (case side4 => exact (Kd.R_reads' zR.out).2.1); (case side5 => repeat (first | exact (Kd.R_reads' zW.out).2.2 | (with_reducible refine Kd.C_alloc ?_ _) | (with_reducible refine Kd.C_drewN ?_ _) | (with_reducible refine Kd.C_drew ?_))); (case side6 => exact (Kd.R_reads' zW.out).2.1); (case side7 => repeat (first | exact (Kd.R_reads' zX.out).2.2 | (with_reducible refine Kd.C_alloc ?_ _) | (with_reducible refine Kd.C_drewN ?_ _) | (with_reducible refine Kd.C_drew ?_))); (case side8 => exact (Kd.R_reads' zX.out).2.1); rintro e w174 ⟨rfl, hb⟩; replace zc := ab_ zc hb; replace zd := ab_ zd hb; replace zb1 := ab_ zb1 hb; replace zc1 := ab_ zc1 hb; replace zf1 := ab_ zf1 hb; replace zg1 := ab_ zg1 hb; replace za := bb_ za hb; replace zx := bb_ zx hb; replace zy := bb_ zy hb; replace HB := hs_ HB hb; clear zQ; clear zR; clear zW; clear zX; clear zj; clear zo; (try clear hb); (try clear hb2); (try clear hk); (try clear hi); have hcz175_0 : w174.cell? ⟨zv2, 0, none⟩ = some (.slice Ao134 t887.length co134) := (blk_cell zx.out 0).trans rfl; have hcz175_1 : w174.cell? ⟨zv2, 1, none⟩ = some (.slice Ao145 t890.length co145) := (blk_cell zx.out 1).trans rfl; have hfz175_0 := blk_frozen zx.out 0; have hfz175_1 := blk_frozen zx.out 1; have hcz176_0 : w174.cell? ⟨zn, 0, none⟩ = some (.slice zK t814.length zB) := (blk_cell za.out 0).trans rfl; have hcz176_1 : w174.cell? ⟨zn, 1, none⟩ = some (.slice zL t817.length zC) := (blk_cell za.out 1).trans rfl; have hfz176_0 := blk_frozen za.out 0; have hfz176_1 := blk_frozen za.out 1) | (go_at_call 29; (with_reducible refine (impl_SameSurface.calls k _ _ t887 _ _ t890 _ _ t814 _ _ t817 true _ ?side1 ?side2 ?side3 ?side4 ?side5 ?side6 ?side7 ?side8 A36.out).mono ?_); (case side1 => repeat (first | exact (Kd.R_reads' zb1.out).2.2 | (with_reducible refine Kd.C_alloc ?_ _) | (with_reducible refine Kd.C_drewN ?_ _) | (with_reducible refine Kd.C_drew ?_))); (case side2 => exact (Kd.R_reads' zb1.out).2.1); (case side3 => repeat (first | exact (Kd.R_reads' zc1.out).2.2 | (with_reducible refine Kd.C_alloc ?_ _) | (with_reducible refine Kd.C_drewN ?_ _) | (with_reducible refine Kd.C_drew ?_))); (case side4 => exact (Kd.R_reads' zc1.out).2.1); (case side5 => repeat (first | exact (Kd.R_reads' zc.out).2.2 | (with_reducible refine Kd.C_alloc ?_ _) | (with_reducible refine Kd.C_drewN ?_ _) | (with_reducible refine Kd.C_drew ?_))); (case side6 => exact (Kd.R_reads' zc.out).2.1); (case side7 => repeat (first | exact (Kd.R_reads' zd.out).2.2 | (with_reducible refine Kd.C_alloc ?_ _) | (with_reducible refine Kd.C_drewN ?_ _) | (with_reducible refine Kd.C_drew ?_))); (case side8 => exact (Kd.R_reads' zd.out).2.1); rintro e w177 ⟨rfl, hb⟩; replace zc := ab_ zc hb; replace zd := ab_ zd hb; replace zf1 := ab_ zf1 hb; replace zg1 := ab_ zg1 hb; replace za := bb_ za hb; replace zy := bb_ zy hb; replace HB := hs_ HB hb; clear zb1; clear zc1; clear zx; (try clear hb); (try clear hb2); (try clear hk); (try clear hi); have hcz178_0 : w177.cell? ⟨zx2, 0, none⟩ = some (.slice Ao149 t895.length co149) := (blk_cell zy.out 0).trans rfl; have hcz178_1 : w177.cell? ⟨zx2, 1, none⟩ = some (.slice Ao161 t898.length co161) := (blk_cell zy.out 1).trans rfl; have hfz178_0 := blk_frozen zy.out 0; have hfz178_1 := blk_frozen zy.out 1; have hcz179_0 : w177.cell? ⟨zn, 0, none⟩ = some (.slice zK t814.length zB) := (blk_cell za.out 0).trans rfl; have hcz179_1 : w177.cell? ⟨zn, 1, none⟩ = some (.slice zL t817.length zC) := (blk_cell za.out 1).trans rfl; have hfz179_0 := blk_frozen za.out 0; have hfz179_1 := blk_frozen za.out 1) | (go_at_call 29; (with_reducible refine (impl_SameSurface.calls k _ _ t895 _ _ t898 _ _ t814 _ _ t817 t909 _ ?side1 ?side2 ?side3 ?side4 ?side5 ?side6 ?side7 ?side8 A38.out).mono ?_); (case side1 => repeat (first | exact (Kd.R_reads' zf1.out).2.2 | (with_reducible refine Kd.C_alloc ?_ _) | (with_reducible refine Kd.C_drewN ?_ _) | (with_reducible refine Kd.C_drew ?_))); (case side2 => exact (Kd.R_reads' zf1.out).2.1); (case side3 => repeat (first | exact (Kd.R_reads' zg1.out).2.2 | (with_reducible refine Kd.C_alloc ?_ _) | (with_reducible refine Kd.C_drewN ?_ _) | (with_reducible refine Kd.C_drew ?_))); (case side4 => exact (Kd.R_reads' zg1.out).2.1); (case side5 => repeat (first | exact (Kd.R_reads' zc.out).2.2 | (with_reducible refine Kd.C_alloc ?_ _) | (with_reducible refine Kd.C_drewN ?_ _) | (with_reducible refine Kd.C_drew ?_))); (case side6 => exact (Kd.R_reads' zc.out).2.1); (case side7 => repeat (first | exact (Kd.R_reads' zd.out).2.2 | (with_reducible refine Kd.C_alloc ?_ _) | (with_reducible refine Kd.C_drewN ?_ _) | (with_reducible refine Kd.C_drew ?_))); (case side8 => exact (Kd.R_reads' zd.out).2.1); rintro e w180 ⟨rfl, hb⟩; replace HB := hs_ HB hb; clear zc; clear zd; clear zf1; clear zg1; clear za; clear zy; (try clear hb); (try clear hb2); (try clear hk); (try clear hi)))
                  go_ret
                  exact ⟨by first | rfl | (simp [errW_none, errW_some] <;> rfl) | (simp [*, errW_none, errW_some] <;> rfl), by repeat (first | (with_reducible first | exact HB.out | apply below_alloc | apply pw_below_drewN | apply below_drew1 | refine below_set ?_ zT.out | refine below_set ?_ zV.out | refine below_set ?_ zZ.out | refine below_set ?_ zl2.out | refine below_set ?_ zn2.out | refine below_set ?_ zp2.out | refine below_set ?_ zq2.out | refine below_set ?_ zt2.out | refine below_set ?_ zu2.out | refine below_set ?_ zw2.out | refine below_set ?_ zE2.out) | exact HB.out)⟩
                 ·replace c37 := Bool.eq_false_iff.mpr c37
                  subst c37
                  replace H := ifn_ H
                  exact absurd H (by simp)
                ·replace c35 := Bool.eq_false_iff.mpr c35
                 subst c35
                 replace H := ifn_ H
                 exact absurd H (by simp)
               ·replace c33 := Bool.eq_false_iff.mpr c33
                subst c33
                replace H := ifn_ H
                exact absurd H (by simp)
              ·replace c31 := Bool.eq_false_iff.mpr c31
               subst c31
               replace H := ifn_ H
               exact absurd H (by simp)
             ·replace c29 := Bool.eq_false_iff.mpr c29
              subst c29
              replace H := ifn_ H
              exact absurd H (by simp)
            ·replace c27 := Bool.eq_false_iff.mpr c27
             subst c27
             replace H := ifn_ H
             exact absurd H (by simp)
           ·replace c25 := Bool.eq_false_iff.mpr c25
            subst c25
            replace H := ifn_ H
            exact absurd H (by simp)
          ·replace c24 := Bool.eq_false_iff.mpr c24
           subst c24
           replace H := ifn_ H
           exact absurd H (by simp)
         ·replace c23 := Bool.eq_false_iff.mpr c23
          subst c23
          replace H := ifn_ H
          exact absurd H (by simp)
        ·replace c22 := Bool.eq_false_iff.mpr c22
         subst c22
         replace H := ifn_ H
         exact absurd H (by simp)
       ·replace c21 := Bool.eq_false_iff.mpr c21
        subst c21
        replace H := ifn_ H
        exact absurd H (by simp)
      ·replace c20 := Bool.eq_false_iff.mpr c20
       subst c20
       replace H := ifn_ H
       exact absurd H (by simp)
     ·replace c19 := Bool.eq_false_iff.mpr c19
      subst c19
      replace H := ifn_ H
      exact absurd H (by simp)
    ·replace c18 := Bool.eq_false_iff.mpr c18
     subst c18
     replace H := ifn_ H
     exact absurd H (by simp)
   ·replace c17 := Bool.eq_false_iff.mpr c17
    subst c17
    replace H := ifn_ H
    exact absurd H (by simp)
  ·replace c16 := Bool.eq_false_iff.mpr c16
   subst c16
   replace H := ifn_ H
   exact absurd H (by simp)

/-- The pure statement of laws_FnActions. -/
def laws_FnActions.Pure : Prop := ∀ (l0 : List Int), l0.length ≤ maxLen → l0.length * 1 ≤ 140737488351232 → (∀ x ∈ l0, (Lit.int .u8 x).wf = true) → ∃ k, laws_FnActions.f k l0 = some true
theorem laws_FnActions.walk (P : laws_FnActions.Pure) (a0 : Option Addr) (len0 cap0 : Nat) (z0 : List Int) (w : World) (w0 : ((a0 = none ∧ len0 = 0 ∧ cap0 = 0 ∧ z0 = []) ∨ ∃ x, a0 = some x ∧ len0 ≤ cap0 ∧ cap0 ≤ maxLen ∧ z0.length = cap0 ∧ (∀ i, i < z0.length → w.cell? (x.add i) = some (.int .u8 (z0.getD i 0))) ∧ ∀ n ∈ z0, (Lit.int .u8 n).wf = true)) (y0 : len0 * 1 ≤ 140737488351232) :
  Calls Try.prog 14 #[.slice a0 len0 cap0] w fun e w' => e = .returned (.bool true) ∧ Below w.heap.size w w' := by
 obtain ⟨l0, rfl, hr0, hm0, hw0, hc0⟩ := ReadsInt.ofRowC w0
 obtain ⟨k, h⟩ := P l0 hm0 y0 hw0
 refine (laws_FnActions.calls_true k _ _ l0 w (Kd.C_of_reads (d := (0 : Int)) (h1 := fun _ => rfl) hr0) hc0 h).mono ?_
 rintro e w' ⟨rfl, hd⟩
 exact ⟨rfl, hd⟩

end Go.Proofs.Ytlohmpgbjgidpaa.P
