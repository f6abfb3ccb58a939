-- MADE by this project's printer (wip/mk) out of the translation; Lean checks it.
import Derived.Test.YtlohmpgbjgidpaeDoorPx0
import Derived.Test.YtlohmpgbjgidpaeDoorPx1
import Derived.Test.YtlohmpgbjgidpaeDoorPx2
namespace Go.Proofs.YtlohmpgbjgidpaeDoor.P
open Go.RowKit Go.Proofs.YtlohmpgbjgidpaeDoorW.PrintWords Go.Proofs.YtlohmpgbjgidpaeDoorW.PrintLast Go.Proofs.YtlohmpgbjgidpaeDoorW.PrintMore
attribute [local go_sem] max2_int min2_int max_two min_two max_three min_three max_four min_four   -- for this text's walks alone
set_option linter.unusedVariables false
set_option linter.unusedSimpArgs false

/-! ### spec_l20New: function 12 -/
def spec_l20New.l0 : Nat → Int → Int → List Int → Int → Int → Option (List Int × Int × Int)
  | 0, _, _, _, _, _ => none
  | k + 1, x1, x6, x1000, x1001, x1002 => if x6 < x1 then ((spec_l01Byte.f x1000 x1001 x1002).bind fun bt => spec_l20New.l0 k x1 (wrap64 (x6 + 1)) x1000 bt.2.1 bt.2.2) else some (x1000, x1001, x1002)
def spec_l20New.f (k : Nat) (l0 : List Int) (a1 : Int) : Option (List Int × Int × Int) := (spec_l01New.f k l0).bind fun bt => spec_l20New.l0 k a1 0 bt.1 bt.2.1 bt.2.2
theorem spec_l20New.mono_l : ∀ k y0 y1 y2 y3 y4, LeO (spec_l20New.l0 k y0 y1 y2 y3 y4) (spec_l20New.l0 (k + 1) y0 y1 y2 y3 y4)
  | 0 => fun _ _ _ _ _ r h => by simp [spec_l20New.l0] at h
  | k + 1 => by
    have ih0 := spec_l20New.mono_l k
    intro y0 y1 y2 y3 y4
    unfold spec_l20New.l0
    refine LeO.ite (LeO.bind (LeO.refl _) fun _ => ih0 _ _ _ _ _) (LeO.refl _)
theorem spec_l20New.mono : ∀ a0 a1 k, LeO (spec_l20New.f k a0 a1) (spec_l20New.f (k + 1) a0 a1) := fun a0 a1 k => by
  unfold spec_l20New.f
  exact LeO.bind (spec_l01New.mono a0 k) fun _ => spec_l20New.mono_l k _ _ _ _ _
theorem below_keep {w0 w W W' : World} {g : Nat} (hW : Below w.heap.size w W) (hg : w.heap.size ≤ g) (hB : Below w0.heap.size w0 W) (hB' : Below w0.heap.size w0 W') (hk : KeepBut W W' g none) : Below w.heap.size w W' :=
  ⟨by rw [hB'.os, ← hB.os, hW.os], by rw [hB'.tape, ← hB.tape, hW.tape], by rw [hB'.output, ← hB.output, hW.output], Nat.le_trans hW.size hk.1, fun i hi => (hk.2 i (Nat.lt_of_lt_of_le hi hW.size) (by omega) (by simp)).trans (hW.block i hi)⟩
set_option maxHeartbeats 8000000 in
set_option maxRecDepth 100000 in
theorem spec_l20New.calls (k : Nat) (A0 : Option Addr) (c0 : Nat) (l0 : List Int) (a1 : Int) (r1 : List Int) (r2 : Int) (r3 : Int) (w0 w : World) (hB : Below w0.heap.size w0 w) (hr0 : Kd.C (Kd.int .u8) w0 A0 l0.length l0) (hc0 : l0.length ≤ c0) (h : spec_l20New.f k l0 a1 = some (r1, r2, r3)) :
    Calls Tryd.prog 12 #[.slice A0 l0.length c0, .int .i64 a1] w fun e w' => ∃ g_ : Nat, e = .returned (.pointer (some ⟨g_, 0, none⟩)) ∧ IsS46 w0 w' g_ r1 r2 r3 ∧ Below w0.heap.size w0 w' ∧ Below w.heap.size w w' := by
  have HR0 := Aside0.mk hr0
  have HC0 := Aside0.mk hc0
  have HBb := Aside0.mk hB
  clear hr0 hc0 hB
  simp only [spec_l20New.f] at h
  obtain ⟨⟨b, p, q⟩, A1, h⟩ := Option.bind_eq_some_iff.mp h
  have AA := Aside0.mk A1
  have H := Aside0.mk h
  clear A1 h
  go_enter Tryd.func12, Tryd.ntmps12
  go_wp2_with (go_at_call 16; (refine (spec_l01New.calls2 k A0 c0 l0 b p q w0 _ HBb.out HR0.out HC0.out AA.out).mono ?_); rintro e w1 ⟨g, rfl, hI, hb, hbw, hg⟩; have HI := Aside0.mk hI; have HB := Aside0.mk hb; have HW := Aside0.mk hbw; have HG := Aside0.mk hg; clear hI hb hbw hg)
  go_loopg [6] k (fun kq v6 w' => ∃ (x6 x1 x2 : Int), v6 = .int .i64 x6 ∧ Aside0 (spec_l20New.l0 kq a1 x6 b x1 x2 = some (r1, r2, r3)) ∧ Aside0 (IsS46 w0 w' g b x1 x2) ∧ Aside0 (Below w0.heap.size w0 w') ∧ Aside0 (Below w.heap.size w w'))
  case atStart => exact ⟨0, p, q, rfl, H, HI, HB, HW⟩
  case round =>
    clear H HI HB HW AA HBb
    obtain ⟨x6, x1, x2, rfl, HA, HI, HB, HW⟩ := hrel
    cases gk with
    | zero => exact absurd HA.out (by simp [spec_l20New.l0])
    | succ k1 =>
      have h := HA.out
      clear HA
      simp only [spec_l20New.l0] at h
      by_cases c : x6 < a1
      · rw [if_pos c] at h
        have cb : decide (x6 < a1) = true := decide_eq_true c
        clear c
        obtain ⟨⟨t, p1, p2⟩, A1, h⟩ := Option.bind_eq_some_iff.mp h
        have AA := Aside0.mk A1
        have H := Aside0.mk h
        clear A1 h
        go_wp2_with (go_at_call 13; (refine (spec_l01Byte.calls g b x1 x2 t p1 p2 w0 _ HI.out HB.out AA.out).mono ?_); rintro e w1 ⟨rfl, hI, hb, hk⟩; have HI1 := Aside0.mk hI; have HB1 := Aside0.mk hb; have HK1 := Aside0.mk hk; clear hI hb hk)
        go_roundg k1
        case measure => omega
        case rel => exact ⟨wrap64 (x6 + 1), p1, p2, rfl, H, HI1, HB1, ⟨below_keep HW.out HG.out HB.out HB1.out HK1.out⟩⟩
      · rw [if_neg c] at h
        have cb : decide (x6 < a1) = false := decide_eq_false c
        clear c
        simp only [Option.some.injEq, Prod.mk.injEq] at h
        obtain ⟨rfl, rfl, rfl⟩ := h
        go_wp2
        go_ret
        exact ⟨_, rfl, HI.out, HB.out, HW.out⟩

end Go.Proofs.YtlohmpgbjgidpaeDoor.P
