/- The two TorusOf functions. -/
import Derived.Test.YtlohmpgbjgidpabWMore
import Derived.Test.YtlohmpgbjgidpabPx12
import Derived.Test.YtlohmpgbjgidpabPx13
import Derived.Test.YtlohmpgbjgidpabQBase
import Derived.Test.YtlohmpgbjgidpabQLists
import Derived.Test.YtlohmpgbjgidpabQPerm
namespace Go.Proofs.Ytlohmpgbjgidpab.Q
open Go.RowKit Go.Proofs.Ytlohmpgbjgidpab.P Go.Proofs.YtlohmpgbjgidpabW.PrintWords Go.Proofs.YtlohmpgbjgidpabW.PrintLast
set_option linter.unusedVariables false
set_option linter.unusedSimpArgs false

/-- The square to the right of square i. -/
def tR (w i : Nat) : Int := ((i / w * w + (i % w + 1) % w : Nat) : Int)
/-- The square above square i. -/
def tU (w h i : Nat) : Int := (((i + w) % (w * h) : Nat) : Int)
def torusL (f : Nat → Int) (n : Nat) : List Int := (List.range n).map f
theorem torusL_succ (f : Nat → Int) (n : Nat) : torusL f (n + 1) = torusL f n ++ [f n] := by simp [torusL, List.range_succ]
theorem torusL_length (f : Nat → Int) (n : Nat) : (torusL f n).length = n := by simp [torusL]
def torusB (a b : Int) : List Int × List Int × Bool := if 1 ≤ a ∧ a ≤ 24 ∧ 1 ≤ b ∧ b ≤ 24 ∧ a * b ≤ 24 then (torusL (tR a.toNat) (a.toNat * b.toNat), torusL (tU a.toNat b.toNat) (a.toNat * b.toNat), true) else ([], [], false)
theorem spec_torus_loop (w h : Nat) (hw : 1 ≤ w) (hn : w * h ≤ 24) (hw2 : w ≤ 24) : ∀ (d i : Nat), i + d = w * h → Ev (fun k => spec_TorusOf.l0 k w h i (torusL (tR w) i) (torusL (tU w h) i)) (torusL (tR w) (w * h), torusL (tU w h) (w * h), true) := by
  have e : wrap64 ((w : Int) * (h : Int)) = ((w * h : Nat) : Int) := by rw [w64 (by have := Int.natCast_mul w h; omega) (by have := Int.natCast_mul w h; omega), Int.natCast_mul]
  intro d
  induction d with
  | zero =>
    intro i hi
    refine Ev.step (fun k => by rw [spec_TorusOf.l0]) ?_
    rw [e, show i = w * h by omega]
    exact Ev.neg (by omega) (Ev.now _)
  | succ d ih =>
    intro i hi
    refine Ev.step (fun k => by rw [spec_TorusOf.l0]) ?_
    rw [e]
    refine Ev.pos (by omega) (Ev.neg (by omega) (Ev.pos (by rw [torusL_length]; omega) (Ev.neg (by omega) (Ev.pos (by rw [torusL_length]; omega) ?_))))
    have m1 : i / w * w ≤ i := Nat.div_mul_le_self i w
    have m2 : (i % w + 1) % w < w := Nat.mod_lt _ (by omega)
    have m3 : i % w < w := Nat.mod_lt _ (by omega)
    have r : wrap64 (wrap64 (wrap64 (Int.tdiv (i : Int) (w : Int)) * (w : Int)) + Int.tmod (wrap64 (Int.tmod (i : Int) (w : Int) + 1)) (w : Int)) = tR w i := by
      have t1 : Int.tdiv (i : Int) (w : Int) = ((i / w : Nat) : Int) := rfl
      have t2 : Int.tmod (i : Int) (w : Int) = ((i % w : Nat) : Int) := rfl
      rw [t1, t2]
      have t3 : i / w ≤ i := Nat.div_le_self i w
      show _ = ((i / w * w + (i % w + 1) % w : Nat) : Int)
      generalize i / w = qq at *
      generalize i % w = rr at *
      rw [w64 (x := (qq : Int)) (by omega) (by omega), ← Int.natCast_mul, w64n (by omega), w64 (x := ((qq * w : Nat) : Int)) (by omega) (by omega)]
      have t4 : Int.tmod ((rr + 1 : Nat) : Int) (w : Int) = (((rr + 1) % w : Nat) : Int) := rfl
      rw [t4]
      generalize (rr + 1) % w = zz at *
      rw [w64 (by omega) (by omega), Int.natCast_add]
    have u : Int.tmod (wrap64 ((i : Int) + (w : Int))) ((w * h : Nat) : Int) = tU w h i := by
      rw [w64 (by omega) (by omega), ← Int.natCast_add]
      rfl
    rw [r, u, w64n (by omega), ← torusL_succ, ← torusL_succ]
    exact ih (i + 1) (by omega)
theorem small_mul {a b : Int} (ha : 1 ≤ a) (ha' : a ≤ 24) (hb : 1 ≤ b) (hb' : b ≤ 24) : 0 ≤ a * b ∧ a * b ≤ 576 := by
  refine ⟨Int.mul_nonneg (by omega) (by omega), ?_⟩
  have := Int.mul_le_mul ha' hb' (by omega) (by omega)
  omega
theorem spec_TorusOf_ev (a b : Int) : Ev (fun k => spec_TorusOf.f k a b) (torusB a b) := by
  have no : Ev (fun k => spec_TorusOf.j0 k a b true) ([], [], false) := Ev.step (fun k => by rw [spec_TorusOf.j0]) (Ev.pos rfl (Ev.now _))
  refine Ev.same (fun k => by rw [spec_TorusOf.f]) (Ev.plain (in_some _ _ _) ?_)
  unfold torusB
  by_cases h1 : 1 ≤ a ∧ a ≤ 24
  · refine Ev.pos (by simp [h1]) (Ev.plain (in_some _ _ _) ?_)
    by_cases h2 : 1 ≤ b ∧ b ≤ 24
    · refine Ev.pos (by simp [h2]) ?_
      have sm := small_mul h1.1 h1.2 h2.1 h2.2
      rw [w64 (by omega) (by omega)]
      by_cases h3 : a * b ≤ 24
      · rw [if_pos ⟨h1.1, h1.2, h2.1, h2.2, h3⟩, decide_eq_false (by omega)]
        obtain ⟨w, rfl⟩ := Int.eq_ofNat_of_zero_le (show 0 ≤ a by omega)
        obtain ⟨h, rfl⟩ := Int.eq_ofNat_of_zero_le (show 0 ≤ b by omega)
        have e := Int.natCast_mul w h
        refine Ev.step (fun k => by rw [spec_TorusOf.j0]) (Ev.neg (by simp) ?_)
        exact spec_torus_loop w h (by omega) (by omega) (by omega) (w * h) 0 (by omega)
      · rw [if_neg (fun z => h3 z.2.2.2.2), decide_eq_true (by omega)]
        exact no
    · rw [if_neg (fun z => h2 ⟨z.2.2.1, z.2.2.2.1⟩)]
      exact Ev.neg (by simpa using h2) no
  · rw [if_neg (fun z => h1 ⟨z.1, z.2.1⟩)]
    exact Ev.neg (by simpa using h1) no
theorem row_div {w x y : Nat} (h : x < w) : (y * w + x) / w = y ∧ (y * w + x) % w = x := by
  have hw : 0 < w := by omega
  refine ⟨?_, ?_⟩
  · rw [Nat.add_comm, Nat.add_mul_div_right _ _ hw, Nat.div_eq_of_lt h, Nat.zero_add]
  · rw [Nat.add_comm, Nat.add_mul_mod_self_right, Nat.mod_eq_of_lt h]
theorem up_mod {w h x y : Nat} (hx : x < w) (hy : y < h) : (y * w + x + w) % (w * h) = (y + 1) % h * w + x := by
  have l : (y + 1) * w ≤ h * w := Nat.mul_le_mul_right w (by omega)
  rw [Nat.succ_mul] at l
  rw [Nat.mul_comm w h]
  by_cases c : y + 1 = h
  · subst c
    rw [Nat.mod_self, Nat.zero_mul, Nat.zero_add, Nat.succ_mul, show y * w + x + w = x + (y * w + w) by omega, Nat.add_mod_right]
    exact Nat.mod_eq_of_lt (by omega)
  · rw [Nat.mod_eq_of_lt (show y + 1 < h by omega), Nat.succ_mul]
    have l2 : (y + 2) * w ≤ h * w := Nat.mul_le_mul_right w (by omega)
    rw [Nat.add_mul] at l2
    rw [Nat.mod_eq_of_lt (by omega)]
    omega
theorem impl_torus_row (w h : Nat) (hw : 1 ≤ w) (hh : 1 ≤ h) (hn : w * h ≤ 24) (hw2 : w ≤ 24) (hh2 : h ≤ 24) (y : Nat) (hy : y < h)
    (next : Ev (fun k => impl_TorusOf.l0 k w h ((y + 1 : Nat) : Int) (torusL (tR w) ((y + 1) * w)) (torusL (tU w h) ((y + 1) * w))) (torusL (tR w) (w * h), torusL (tU w h) (w * h), true)) :
    ∀ (d x : Nat), x + d = w → Ev (fun k => impl_TorusOf.l1 k w h y x (torusL (tR w) (y * w + x)) (torusL (tU w h) (y * w + x))) (torusL (tR w) (w * h), torusL (tU w h) (w * h), true) := by
  have l : (y + 1) * w ≤ h * w := Nat.mul_le_mul_right w (by omega)
  rw [Nat.succ_mul] at l
  rw [Nat.mul_comm h w] at l
  intro d
  induction d with
  | zero =>
    intro x hx
    refine Ev.step (fun k => by rw [impl_TorusOf.l1]) (Ev.neg (by omega) ?_)
    rw [w64n (by omega), show x = w by omega, ← Nat.succ_mul]
    exact next
  | succ d ih =>
    intro x hx
    refine Ev.step (fun k => by rw [impl_TorusOf.l1]) (Ev.pos (by omega) (Ev.neg (by omega) (Ev.pos (by rw [torusL_length]; omega) (Ev.neg (by omega) (Ev.pos (by rw [torusL_length]; omega) ?_)))))
    have rd := row_div (w := w) (x := x) (y := y) (by omega)
    have up := up_mod (w := w) (h := h) (x := x) (y := y) (by omega) hy
    have m2 : (x + 1) % w < w := Nat.mod_lt _ (by omega)
    have m3 : (y + 1) % h < h := Nat.mod_lt _ (by omega)
    have m4 : (y + 1) % h * w ≤ 576 := by
      have := Nat.mul_le_mul (show (y + 1) % h ≤ 24 by omega) hw2
      omega
    have r : wrap64 (wrap64 ((y : Int) * (w : Int)) + Int.tmod (wrap64 ((x : Int) + 1)) (w : Int)) = tR w (y * w + x) := by
      rw [← Int.natCast_mul, w64 (x := ((y * w : Nat) : Int)) (by omega) (by omega), w64n (by omega)]
      have t4 : Int.tmod ((x + 1 : Nat) : Int) (w : Int) = (((x + 1) % w : Nat) : Int) := rfl
      rw [t4, w64 (by omega) (by omega), tR, rd.1, rd.2, Int.natCast_add]
    have u : wrap64 (wrap64 (Int.tmod (wrap64 ((y : Int) + 1)) (h : Int) * (w : Int)) + (x : Int)) = tU w h (y * w + x) := by
      rw [w64n (by omega)]
      have t4 : Int.tmod ((y + 1 : Nat) : Int) (h : Int) = (((y + 1) % h : Nat) : Int) := rfl
      rw [t4, ← Int.natCast_mul, w64 (x := (((y + 1) % h * w : Nat) : Int)) (by omega) (by omega), w64 (by omega) (by omega), tU, up, Int.natCast_add]
    rw [r, u, w64n (by omega), ← torusL_succ, ← torusL_succ]
    exact ih (x + 1) (by omega)
theorem impl_torus_loop (w h : Nat) (hw : 1 ≤ w) (hh : 1 ≤ h) (hn : w * h ≤ 24) (hw2 : w ≤ 24) (hh2 : h ≤ 24) : ∀ (d y : Nat), y + d = h → Ev (fun k => impl_TorusOf.l0 k w h y (torusL (tR w) (y * w)) (torusL (tU w h) (y * w))) (torusL (tR w) (w * h), torusL (tU w h) (w * h), true) := by
  intro d
  induction d with
  | zero =>
    intro y hy
    refine Ev.step (fun k => by rw [impl_TorusOf.l0]) (Ev.neg (by omega) ?_)
    rw [show y = h by omega, Nat.mul_comm h w]
    exact Ev.now _
  | succ d ih =>
    intro y hy
    refine Ev.step (fun k => by rw [impl_TorusOf.l0]) (Ev.pos (by omega) ?_)
    exact impl_torus_row w h hw hh hn hw2 hh2 y (by omega) (ih (y + 1) (by omega)) w 0 (by omega)
theorem impl_TorusOf_ev (a b : Int) : Ev (fun k => impl_TorusOf.f k a b) (torusB a b) := by
  have no : Ev (fun k => impl_TorusOf.j0 k a b true) ([], [], false) := Ev.step (fun k => by rw [impl_TorusOf.j0]) (Ev.pos rfl (Ev.now _))
  refine Ev.same (fun k => by rw [impl_TorusOf.f]) ?_
  unfold torusB
  by_cases g1 : a < 1
  · rw [if_neg (fun z => by omega)]; exact Ev.pos g1 no
  refine Ev.neg g1 ?_
  by_cases g2 : b < 1
  · rw [if_neg (fun z => by omega)]; exact Ev.pos g2 no
  refine Ev.neg g2 ?_
  by_cases g3 : a > 24
  · rw [if_neg (fun z => by omega)]; exact Ev.pos g3 no
  refine Ev.neg g3 ?_
  by_cases g4 : b > 24
  · rw [if_neg (fun z => by omega)]; exact Ev.pos g4 no
  refine Ev.neg g4 ?_
  have sm := small_mul (a := a) (b := b) (by omega) (by omega) (by omega) (by omega)
  rw [w64 (by omega) (by omega)]
  by_cases h3 : a * b ≤ 24
  · rw [if_pos ⟨by omega, by omega, by omega, by omega, h3⟩, decide_eq_false (by omega)]
    obtain ⟨w, rfl⟩ := Int.eq_ofNat_of_zero_le (show 0 ≤ a by omega)
    obtain ⟨h, rfl⟩ := Int.eq_ofNat_of_zero_le (show 0 ≤ b by omega)
    have e := Int.natCast_mul w h
    refine Ev.step (fun k => by rw [impl_TorusOf.j0]) (Ev.neg (by simp) ?_)
    have := impl_torus_loop w h (by omega) (by omega) (by omega) (by omega) (by omega) h 0 (by omega)
    rw [Nat.zero_mul] at this
    exact this
  · rw [if_neg (fun z => h3 z.2.2.2.2), decide_eq_true (by omega)]
    exact no
theorem torusB_length (a b : Int) : (torusB a b).1.length ≤ 24 ∧ (torusB a b).2.1.length ≤ 24 := by
  unfold torusB
  split
  · rename_i h
    obtain ⟨w, rfl⟩ := Int.eq_ofNat_of_zero_le (show 0 ≤ a by omega)
    obtain ⟨v, rfl⟩ := Int.eq_ofNat_of_zero_le (show 0 ≤ b by omega)
    have e := Int.natCast_mul w v
    simp only [torusL_length, Int.toNat_natCast]
    omega
  · simp

end Go.Proofs.Ytlohmpgbjgidpab.Q
