/- The matrix of a word: each letter's matrix on the left of what is there. -/
import Derived.Test.YtlohmpgbjgidpabWMore
import Derived.Test.YtlohmpgbjgidpabPx44
import Derived.Test.YtlohmpgbjgidpabPx45
import Derived.Test.YtlohmpgbjgidpabPx48
import Derived.Test.YtlohmpgbjgidpabPx49
import Derived.Test.YtlohmpgbjgidpabQBase
import Derived.Test.YtlohmpgbjgidpabQBytes
import Derived.Test.YtlohmpgbjgidpabQWord
namespace Go.Proofs.Ytlohmpgbjgidpab.Q
open Go.RowKit Go.Proofs.Ytlohmpgbjgidpab.P Go.Proofs.YtlohmpgbjgidpabW.PrintWords Go.Proofs.YtlohmpgbjgidpabW.PrintLast
set_option linter.unusedVariables false
set_option linter.unusedSimpArgs false

def letM (c : Int) : Int × Int × Int × Int := if c = 84 then (1, 1, 0, 1) else if c = 116 then (1, -1, 0, 1) else if c = 83 then (0, -1, 1, 0) else (0, 1, -1, 0)
def timM (m n : Int × Int × Int × Int) : Int × Int × Int × Int := (wrap64 (wrap64 (m.1 * n.1) + wrap64 (m.2.1 * n.2.2.1)), wrap64 (wrap64 (m.1 * n.2.1) + wrap64 (m.2.1 * n.2.2.2)), wrap64 (wrap64 (m.2.2.1 * n.1) + wrap64 (m.2.2.2 * n.2.2.1)), wrap64 (wrap64 (m.2.2.1 * n.2.1) + wrap64 (m.2.2.2 * n.2.2.2)))
def matF (s : ByteArray) : Nat → Nat → Int × Int × Int × Int → Int × Int × Int × Int
  | 0, _, m => m
  | d + 1, i, m => matF s d (i + 1) (timM (letM (bt s (i : Int))) m)
def matB (s : ByteArray) : Int × Int × Int × Int × Bool := if wordOkB s = true then ((matF s s.size 0 (1, 0, 0, 1)).1, (matF s s.size 0 (1, 0, 0, 1)).2.1, (matF s s.size 0 (1, 0, 0, 1)).2.2.1, (matF s s.size 0 (1, 0, 0, 1)).2.2.2, true) else (0, 0, 0, 0, false)
theorem spec_let (c : Int) : spec_l05Matrix.f c = some (letM c) := by unfold spec_l05Matrix.f letM; repeat (first | rfl | split)
theorem impl_let (c : Int) : impl_letterMatrix.f c = some (letM c) := by unfold impl_letterMatrix.f letM; repeat (first | rfl | split)
theorem spec_mat_loop (s : ByteArray) (hn : s.size < 9223372036854775807) : ∀ (d i : Nat) (a b c e : Int), i + d = s.size → Ev (fun k => spec_MatrixOf.l0 k s i a b c e) ((matF s d i (a, b, c, e)).1, (matF s d i (a, b, c, e)).2.1, (matF s d i (a, b, c, e)).2.2.1, (matF s d i (a, b, c, e)).2.2.2, true) := by
  intro d
  induction d with
  | zero =>
    intro i a b c e h
    refine Ev.step (fun k => by rw [spec_MatrixOf.l0]) (Ev.neg (by omega) ?_)
    exact Ev.now _
  | succ d ih =>
    intro i a b c e h
    refine Ev.step (fun k => by rw [spec_MatrixOf.l0]) (Ev.pos (by omega) (Ev.pos (by omega) ?_))
    refine Ev.plain (spec_let _) ?_
    refine Ev.plain (a := timM (letM (bt s (i : Int))) (a, b, c, e)) rfl ?_
    rw [w64n (by omega), matF]
    exact ih (i + 1) _ _ _ _ (by omega)
theorem impl_mat_loop (s : ByteArray) (hn : s.size < 9223372036854775807) : ∀ (d i : Nat) (a b c e : Int), i + d = s.size → Ev (fun k => impl_MatrixOf.l0 k s i a b c e) ((matF s d i (a, b, c, e)).1, (matF s d i (a, b, c, e)).2.1, (matF s d i (a, b, c, e)).2.2.1, (matF s d i (a, b, c, e)).2.2.2, true) := by
  intro d
  induction d with
  | zero =>
    intro i a b c e h
    refine Ev.step (fun k => by rw [impl_MatrixOf.l0]) (Ev.neg (by omega) ?_)
    exact Ev.now _
  | succ d ih =>
    intro i a b c e h
    refine Ev.step (fun k => by rw [impl_MatrixOf.l0]) (Ev.pos (by omega) (Ev.pos (by omega) ?_))
    refine Ev.plain (impl_let _) ?_
    refine Ev.plain (a := timM (letM (bt s (i : Int))) (a, b, c, e)) rfl ?_
    rw [w64n (by omega), matF]
    exact ih (i + 1) _ _ _ _ (by omega)
theorem spec_MatrixOf_ev (s : ByteArray) (hn : s.size < 9223372036854775807) : Ev (fun k => spec_MatrixOf.f k s) (matB s) := by
  refine Ev.same (fun k => by rw [spec_MatrixOf.f]) (Ev.bind (spec_WordOk_ev s hn) ?_)
  unfold matB
  by_cases h : wordOkB s = true
  · rw [if_pos h]
    exact Ev.pos h (spec_mat_loop s hn s.size 0 1 0 0 1 (by omega))
  · rw [if_neg h]
    exact Ev.neg h (Ev.now _)
theorem impl_MatrixOf_ev (s : ByteArray) (hn : s.size < 9223372036854775807) : Ev (fun k => impl_MatrixOf.f k s) (matB s) := by
  refine Ev.same (fun k => by rw [impl_MatrixOf.f]) (Ev.bind (impl_WordOk_ev s hn) ?_)
  unfold matB
  by_cases h : wordOkB s = true
  · rw [if_pos h]
    exact Ev.pos h (impl_mat_loop s hn s.size 0 1 0 0 1 (by omega))
  · rw [if_neg h]
    exact Ev.neg h (Ev.now _)

end Go.Proofs.Ytlohmpgbjgidpab.Q
