-- MADE by this project's printer (wip/mk) out of the translation; Lean checks it.
import Derived.Test.YtlohmpgbjgidpaaProg
import Derived.Below
import Derived.Deep.Draws
import Derived.Deep.AppendLies
import Derived.Maps.AppendAt
import Derived.OwnWalk
import Derived.Laws.BytesArg
import Derived.Laws.MakeOwn
import Derived.Laws.OwnMore
import Derived.Deep.OwnRows
import Derived.Tactics
import Derived.Lib.ConvBytes
import Derived.Laws.Slices
import Derived.WalkKit
import Derived.KernelRfl
import Derived.RowKit3
import Derived.Deep.LoopGhost
import Derived.Deep.QuietTactic
import Derived.BigQuiet
import Derived.WideLaws
import Derived.Deep.DeepCutAuto
import Derived.Deep.CutBlock
import Derived.Deep.RegionHeld3
import Derived.Laws.Rows
import Derived.Lib.AppendStr
import Derived.ArgAppend
import Derived.Laws.IdiomCopy
import Derived.OrdersHeld
import Derived.Laws.BitsLemmas
import Derived.RowKit
import Derived.Test.YtlohmpgbjgidpaaWA
namespace Go.Proofs.Ytlohmpgbjgidpaa.P
open Go.RowKit Go.Proofs.YtlohmpgbjgidpaaW.PrintWords Go.Proofs.YtlohmpgbjgidpaaW.PrintLast Go.Proofs.YtlohmpgbjgidpaaW.PrintMore
attribute [local go_sem] max2_int min2_int max_two min_two max_three min_three max_four min_four   -- for this text's walks alone
set_option linter.unusedVariables false
set_option linter.unusedSimpArgs false



def errW : Option Int → Value
  | none => .nilIface
  | some c => .iface 0 (.int .i64 c)
theorem errW_none : errW none = .nilIface := rfl
theorem errW_some (c : Int) : errW (some c) = .iface 0 (.int .i64 c) := rfl

section
variable {w W w1 : World} {e e' b g g' t i j : Nat} {ok : Nat → Prop} {v A B : Value} {xs : List Int} {cs : Array Value} {o : Obj}
theorem hb2_ (h : Below w.heap.size w W) (hg : w.heap.size ≤ g) : Below w.heap.size w ((W.setCell ⟨g, i, none⟩ A).setCell ⟨g, j, none⟩ B) := below_set (below_set h hg) hg
theorem rs2_ (h : Kd.R (Kd.int .i64) 3 w b ok v xs) (hb : w.heap[g]? = some (.cells cs 33 (0, 0))) : Kd.R (Kd.int .i64) 3 ((w.setCell ⟨g, i, none⟩ A).setCell ⟨g, j, none⟩ B) b ok v xs :=
  Kd.R_mono (Kd.R_far (Kd.R_far (Kd.R_types h hb (by decide)) (fun _ hk => hk.2) A) (fun _ hk => hk.2) B) (fun _ hk => hk.1)
/-- A row that may be read, after two stores into a box. -/
theorem ab_ (h : Aside0 (Kd.R (Kd.int .i64) e w b ok v xs)) (hb : Below w.heap.size w w1) : Aside0 (Kd.R (Kd.int .i64) e w1 b ok v xs) := ⟨Kd.R_below h.out hb⟩
theorem as_ (h : Aside0 (Kd.R (Kd.int .i64) 3 w b ok v xs)) (k : Aside0 (w.heap[g]? = some (.cells cs 33 (0, 0)))) (hb : Below ((w.setCell ⟨g, i, none⟩ A).setCell ⟨g, j, none⟩ B).heap.size ((w.setCell ⟨g, i, none⟩ A).setCell ⟨g, j, none⟩ B) w1) : Aside0 (Kd.R (Kd.int .i64) 3 w1 b ok v xs) := ⟨Kd.R_below (rs2_ h.out k.out) hb⟩
theorem hs_ (h : Aside0 (Below w.heap.size w W)) (k : Below W.heap.size W w1) : Aside0 (Below w.heap.size w w1) := ⟨below_step h.out k⟩
theorem ht_ (h : Aside0 (Below w.heap.size w W)) (hg : Aside0 (w.heap.size ≤ g)) (k : Below ((W.setCell ⟨g, i, none⟩ A).setCell ⟨g, j, none⟩ B).heap.size ((W.setCell ⟨g, i, none⟩ A).setCell ⟨g, j, none⟩ B) w1) : Aside0 (Below w.heap.size w w1) := ⟨below_step (hb2_ h.out hg.out) k⟩
theorem bb_ (h : Aside0 (w.heap[g]? = some o)) (hb : Below w.heap.size w w1) : Aside0 (w1.heap[g]? = some o) := ⟨blk_below h.out hb⟩
theorem bf_ (h : Aside0 (w.heap[g]? = some (.cells cs t (0, 0)))) (hp : Aside0 (g ≠ g')) (hb : Below ((w.setCell ⟨g', i, none⟩ A).setCell ⟨g', j, none⟩ B).heap.size ((w.setCell ⟨g', i, none⟩ A).setCell ⟨g', j, none⟩ B) w1) : Aside0 (w1.heap[g]? = some (.cells cs t (0, 0))) := ⟨blk_below (blk_far (p := ⟨g', j, none⟩) (blk_far (p := ⟨g', i, none⟩) h.out hp.out A) hp.out B) hb⟩
theorem bp_ (h : Aside0 (w.heap[g]? = some (.cells #[.slice none 0 0, .slice none 0 0] t (0, 0)))) (hb : Below ((w.setCell ⟨g, 0, none⟩ A).setCell ⟨g, 1, none⟩ B).heap.size ((w.setCell ⟨g, 0, none⟩ A).setCell ⟨g, 1, none⟩ B) w1) : Aside0 (w1.heap[g]? = some (.cells #[A, B] t (0, 0))) := ⟨blk_below (blk_put (blk_put h.out 0 A rfl) 1 B rfl) hb⟩
theorem sz_ (h : Aside0 (Below w.heap.size w W)) (hg : g = W.heap.size) : Aside0 (w.heap.size ≤ g) := ⟨hg ▸ below_size h.out⟩
theorem nl_ (h : Aside0 (w.heap[g]? = some o)) (hg : g' = w.heap.size) : Aside0 (g ≠ g') := ⟨hg ▸ Nat.ne_of_lt (blk_lt h.out)⟩
theorem ng_ (h : Aside0 (w.heap[g]? = some o)) (hg : g' = w.heap.size) : Aside0 (g' ≠ g) := ⟨hg ▸ Nat.ne_of_gt (blk_lt h.out)⟩
theorem dn_ {n : Nat} (h : Below (W.drewN n).heap.size (W.drewN n) w1) : Below W.heap.size W w1 := below_step (pw_below_drewN (Below.refl _ _) n) h
theorem ifp_ {α : Type} {a b c : α} (h : (if true = true then a else b) = c) : a = c := h
theorem ifn_ {α : Type} {a b c : α} (h : (if false = true then a else b) = c) : b = c := h
/-- A row that a call made, seen from below. -/
theorem rf_ (h : Kd.R (Kd.int .i64) e w1 b ok v xs) (k : Aside0 (Below w.heap.size w W)) (hl : W.heap.size ≤ b) : Aside0 (Kd.R (Kd.int .i64) e w1 w.heap.size (fun _ => True) v xs) := ⟨Kd.R_mono (Kd.R_lower h (Nat.le_trans (below_size k.out) hl)) (fun _ _ => trivial)⟩
end
theorem info3 : (Try.prog.info? 3).map (fun i => (i.zero, i.size, i.bytes)) = some (some (.int .i64 0), 1, 8) := by kernel_rfl
theorem info4 : (Try.prog.info? 4).map (fun i => (i.zero, i.size, i.bytes)) = some (some (.bool false), 1, 1) := by kernel_rfl
theorem info5 : (Try.prog.info? 5).map (fun i => (i.zero, i.size, i.bytes)) = some (some (.int .u8 0), 1, 1) := by kernel_rfl
theorem info9 : (Try.prog.info? 9).map (fun i => (i.zero, i.size, i.bytes)) = some (some (.string ⟨#[]⟩), 1, 16) := by kernel_rfl
theorem info33 : (Try.prog.info? 33).map (fun i => (i.zero, i.size, i.bytes)) = some (some (.agg #[(.slice none 0 0), (.slice none 0 0)]), 2, 48) := by kernel_rfl
-- the values' own types
/-- A value's two cells hold rows in two blocks. -/
def apart2 (cs : List Value) : Prop := ∀ u v, cs = [u, v] → ∀ k, u.ownBlock = some k → v.ownBlock ≠ some k
/-- A kind whose made cells meet a test besides. -/
def Kd.onlyIf {α : Type} (p : List Value → Prop) (d : Kd α) : Kd α where
  sz := d.sz
  E := d.E
  K := d.K
  M := fun w base ok x cs => d.M w base ok x cs ∧ p cs
  K_len := d.K_len
  K_one := d.K_one
  K_below := d.K_below
  K_of_M := fun h => d.K_of_M h.1
  M_mono := fun hok h => ⟨d.M_mono hok h.1, h.2⟩
  M_bound := fun h => ⟨d.M_bound h.1, h.2⟩
  M_move := fun hm h => ⟨d.M_move hm h.1, h.2⟩
  M_lower := fun hb h => ⟨d.M_lower hb h.1, h.2⟩
def rd_L3 (xs : List (List Int)) (i : Int) : (List Int) := xs.getD i.toNat ([] : List Int)
theorem at_L3 {w : World} {A : Option Addr} {n : Nat} {xs : List (List Int)} (h : Kd.C (Kd.slice 5 (Kd.int .u8)) w A n xs) (i : Int) (h0 : 0 ≤ i) (h1 : i < n) : ∃ ad A0 c0, A = some ad ∧ w.cell? (ad.add i.toNat) = some (.slice A0 (rd_L3 xs i).length c0) ∧ (rd_L3 xs i).length ≤ c0 ∧ (Kd.int .u8).C w A0 (rd_L3 xs i).length (rd_L3 xs i) := by
  obtain ⟨ad, c, e, _, hK, hc0⟩ := Kd.C_get h ([] : List Int) i h0 h1
  have hc : ∀ j u, c[j]? = some u → w.cell? (ad.add (i.toNat * 1 + j)) = some u := hc0
  obtain ⟨A0, c0, rfl, l0, g0⟩ := hK
  exact ⟨ad, A0, c0, e, by have hq := hc 0 _ rfl; rwa [Nat.mul_one, Nat.add_zero] at hq, l0, g0⟩

def rd_L4 (xs : List (List Int)) (i : Int) : (List Int) := xs.getD i.toNat ([] : List Int)
theorem at_L4 {w : World} {A : Option Addr} {n : Nat} {xs : List (List Int)} (h : Kd.C (Kd.slice 3 (Kd.int .i64)) w A n xs) (i : Int) (h0 : 0 ≤ i) (h1 : i < n) : ∃ ad A0 c0, A = some ad ∧ w.cell? (ad.add i.toNat) = some (.slice A0 (rd_L4 xs i).length c0) ∧ (rd_L4 xs i).length ≤ c0 ∧ (Kd.int .i64).C w A0 (rd_L4 xs i).length (rd_L4 xs i) := by
  obtain ⟨ad, c, e, _, hK, hc0⟩ := Kd.C_get h ([] : List Int) i h0 h1
  have hc : ∀ j u, c[j]? = some u → w.cell? (ad.add (i.toNat * 1 + j)) = some u := hc0
  obtain ⟨A0, c0, rfl, l0, g0⟩ := hK
  exact ⟨ad, A0, c0, e, by have hq := hc 0 _ rfl; rwa [Nat.mul_one, Nat.add_zero] at hq, l0, g0⟩

/-! #### struct type 33 -/
structure S33 where
  f0 : (List Int)
  f1 : (List Int)
def z33 : S33 := ⟨([] : List Int), ([] : List Int)⟩
def k33 : Kd S33 := Kd.onlyIf apart2 (Kd.iso (Kd.pair (Kd.slice 3 (Kd.int .i64)) (Kd.slice 3 (Kd.int .i64))) (fun x : S33 => (x.f0, x.f1)))
theorem k33_open {w : World} {x : S33} {cs : List Value} (h : k33.K w x cs) : ∃ A0 c0 A1 c1, cs = [.slice A0 x.f0.length c0, .slice A1 x.f1.length c1] ∧ x.f0.length ≤ c0 ∧ (Kd.int .i64).C w A0 x.f0.length x.f0 ∧ x.f1.length ≤ c1 ∧ (Kd.int .i64).C w A1 x.f1.length x.f1 := by
  obtain ⟨_, _, rfl, ⟨A0, c0, rfl, l0, g0⟩, ⟨A1, c1, rfl, l1, g1⟩⟩ := h
  exact ⟨A0, c0, A1, c1, rfl, l0, g0, l1, g1⟩
theorem k33_openM {w : World} {base : Nat} {ok : Nat → Prop} {x : S33} {cs : List Value} (h : k33.M w base ok x cs) : ∃ v0 v1, cs = [v0, v1] ∧ (Kd.int .i64).R 3 w base ok v0 x.f0 ∧ (Kd.int .i64).R 3 w base ok v1 x.f1 := by
  obtain ⟨⟨_, _, rfl, ⟨v0, rfl, g0⟩, ⟨v1, rfl, g1⟩⟩, _⟩ := h
  exact ⟨v0, v1, rfl, g0, g1⟩
theorem k33_apart {w : World} {base : Nat} {ok : Nat → Prop} {x : S33} {v0 v1 : Value} (h : k33.M w base ok x [v0, v1]) : ∀ k, v0.ownBlock = some k → v1.ownBlock ≠ some k := h.2 v0 v1 rfl
theorem k33_mk (w : World) (x : S33) {A0 : Option Addr} {c0 : Nat} (l0 : x.f0.length ≤ c0) (g0 : (Kd.int .i64).C w A0 x.f0.length x.f0) {A1 : Option Addr} {c1 : Nat} (l1 : x.f1.length ≤ c1) (g1 : (Kd.int .i64).C w A1 x.f1.length x.f1) : k33.K w x [.slice A0 x.f0.length c0, .slice A1 x.f1.length c1] := ⟨[.slice A0 x.f0.length c0], [.slice A1 x.f1.length c1], rfl, ⟨A0, c0, rfl, l0, g0⟩, ⟨A1, c1, rfl, l1, g1⟩⟩
theorem k33_mkM (w : World) (base : Nat) (ok : Nat → Prop) (x : S33) {v0 : Value} (g0 : (Kd.int .i64).R 3 w base ok v0 x.f0) {v1 : Value} (g1 : (Kd.int .i64).R 3 w base ok v1 x.f1) (hap : ∀ k, v0.ownBlock = some k → v1.ownBlock ≠ some k) : k33.M w base ok x [v0, v1] := ⟨⟨[v0], [v1], rfl, ⟨v0, rfl, g0⟩, ⟨v1, rfl, g1⟩⟩, fun u v e => by simp only [List.cons.injEq, and_true] at e; obtain ⟨rfl, rfl⟩ := e; exact hap⟩
def rd_T33 (xs : List S33) (i : Int) : S33 := xs.getD i.toNat z33
theorem at_T33 {w : World} {A : Option Addr} {n : Nat} {xs : List S33} (h : Kd.C k33 w A n xs) (i : Int) (h0 : 0 ≤ i) (h1 : i < n) : ∃ ad A0 c0 A1 c1, A = some ad ∧ w.cell? (ad.add (i.toNat * 2)) = some (.slice A0 (rd_T33 xs i).f0.length c0) ∧ w.cell? ⟨(ad.add (i.toNat * 2)).block, (ad.add (i.toNat * 2)).off + 1, none⟩ = some (.slice A1 (rd_T33 xs i).f1.length c1) ∧ (rd_T33 xs i).f0.length ≤ c0 ∧ (Kd.int .i64).C w A0 (rd_T33 xs i).f0.length (rd_T33 xs i).f0 ∧ (rd_T33 xs i).f1.length ≤ c1 ∧ (Kd.int .i64).C w A1 (rd_T33 xs i).f1.length (rd_T33 xs i).f1 := by
  obtain ⟨ad, c, e, _, hK, hc0⟩ := Kd.C_get h z33 i h0 h1
  have hc : ∀ j u, c[j]? = some u → w.cell? (ad.add (i.toNat * 2 + j)) = some u := hc0
  obtain ⟨A0, c0, A1, c1, rfl, l0, g0, l1, g1⟩ := k33_open hK
  exact ⟨ad, A0, c0, A1, c1, e, hc 0 _ rfl, by rw [← add_field _ _ 1 (by omega)]; exact hc 1 _ rfl, l0, g0, l1, g1⟩

end Go.Proofs.Ytlohmpgbjgidpaa.P
