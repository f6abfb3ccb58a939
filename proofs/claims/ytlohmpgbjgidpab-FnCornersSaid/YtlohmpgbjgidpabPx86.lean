-- MADE by this project's printer (wip/mk) out of the translation; Lean checks it.
import Derived.Test.YtlohmpgbjgidpabPx0
import Derived.Sort.OwnSortedInts
import Derived.Test.YtlohmpgbjgidpabShSort
namespace Go.Proofs.Ytlohmpgbjgidpab.P
open Go.RowKit Go.Proofs.YtlohmpgbjgidpabW.PrintWords Go.Proofs.YtlohmpgbjgidpabW.PrintLast Go.Proofs.YtlohmpgbjgidpabW.PrintMore
attribute [local go_sem] max2_int min2_int max_two min_two max_three min_three max_four min_four   -- for this text's walks alone
set_option linter.unusedVariables false
set_option linter.unusedSimpArgs false

--IMPORT Derived.Test.YtlohmpgbjgidpabShSort
--IMPORT Derived.Sort.OwnSortedInts
/-! ### slices_SortFunc_int_int: function 81, at the closure 'b - a' -/
/-- Small numbers: their difference is a number, too. -/
abbrev Sm := Fin 4096
def encSm (x : Sm) : Value := .int .i64 (x.val : Int)
def cfSm (x y : Sm) : Int := (y.val : Int) - (x.val : Int)
open Go.Shelf Go.Lib Go.Sort in
theorem ltSm (x y : Sm) : ltOf cfSm x y = decide (y.val < x.val) := by
  unfold ltOf cfSm
  rw [decide_eq_decide]
  omega
open Go.Shelf Go.Lib Go.Sort in
theorem swoSm : SWO (ltOf cfSm) where
  irrefl x := by rw [ltSm]; simp
  trans x y z h1 h2 := by rw [ltSm] at *; simp at *; omega
  ntrans x y z h1 h2 := by rw [ltSm] at *; simp at *; omega
open Go.Shelf Go.Lib Go.Sort in
theorem totSm (x y : Sm) (h1 : ltOf cfSm x y = false) (h2 : ltOf cfSm y x = false) : x = y := by
  rw [ltSm] at *
  simp at *
  exact Fin.ext (by omega)
theorem closureSm (x y : Sm) (W : World) : Calls Try.prog 82 #[encSm x, encSm y] W fun e w' => e = .returned (.int .i64 (cfSm x y)) ∧ ∃ q, w' = W.drewN q := by
  have hw : wrap64 ((y.val : Int) - (x.val : Int)) = cfSm x y := by
    have := x.isLt; have := y.isLt; unfold wrap64 cfSm; omega
  have HW := Aside0.mk hw
  clear hw
  unfold encSm
  generalize (x.val : Int) = a at *
  generalize (y.val : Int) = b at *
  generalize cfSm x y = c at *
  go_enter Try.func82, Try.ntmps82
  go_wp2
  go_ret
  exact ⟨by rw [← HW.out]; rfl, 0, rfl⟩
section
open Go.Sort Go.Proofs Go.ChangeShapes Go.WideShapes
theorem holds_of_blockS {w : World} {g : Nat} {cur : Array Value} {e : TypeId} {ss : List Sm} (hb : w.heap[g]? = some (.cells cur e (0, 0))) (ht : cur.toList.take ss.length = ss.map encSm) : Holds encSm w g 0 ss.toArray := by
  intro j hj
  have hj' : j < ss.length := by simpa using hj
  refine ⟨?_, by simp [World.frozen?, hb]⟩
  have h1 : (cur.toList.take ss.length)[j]? = (ss.map encSm)[j]? := by rw [ht]
  rw [List.getElem?_take_of_lt hj'] at h1
  simp only [World.cell?, hb, Nat.zero_add]
  simp only [Option.isSome_none, Bool.false_eq_true, if_false]
  rw [← Array.getElem?_toList, h1]
  simp [hj']
theorem heap_sortedS {w : World} {g n : Nat} {os : Array Obj} {cur : Array Value} {e : TypeId} {fr : Nat × Nat} (d : Array Sm) (hb : w.heap[g]? = some (.cells cur e fr)) :
    (grow (putRow encSm (Sort.ahead w n) g 0 d) os).heap[g]? = some (.cells (putCells encSm 0 d cur) e fr) := by
  have hg : g < w.heap.size := (Array.getElem?_eq_some_iff.1 hb).1
  rw [heap_grow_old _ _ (by simpa using hg)]
  simp [putRow, mapBlock, Sort.ahead, Array.getElem?_modify, hb, onCells]
theorem grownBy_sortedS {w : World} {g n : Nat} {os : Array Obj} (d : Array Sm) : w.grownBy (grow (putRow encSm (Sort.ahead w n) g 0 d) os) (some g) := by
  refine ⟨rfl, rfl, rfl, by simp, fun k hk hne => ?_⟩
  rw [heap_grow_old _ _ (by simpa using hk)]
  have : g ≠ k := fun e => hne (by rw [e])
  simp [putRow, mapBlock, Sort.ahead, Array.getElem?_modify, this]
theorem take_putCellsS (cur : Array Value) (ts : List Sm) (h : ts.length ≤ cur.size) : (putCells encSm 0 ts.toArray cur).toList.take ts.length = ts.map encSm := by
  apply List.ext_getElem?
  intro j
  by_cases hj : j < ts.length
  · rw [List.getElem?_take_of_lt hj, Array.getElem?_toList]
    simp [putCells, hj, show j < cur.size by omega]
  · rw [List.getElem?_take_eq_none (by omega), List.getElem?_eq_none (by simp; omega)]
end
def slices_SortFunc_int_int.f (l0 : List Int) : Option (List Int) := if (∀ x ∈ l0, 0 ≤ x ∧ x < 4096) ∧ l0.length < 1000000 then some (l0.mergeSort fun x y => decide (y ≤ x)) else none
theorem small_list : ∀ (l : List Int), (∀ x ∈ l, 0 ≤ x ∧ x < 4096) → ∃ s : List Sm, s.map (fun x => (x.val : Int)) = l
  | [], _ => ⟨[], rfl⟩
  | x :: l, h => by
    obtain ⟨s, e⟩ := small_list l (fun y hy => h y (by simp [hy]))
    have hx := h x (by simp)
    exact ⟨⟨x.toNat, by omega⟩ :: s, by rw [List.map_cons, e]; simp only; rw [Int.toNat_of_nonneg hx.1]⟩
theorem slices_SortFunc_int_int.calls (P0_ : Nat → Prop) (u9000_ : Value) (l0 : List Int) (r : List Int) (w0 w : World) (hB : Below w0.heap.size w0 w) (ho0 : Kd.R (Kd.int .i64) 3 w w0.heap.size P0_ u9000_ l0) (h : slices_SortFunc_int_int.f l0 = some r) :
    Calls Try.prog 81 #[u9000_, .func (.func 82) #[] #[]] w fun e w' => e = .returned (.tuple #[]) ∧ Kd.R (Kd.int .i64) 3 w' w0.heap.size (fun k_ => (P0_ k_ ∨ w.heap.size ≤ k_)) u9000_ r ∧ Below w0.heap.size w0 w' ∧ Kept w w' (fun k_ => P0_ k_) := by
  unfold slices_SortFunc_int_int.f at h
  by_cases c : (∀ x ∈ l0, 0 ≤ x ∧ x < 4096) ∧ l0.length < 1000000
  · rw [if_pos c] at h
    obtain rfl := Option.some.inj h
    obtain ⟨s, rfl⟩ := small_list l0 c.1
    have own := Kd.own_of_R ho0
    have okk := ho0.1
    rw [List.length_map] at own
    rcases own.2 with ⟨rfl, hn⟩ | ⟨g, cap, cur, rfl, hbase, hb, h1, h2, h3, h4⟩
    · have hs : s = [] := List.length_eq_zero_iff.1 hn
      subst hs
      refine (Try.slices_SortFunc_none (α := Int) none 0 (.func (.func 82) #[] #[]) w).mono ?_
      rintro e w' ⟨rfl, rfl⟩
      exact ⟨rfl, by rw [List.map_nil, List.mergeSort_nil]; exact Kd.R_mono ho0 (fun k hk => .inl hk), hB, Kept.refl _ _⟩
    · have hg : g < w.heap.size := (Array.getElem?_eq_some_iff.1 hb).1
      have e4 : encs (Value.int .i64) (s.map fun x => (x.val : Int)) = s.map encSm := by rw [encs, List.map_map]; rfl
      rw [e4, Nat.mul_one] at h4
      have hH := holds_of_blockS hb h4
      have eg : ∀ args w, (callFunc 82 args).run Try.prog w = .ok (.enter 82 args) w := Go.Proofs.enters_of Try.func82 (by kernel_rfl) rfl
      have hcmp : Go.Proofs.CmpReads Try.prog 82 #[] encSm cfSm g 0 s.toArray.size w := fun _ _ _ _ x y => closureSm x y _
      have hS := Try.slices_SortFunc_total encSm (fun _ => rfl) cfSm swoSm 82 #[] g 0 cap s.toArray w eg hcmp.lays hH hg (by simpa using (by have := c.2; rw [List.length_map] at this; omega : s.length < 4611686018427387904)) totSm
      rw [show s.toArray.size = s.length by simp] at hS
      refine hS.mono ?_
      rintro e w' ⟨rfl, n, os, rfl⟩
      obtain ⟨t, ht⟩ : ∃ t, (s.mergeSort fun x y => !Go.Proofs.ltOf cfSm y x) = t := ⟨_, rfl⟩
      have lt_ : t.length = s.length := by rw [← ht, List.length_mergeSort]
      have et : (s.map fun x => (x.val : Int)).mergeSort (fun x y => decide (y ≤ x)) = t.map fun x => (x.val : Int) := by
        rw [← ht, List.map_mergeSort]
        intro a _ b _
        rw [ltSm, ← decide_not, decide_eq_decide]
        omega
      rw [et]
      rw [ht]
      have gw := grownBy_sortedS (w := w) (g := g) (n := n) (os := os) t.toArray
      refine ⟨rfl, Kd.R_of_own ?_ (fun k hk => .inl (okk k hk)), Below.grown hB gw hB.size (fun k hk => by cases hk; exact hbase), ⟨gw.size, fun k hk hne => gw.block k hk (fun e_ => hne (okk k (by rw [e_]; rfl)))⟩⟩
      have e5 : encs (Value.int .i64) (t.map fun x => (x.val : Int)) = t.map encSm := by rw [encs, List.map_map]; rfl
      rw [e5, List.length_map]
      refine ⟨by simp, .inr ⟨g, cap, _, by rw [lt_], hbase, heap_sortedS _ hb, by omega, h2, by simp [Go.Sort.putCells, h3], by rw [Nat.mul_one]; exact take_putCellsS cur t (by omega)⟩⟩
  · rw [if_neg c] at h
    cases h

end Go.Proofs.Ytlohmpgbjgidpab.P
