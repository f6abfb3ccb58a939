/- What is met from a square by two permutations: the reference's list, and the program's. -/
import Derived.Test.YtlohmpgbjgidpacWMore
import Derived.Test.YtlohmpgbjgidpacPx6
import Derived.Test.YtlohmpgbjgidpacQBase
import Derived.Test.YtlohmpgbjgidpacQLists
import Derived.Test.YtlohmpgbjgidpacQPerm
import Derived.Test.YtlohmpgbjgidpacQMaps
namespace Go.Proofs.Ytlohmpgbjgidpac.Q
open Go.RowKit Go.Proofs.Ytlohmpgbjgidpac.P Go.Proofs.YtlohmpgbjgidpacW.PrintWords Go.Proofs.YtlohmpgbjgidpacW.PrintLast
set_option linter.unusedVariables false
set_option linter.unusedSimpArgs false

def addNew (out : List Int) (x : Int) : List Int := if out.contains x = true then out else out ++ [x]
def reachF (p q : List Int) : Nat → List Int → Nat → List Int
  | 0, out, _ => out
  | d + 1, out, a => if a < out.length then reachF p q d (addNew (addNew out (rd p (rd out (a : Int)))) (rd q (rd out (a : Int)))) (a + 1) else out
theorem wr1 : wrap64 (0 + 1) = 1 := w64 (by omega) (by omega)
theorem wr2 : wrap64 (1 + 1) = 2 := w64 (by omega) (by omega)
/-- The squares in the order in which they are met. -/
def reachL (p q : List Int) (s : Int) : List Int := reachF p q (p.length + 1) [s] 0
/-- A list of different numbers below n. -/
structure Few (n : Nat) (out : List Int) : Prop where
  lo : ∀ x ∈ out, 0 ≤ x
  hi : ∀ x ∈ out, x < (n : Int)
  nodup : out.Nodup
theorem Few.len {n : Nat} {out : List Int} (h : Few n out) : out.length ≤ n := pig n out h.nodup fun x hx => ⟨h.lo x hx, h.hi x hx⟩
theorem Few.perm {n : Nat} {out : List Int} (h : Few n out) (e : out.length = n) : IsPerm out := ⟨h.lo, by rw [e]; exact h.hi, h.nodup⟩
theorem mem_addNew {out : List Int} {x y : Int} : y ∈ addNew out x ↔ y ∈ out ∨ y = x := by
  unfold addNew
  split
  · rename_i h
    constructor
    · exact .inl
    · rintro (h' | rfl)
      · exact h'
      · simpa using h
  · simp
theorem Few.add {n : Nat} {out : List Int} (h : Few n out) {x : Int} (h0 : 0 ≤ x) (h1 : x < (n : Int)) : Few n (addNew out x) where
  lo := fun y hy => (mem_addNew.1 hy).elim (h.lo y) fun e => by rw [e]; exact h0
  hi := fun y hy => (mem_addNew.1 hy).elim (h.hi y) fun e => by rw [e]; exact h1
  nodup := by
    unfold addNew
    split
    · exact h.nodup
    · rename_i h'
      rw [List.nodup_append]
      refine ⟨h.nodup, by simp, ?_⟩
      intro a ha b hb e
      simp only [List.mem_singleton] at hb
      subst hb; subst e
      exact h' (by simpa using ha)
theorem addNew_length (out : List Int) (x : Int) : out.length ≤ (addNew out x).length := by
  unfold addNew
  split
  · omega
  · simp
theorem addNew_get (out : List Int) (x : Int) {i : Nat} (h : i < out.length) : (addNew out x)[i]'(by have := addNew_length out x; omega) = out[i] := by
  unfold addNew
  split
  · rfl
  · rw [List.getElem_append_left h]
theorem rd_perm {p : List Int} (hp : IsPerm p) {x : Int} (h0 : 0 ≤ x) (h1 : x < (p.length : Int)) : 0 ≤ rd p x ∧ rd p x < (p.length : Int) := by
  rw [rd_of h0 h1]
  exact ⟨hp.get_lo _, hp.get_hi _⟩
theorem rd_mem {out : List Int} {a : Nat} (h : a < out.length) : rd out (a : Int) ∈ out := by rw [rdg h]; exact List.getElem_mem h
/-- What the list comes to: closed, and no more than what is met. -/
theorem reachF_all (p q : List Int) (hp : IsPerm p) (hq : IsPerm q) (hl : p.length = q.length) : ∀ (d a : Nat) (out : List Int), p.length + 1 ≤ a + d → a ≤ out.length → Few p.length out →
    (∀ (i : Nat), i < a → rd p (rd out (i : Int)) ∈ out ∧ rd q (rd out (i : Int)) ∈ out) →
    Few p.length (reachF p q d out a) ∧ (∀ x ∈ reachF p q d out a, rd p x ∈ reachF p q d out a ∧ rd q x ∈ reachF p q d out a) ∧ (∀ x ∈ out, x ∈ reachF p q d out a) ∧
    (∀ S : Int → Prop, (∀ x, 0 ≤ x → x < (p.length : Int) → S x → S (rd p x) ∧ S (rd q x)) → (∀ x ∈ out, S x) → ∀ x ∈ reachF p q d out a, S x)
  | 0, a, out, h, ha, hf, hc => by have := hf.len; omega
  | d + 1, a, out, h, ha, hf, hc => by
    rw [reachF]
    by_cases c : a < out.length
    · rw [if_pos c]
      have m := rd_mem c
      have x0 := hf.lo _ m
      have x1 := hf.hi _ m
      have bp := rd_perm hp x0 x1
      have bq := rd_perm hq x0 (by omega)
      have f1 := hf.add bp.1 bp.2
      have f2 := f1.add bq.1 (by omega)
      have l1 := addNew_length out (rd p (rd out (a : Int)))
      have l2 := addNew_length (addNew out (rd p (rd out (a : Int)))) (rd q (rd out (a : Int)))
      have same : ∀ i : Nat, i < out.length → rd (addNew (addNew out (rd p (rd out (a : Int)))) (rd q (rd out (a : Int)))) (i : Int) = rd out (i : Int) := fun i hi => by
        rw [rdg (xs := addNew _ _) (by omega), addNew_get _ _ (by omega), addNew_get _ _ hi, rdg hi]
      obtain ⟨r1, r2, r3, r4⟩ := reachF_all p q hp hq hl d (a + 1) _ (by omega) (by omega) f2 (fun i hi => by
        rw [same i (by omega)]
        by_cases e : i = a
        · subst e
          exact ⟨mem_addNew.2 (.inl (mem_addNew.2 (.inr rfl))), mem_addNew.2 (.inr rfl)⟩
        · have := hc i (by omega)
          exact ⟨mem_addNew.2 (.inl (mem_addNew.2 (.inl this.1))), mem_addNew.2 (.inl (mem_addNew.2 (.inl this.2)))⟩)
      refine ⟨r1, r2, fun x hx => r3 x (mem_addNew.2 (.inl (mem_addNew.2 (.inl hx)))), fun S hS h0 => r4 S hS fun x hx => ?_⟩
      have sx := hS _ x0 x1 (h0 _ m)
      rcases mem_addNew.1 hx with h' | rfl
      · rcases mem_addNew.1 h' with h'' | rfl
        · exact h0 x h''
        · exact sx.1
      · exact sx.2
    · rw [if_neg c]
      refine ⟨hf, fun x hx => ?_, fun x hx => hx, fun S hS h0 => h0⟩
      obtain ⟨i, hi, rfl⟩ := List.getElem_of_mem hx
      have := hc i (by omega)
      rwa [rdg hi] at this
theorem few_one {n : Nat} {s : Int} (h0 : 0 ≤ s) (h1 : s < (n : Int)) : Few n [s] := ⟨by simpa using h0, by simpa using h1, by simp⟩
theorem reachL_all (p q : List Int) (hp : IsPerm p) (hq : IsPerm q) (hl : p.length = q.length) {s : Int} (h0 : 0 ≤ s) (h1 : s < (p.length : Int)) :
    Few p.length (reachL p q s) ∧ (∀ x ∈ reachL p q s, rd p x ∈ reachL p q s ∧ rd q x ∈ reachL p q s) ∧ s ∈ reachL p q s ∧
    (∀ S : Int → Prop, (∀ x, 0 ≤ x → x < (p.length : Int) → S x → S (rd p x) ∧ S (rd q x)) → S s → ∀ x ∈ reachL p q s, S x) := by
  have := reachF_all p q hp hq hl (p.length + 1) 0 [s] (by omega) (by simp) (few_one h0 h1) (fun i hi => by omega)
  exact ⟨this.1, this.2.1, this.2.2.1 s (by simp), fun S hS hs => this.2.2.2 S hS (by simpa using hs)⟩
theorem spec_reach_loop (p q : List Int) (hp : IsPerm p) (hq : IsPerm q) (hl : p.length = q.length) (hn : p.length ≤ 24) : ∀ (d a : Nat) (out : List Int), p.length + 1 ≤ a + d → a ≤ out.length → Few p.length out →
    Ev (fun k => spec_l02Reach.l0 k p q out (a : Int)) (reachF p q d out a) := by
  intro d
  induction d with
  | zero => intro a out h ha hf; have := hf.len; omega
  | succ d ih =>
    intro a out h ha hf
    have len := hf.len
    refine Ev.step (fun k => by rw [spec_l02Reach.l0]) ?_
    rw [reachF]
    by_cases c : a < out.length
    · rw [if_pos c]
      have m := rd_mem c
      have x0 := hf.lo _ m
      have x1 := hf.hi _ m
      have bp := rd_perm hp x0 x1
      have bq := rd_perm hq x0 (by omega)
      have f1 := hf.add bp.1 bp.2
      have f2 := f1.add bq.1 (by omega)
      have l1 := addNew_length out (rd p (rd out (a : Int)))
      have l2 := addNew_length (addNew out (rd p (rd out (a : Int)))) (rd q (rd out (a : Int)))
      have n1 := f1.len
      have n2 := f2.len
      have next := ih (a + 1) _ (by omega) (by omega) f2
      refine Ev.pos (by omega) (Ev.pos (by omega) (Ev.pos x0 (Ev.pos x1 (Ev.pos (by omega) (Ev.plain rfl ?_)))))
      generalize rd p (rd out (a : Int)) = x at *
      generalize rd q (rd out (a : Int)) = y at *
      have r0 : rd [x, y] 0 = x := rfl
      have r1 : rd [x, y] 1 = y := rfl
      have tail : ∀ o : List Int, o.length ≤ 24 → addNew o y = addNew (addNew out x) y → Ev (fun k => spec_l02Reach.l1 k p q o (a : Int) [x, y] 2 1) (reachF p q d (addNew (addNew out x) y) (a + 1)) := by
        intro o ho e
        refine Ev.step (fun k => by rw [spec_l02Reach.l1]) (Ev.pos (by omega) (Ev.pos (by omega) (Ev.pos (by simp) ?_)))
        rw [r1]
        refine Ev.bind (spec_has_ev o y (by omega)) ?_
        by_cases b : o.contains y = true
        · refine Ev.pos b (Ev.step (fun k => by rw [spec_l02Reach.l1]) (Ev.neg (by rw [wr2]; omega) ?_))
          rw [w64n (by omega)]
          rw [addNew, if_pos b] at e
          rw [e]; exact next
        · refine Ev.neg b (Ev.pos (by omega) (Ev.step (fun k => by rw [spec_l02Reach.l1]) (Ev.neg (by rw [wr2]; omega) ?_)))
          rw [w64n (by omega)]
          rw [addNew, if_neg b] at e
          rw [e]; exact next
      refine Ev.step (fun k => by rw [spec_l02Reach.l1]) (Ev.pos (by simp) (Ev.pos (by omega) (Ev.pos (by simp) ?_)))
      rw [r0, wr1]
      refine Ev.bind (spec_has_ev out x (by omega)) ?_
      by_cases b : out.contains x = true
      · refine Ev.pos b ?_
        exact tail out (by omega) (by rw [show addNew out x = out by rw [addNew, if_pos b]])
      · refine Ev.neg b (Ev.pos (by omega) ?_)
        have e : addNew out x = out ++ [x] := by rw [addNew, if_neg b]
        rw [← e]
        exact tail _ (by omega) rfl
    · rw [if_neg c]
      exact Ev.neg (by omega) (Ev.now _)
theorem spec_l02Reach_ev (p q : List Int) (hp : IsPerm p) (hq : IsPerm q) (hl : p.length = q.length) (hn : p.length ≤ 24) {s : Int} (h0 : 0 ≤ s) (h1 : s < (p.length : Int)) : Ev (fun k => spec_l02Reach.f k p q s) (reachL p q s) :=
  Ev.same (fun k => by rw [spec_l02Reach.f]; rfl) (spec_reach_loop p q hp hq hl hn (p.length + 1) 0 [s] (by omega) (by simp) (few_one h0 h1))

end Go.Proofs.Ytlohmpgbjgidpac.Q
