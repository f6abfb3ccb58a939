/-
  No cell of these rows narrows 'for every input' (looked for: loops, veiled, ifaces, maps, wideKeys, modest, calm, conditions, laid).
  DERIVED. THE GIVEN ROWS OF THIS SEAT. 9 by the template 'for every input the law returns true; each argument reads behind the call as it read before'; 0 by the template 'total and deterministic' (their statements: YtlohmpgbjgidpadTotals.lean).
  GIVEN WITH THE SEED: the statements are not yours to turn. If you find one false, say at which input.
  Laid BY PROGRAM, IN A SANDBOX (cutbox-rows.mjs): the forced cells as the released guide's own fill.sh prints them over the translation a1eb498075d170e9… (all of the seat's roots in one cut). By AI agents, Wed Nov 11 2026. No macro, syntax, notation, axiom, sorry.
-/
import Derived.Test.YtlohmpgbjgidpadChecked
import GoSem.Claim
import GoSem.ClaimJoined
import GoSem.ClaimMapViews
import Derived.JoinedTies
import Derived.KernelRfl
namespace Go.Proofs.Ytlohmpgbjgidpad
/- THE CELL 'sum', in the pinned program and in every row, IS THE sha256 OF THE DUMP (.gsa) THAT YtlohmpgbjgidpadProg.lean LOADS. Nothing in Lean hashes anything: it is a label: what it is worth is what the hold of that sum in a sandbox is worth. -/
noncomputable def Try.pinned : Pinned := { name := "ytlohmpgbjgidpad", sum := "a1eb498075d170e9d4cc7d6ea95bbf96a79f9487cbc566eef1b0db80f9fa2816", checked := Try.checked }
namespace Rows
def none {H : Type} : Left H := { results := [], args := [] }

/-- 'laws.FnExactGenusOf': WHATEVER THE INPUT: true; the input reads as it did. -/
def fnExactGenusOfSpec : ChangeSpec := { name := "fnExactGenusOf", fn := fun _ => fun
  | [d] => { results := [.lit (.bool true)], args := [d] }
  | _ => none }
def fnExactGenusOfRow : OpenClaim := { program := "ytlohmpgbjgidpad", sum := "a1eb498075d170e9d4cc7d6ea95bbf96a79f9487cbc566eef1b0db80f9fa2816", func := "loop.example/g00928/laws.FnExactGenusOf", spec := "fnExactGenusOf", apart := false }
def FnExactGenusOfSaid : Prop := fnExactGenusOfRow.holds Try.pinned (OpenSpec.ofChange fnExactGenusOfSpec)

/-- ITS FALSE NEIGHBOUR: 'it returns false'. Refute it at one input. -/
def fnExactGenusOfWrong : ChangeSpec := { name := "fnExactGenusOf", fn := fun _ => fun
  | [d] => { results := [.lit (.bool false)], args := [d] }
  | _ => none }
def FnExactGenusOfWrongFalsely : Prop := fnExactGenusOfRow.holds Try.pinned (OpenSpec.ofChange fnExactGenusOfWrong)

/-- 'laws.FnExactCornersOf': WHATEVER THE INPUT: true; the input reads as it did. -/
def fnExactCornersOfSpec : ChangeSpec := { name := "fnExactCornersOf", fn := fun _ => fun
  | [d] => { results := [.lit (.bool true)], args := [d] }
  | _ => none }
def fnExactCornersOfRow : OpenClaim := { program := "ytlohmpgbjgidpad", sum := "a1eb498075d170e9d4cc7d6ea95bbf96a79f9487cbc566eef1b0db80f9fa2816", func := "loop.example/g00928/laws.FnExactCornersOf", spec := "fnExactCornersOf", apart := false }
def FnExactCornersOfSaid : Prop := fnExactCornersOfRow.holds Try.pinned (OpenSpec.ofChange fnExactCornersOfSpec)

/-- ITS FALSE NEIGHBOUR: 'it returns false'. Refute it at one input. -/
def fnExactCornersOfWrong : ChangeSpec := { name := "fnExactCornersOf", fn := fun _ => fun
  | [d] => { results := [.lit (.bool false)], args := [d] }
  | _ => none }
def FnExactCornersOfWrongFalsely : Prop := fnExactCornersOfRow.holds Try.pinned (OpenSpec.ofChange fnExactCornersOfWrong)

/-- 'laws.FnExactRunWord': WHATEVER THE INPUT: true; the input reads as it did. -/
def fnExactRunWordSpec : ChangeSpec := { name := "fnExactRunWord", fn := fun _ => fun
  | [d1, d2] => { results := [.lit (.bool true)], args := [d1, d2] }
  | _ => none }
def fnExactRunWordRow : OpenClaim := { program := "ytlohmpgbjgidpad", sum := "a1eb498075d170e9d4cc7d6ea95bbf96a79f9487cbc566eef1b0db80f9fa2816", func := "loop.example/g00928/laws.FnExactRunWord", spec := "fnExactRunWord", inPlace := ["internal/bytealg.IndexByteString"], apart := false }
def FnExactRunWordSaid : Prop := fnExactRunWordRow.holds Try.pinned (OpenSpec.ofChange fnExactRunWordSpec)

/-- ITS FALSE NEIGHBOUR: 'it returns false'. Refute it at one input. -/
def fnExactRunWordWrong : ChangeSpec := { name := "fnExactRunWord", fn := fun _ => fun
  | [d1, d2] => { results := [.lit (.bool false)], args := [d1, d2] }
  | _ => none }
def FnExactRunWordWrongFalsely : Prop := fnExactRunWordRow.holds Try.pinned (OpenSpec.ofChange fnExactRunWordWrong)

/-- 'laws.FnExactAreIsomorphic': WHATEVER THE INPUT: true; the input reads as it did. -/
def fnExactAreIsomorphicSpec : ChangeSpec := { name := "fnExactAreIsomorphic", fn := fun _ => fun
  | [d1, d2] => { results := [.lit (.bool true)], args := [d1, d2] }
  | _ => none }
def fnExactAreIsomorphicRow : OpenClaim := { program := "ytlohmpgbjgidpad", sum := "a1eb498075d170e9d4cc7d6ea95bbf96a79f9487cbc566eef1b0db80f9fa2816", func := "loop.example/g00928/laws.FnExactAreIsomorphic", spec := "fnExactAreIsomorphic", unfollowed := true, recurses := true, apart := false }
def FnExactAreIsomorphicSaid : Prop := fnExactAreIsomorphicRow.holds Try.pinned (OpenSpec.ofChange fnExactAreIsomorphicSpec)

/-- ITS FALSE NEIGHBOUR: 'it returns false'. Refute it at one input. -/
def fnExactAreIsomorphicWrong : ChangeSpec := { name := "fnExactAreIsomorphic", fn := fun _ => fun
  | [d1, d2] => { results := [.lit (.bool false)], args := [d1, d2] }
  | _ => none }
def FnExactAreIsomorphicWrongFalsely : Prop := fnExactAreIsomorphicRow.holds Try.pinned (OpenSpec.ofChange fnExactAreIsomorphicWrong)

/-- 'laws.FnExactCanonOf': WHATEVER THE INPUT: true; the input reads as it did. -/
def fnExactCanonOfSpec : ChangeSpec := { name := "fnExactCanonOf", fn := fun _ => fun
  | [d] => { results := [.lit (.bool true)], args := [d] }
  | _ => none }
def fnExactCanonOfRow : OpenClaim := { program := "ytlohmpgbjgidpad", sum := "a1eb498075d170e9d4cc7d6ea95bbf96a79f9487cbc566eef1b0db80f9fa2816", func := "loop.example/g00928/laws.FnExactCanonOf", spec := "fnExactCanonOf", unfollowed := true, recurses := true, apart := false }
def FnExactCanonOfSaid : Prop := fnExactCanonOfRow.holds Try.pinned (OpenSpec.ofChange fnExactCanonOfSpec)

/-- ITS FALSE NEIGHBOUR: 'it returns false'. Refute it at one input. -/
def fnExactCanonOfWrong : ChangeSpec := { name := "fnExactCanonOf", fn := fun _ => fun
  | [d] => { results := [.lit (.bool false)], args := [d] }
  | _ => none }
def FnExactCanonOfWrongFalsely : Prop := fnExactCanonOfRow.holds Try.pinned (OpenSpec.ofChange fnExactCanonOfWrong)

/-- 'laws.FnExactCountSymmetries': WHATEVER THE INPUT: true; the input reads as it did. -/
def fnExactCountSymmetriesSpec : ChangeSpec := { name := "fnExactCountSymmetries", fn := fun _ => fun
  | [d] => { results := [.lit (.bool true)], args := [d] }
  | _ => none }
def fnExactCountSymmetriesRow : OpenClaim := { program := "ytlohmpgbjgidpad", sum := "a1eb498075d170e9d4cc7d6ea95bbf96a79f9487cbc566eef1b0db80f9fa2816", func := "loop.example/g00928/laws.FnExactCountSymmetries", spec := "fnExactCountSymmetries", unfollowed := true, recurses := true, apart := false }
def FnExactCountSymmetriesSaid : Prop := fnExactCountSymmetriesRow.holds Try.pinned (OpenSpec.ofChange fnExactCountSymmetriesSpec)

/-- ITS FALSE NEIGHBOUR: 'it returns false'. Refute it at one input. -/
def fnExactCountSymmetriesWrong : ChangeSpec := { name := "fnExactCountSymmetries", fn := fun _ => fun
  | [d] => { results := [.lit (.bool false)], args := [d] }
  | _ => none }
def FnExactCountSymmetriesWrongFalsely : Prop := fnExactCountSymmetriesRow.holds Try.pinned (OpenSpec.ofChange fnExactCountSymmetriesWrong)

/-- 'laws.FnExactShearPeriod': WHATEVER THE INPUT: true; the input reads as it did. -/
def fnExactShearPeriodSpec : ChangeSpec := { name := "fnExactShearPeriod", fn := fun _ => fun
  | [d] => { results := [.lit (.bool true)], args := [d] }
  | _ => none }
def fnExactShearPeriodRow : OpenClaim := { program := "ytlohmpgbjgidpad", sum := "a1eb498075d170e9d4cc7d6ea95bbf96a79f9487cbc566eef1b0db80f9fa2816", func := "loop.example/g00928/laws.FnExactShearPeriod", spec := "fnExactShearPeriod", unfollowed := true, recurses := true, apart := false }
def FnExactShearPeriodSaid : Prop := fnExactShearPeriodRow.holds Try.pinned (OpenSpec.ofChange fnExactShearPeriodSpec)

/-- ITS FALSE NEIGHBOUR: 'it returns false'. Refute it at one input. -/
def fnExactShearPeriodWrong : ChangeSpec := { name := "fnExactShearPeriod", fn := fun _ => fun
  | [d] => { results := [.lit (.bool false)], args := [d] }
  | _ => none }
def FnExactShearPeriodWrongFalsely : Prop := fnExactShearPeriodRow.holds Try.pinned (OpenSpec.ofChange fnExactShearPeriodWrong)

/-- 'laws.FnExactAnglesOf': WHATEVER THE INPUT: true; the input reads as it did. -/
def fnExactAnglesOfSpec : ChangeSpec := { name := "fnExactAnglesOf", fn := fun _ => fun
  | [d] => { results := [.lit (.bool true)], args := [d] }
  | _ => none }
def fnExactAnglesOfRow : OpenClaim := { program := "ytlohmpgbjgidpad", sum := "a1eb498075d170e9d4cc7d6ea95bbf96a79f9487cbc566eef1b0db80f9fa2816", func := "loop.example/g00928/laws.FnExactAnglesOf", spec := "fnExactAnglesOf", unfollowed := true, recurses := true, apart := false }
def FnExactAnglesOfSaid : Prop := fnExactAnglesOfRow.holds Try.pinned (OpenSpec.ofChange fnExactAnglesOfSpec)

/-- ITS FALSE NEIGHBOUR: 'it returns false'. Refute it at one input. -/
def fnExactAnglesOfWrong : ChangeSpec := { name := "fnExactAnglesOf", fn := fun _ => fun
  | [d] => { results := [.lit (.bool false)], args := [d] }
  | _ => none }
def FnExactAnglesOfWrongFalsely : Prop := fnExactAnglesOfRow.holds Try.pinned (OpenSpec.ofChange fnExactAnglesOfWrong)

/-- 'laws.FnExactStratumOf': WHATEVER THE INPUT: true; the input reads as it did. -/
def fnExactStratumOfSpec : ChangeSpec := { name := "fnExactStratumOf", fn := fun _ => fun
  | [d] => { results := [.lit (.bool true)], args := [d] }
  | _ => none }
def fnExactStratumOfRow : OpenClaim := { program := "ytlohmpgbjgidpad", sum := "a1eb498075d170e9d4cc7d6ea95bbf96a79f9487cbc566eef1b0db80f9fa2816", func := "loop.example/g00928/laws.FnExactStratumOf", spec := "fnExactStratumOf", unfollowed := true, recurses := true, apart := false }
def FnExactStratumOfSaid : Prop := fnExactStratumOfRow.holds Try.pinned (OpenSpec.ofChange fnExactStratumOfSpec)

/-- ITS FALSE NEIGHBOUR: 'it returns false'. Refute it at one input. -/
def fnExactStratumOfWrong : ChangeSpec := { name := "fnExactStratumOf", fn := fun _ => fun
  | [d] => { results := [.lit (.bool false)], args := [d] }
  | _ => none }
def FnExactStratumOfWrongFalsely : Prop := fnExactStratumOfRow.holds Try.pinned (OpenSpec.ofChange fnExactStratumOfWrong)

/- THE SECOND FORM. 'bulk': how many values and letters a reading holds, each counted each time it is reached (what is shared counts as often as it is met; a slice's spare places count too). A statement '..UptoSaid' is the law's where the arguments, and the package variables that the reading takes, are together of bulk at most 1048576: NARROWER than '..Said'. Prove '..Said' where nothing that the law and all that it calls make is longer than what came in: it says more and counts as full. Else prove '..UptoSaid'. A law counts once. -/
mutual
def uptoBulk {H : Type} : DataW H → Nat
  | .lit (.string bytes) => bytes.length + 1
  | .lit _ => 1
  | .nil => 1
  | .ptr d => uptoBulk d + 1
  | .slice elems spare => uptoBulkAll elems + uptoBulkAll spare + 1
  | .agg parts => uptoBulkAll parts + 1
  | .iface _ d => uptoBulk d + 1
  | .map entries => uptoBulkEntries entries + 1
  | .held _ => 1
def uptoBulkAll {H : Type} : List (DataW H) → Nat
  | [] => 0
  | d :: r => uptoBulk d + uptoBulkAll r
def uptoBulkEntries {H : Type} : List (Lit × DataW H) → Nat
  | [] => 0
  | x :: r => uptoBulkEntry x + uptoBulkEntries r
def uptoBulkEntry {H : Type} : Lit × DataW H → Nat
  | (.string bytes, d) => bytes.length + uptoBulk d + 1
  | (_, d) => uptoBulk d + 1
 end
def uptoSmall : (H : Type) → List (DataW H) → Bool := fun _ ds => decide (uptoBulkAll ds ≤ 1048576)
def OpenSpec.upto (s : _root_.Go.ChangeSpec) : _root_.Go.OpenSpec := { _root_.Go.OpenSpec.ofChange s with cond := some uptoSmall }

/-- 'laws.FnExactGenusOf', WHERE WHAT IT READS IS OF BULK AT MOST 1048576: true; the input reads as it did. -/
def fnExactGenusOfUptoRow : OpenClaim := { program := "ytlohmpgbjgidpad", sum := "a1eb498075d170e9d4cc7d6ea95bbf96a79f9487cbc566eef1b0db80f9fa2816", func := "loop.example/g00928/laws.FnExactGenusOf", spec := "fnExactGenusOf", apart := false, narrowed := true }
def FnExactGenusOfUptoSaid : Prop := fnExactGenusOfUptoRow.holds Try.pinned (OpenSpec.upto fnExactGenusOfSpec)

/-- 'laws.FnExactCornersOf', WHERE WHAT IT READS IS OF BULK AT MOST 1048576: true; the input reads as it did. -/
def fnExactCornersOfUptoRow : OpenClaim := { program := "ytlohmpgbjgidpad", sum := "a1eb498075d170e9d4cc7d6ea95bbf96a79f9487cbc566eef1b0db80f9fa2816", func := "loop.example/g00928/laws.FnExactCornersOf", spec := "fnExactCornersOf", apart := false, narrowed := true }
def FnExactCornersOfUptoSaid : Prop := fnExactCornersOfUptoRow.holds Try.pinned (OpenSpec.upto fnExactCornersOfSpec)

/-- 'laws.FnExactRunWord', WHERE WHAT IT READS IS OF BULK AT MOST 1048576: true; the input reads as it did. -/
def fnExactRunWordUptoRow : OpenClaim := { program := "ytlohmpgbjgidpad", sum := "a1eb498075d170e9d4cc7d6ea95bbf96a79f9487cbc566eef1b0db80f9fa2816", func := "loop.example/g00928/laws.FnExactRunWord", spec := "fnExactRunWord", inPlace := ["internal/bytealg.IndexByteString"], apart := false, narrowed := true }
def FnExactRunWordUptoSaid : Prop := fnExactRunWordUptoRow.holds Try.pinned (OpenSpec.upto fnExactRunWordSpec)

/-- 'laws.FnExactAreIsomorphic', WHERE WHAT IT READS IS OF BULK AT MOST 1048576: true; the input reads as it did. -/
def fnExactAreIsomorphicUptoRow : OpenClaim := { program := "ytlohmpgbjgidpad", sum := "a1eb498075d170e9d4cc7d6ea95bbf96a79f9487cbc566eef1b0db80f9fa2816", func := "loop.example/g00928/laws.FnExactAreIsomorphic", spec := "fnExactAreIsomorphic", unfollowed := true, recurses := true, apart := false, narrowed := true }
def FnExactAreIsomorphicUptoSaid : Prop := fnExactAreIsomorphicUptoRow.holds Try.pinned (OpenSpec.upto fnExactAreIsomorphicSpec)

/-- 'laws.FnExactCanonOf', WHERE WHAT IT READS IS OF BULK AT MOST 1048576: true; the input reads as it did. -/
def fnExactCanonOfUptoRow : OpenClaim := { program := "ytlohmpgbjgidpad", sum := "a1eb498075d170e9d4cc7d6ea95bbf96a79f9487cbc566eef1b0db80f9fa2816", func := "loop.example/g00928/laws.FnExactCanonOf", spec := "fnExactCanonOf", unfollowed := true, recurses := true, apart := false, narrowed := true }
def FnExactCanonOfUptoSaid : Prop := fnExactCanonOfUptoRow.holds Try.pinned (OpenSpec.upto fnExactCanonOfSpec)

/-- 'laws.FnExactCountSymmetries', WHERE WHAT IT READS IS OF BULK AT MOST 1048576: true; the input reads as it did. -/
def fnExactCountSymmetriesUptoRow : OpenClaim := { program := "ytlohmpgbjgidpad", sum := "a1eb498075d170e9d4cc7d6ea95bbf96a79f9487cbc566eef1b0db80f9fa2816", func := "loop.example/g00928/laws.FnExactCountSymmetries", spec := "fnExactCountSymmetries", unfollowed := true, recurses := true, apart := false, narrowed := true }
def FnExactCountSymmetriesUptoSaid : Prop := fnExactCountSymmetriesUptoRow.holds Try.pinned (OpenSpec.upto fnExactCountSymmetriesSpec)

/-- 'laws.FnExactShearPeriod', WHERE WHAT IT READS IS OF BULK AT MOST 1048576: true; the input reads as it did. -/
def fnExactShearPeriodUptoRow : OpenClaim := { program := "ytlohmpgbjgidpad", sum := "a1eb498075d170e9d4cc7d6ea95bbf96a79f9487cbc566eef1b0db80f9fa2816", func := "loop.example/g00928/laws.FnExactShearPeriod", spec := "fnExactShearPeriod", unfollowed := true, recurses := true, apart := false, narrowed := true }
def FnExactShearPeriodUptoSaid : Prop := fnExactShearPeriodUptoRow.holds Try.pinned (OpenSpec.upto fnExactShearPeriodSpec)

/-- 'laws.FnExactAnglesOf', WHERE WHAT IT READS IS OF BULK AT MOST 1048576: true; the input reads as it did. -/
def fnExactAnglesOfUptoRow : OpenClaim := { program := "ytlohmpgbjgidpad", sum := "a1eb498075d170e9d4cc7d6ea95bbf96a79f9487cbc566eef1b0db80f9fa2816", func := "loop.example/g00928/laws.FnExactAnglesOf", spec := "fnExactAnglesOf", unfollowed := true, recurses := true, apart := false, narrowed := true }
def FnExactAnglesOfUptoSaid : Prop := fnExactAnglesOfUptoRow.holds Try.pinned (OpenSpec.upto fnExactAnglesOfSpec)

/-- 'laws.FnExactStratumOf', WHERE WHAT IT READS IS OF BULK AT MOST 1048576: true; the input reads as it did. -/
def fnExactStratumOfUptoRow : OpenClaim := { program := "ytlohmpgbjgidpad", sum := "a1eb498075d170e9d4cc7d6ea95bbf96a79f9487cbc566eef1b0db80f9fa2816", func := "loop.example/g00928/laws.FnExactStratumOf", spec := "fnExactStratumOf", unfollowed := true, recurses := true, apart := false, narrowed := true }
def FnExactStratumOfUptoSaid : Prop := fnExactStratumOfUptoRow.holds Try.pinned (OpenSpec.upto fnExactStratumOfSpec)

end Rows
end Go.Proofs.Ytlohmpgbjgidpad
