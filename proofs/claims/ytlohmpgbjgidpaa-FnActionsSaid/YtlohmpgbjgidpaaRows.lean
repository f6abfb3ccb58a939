/-
  No cell of these rows narrows 'for every input' (looked for: loops, veiled, ifaces, maps, wideKeys, modest, calm, conditions, laid).
  DERIVED. THE GIVEN ROWS OF THIS SEAT. 12 by the template 'for every input the law returns true; each argument reads behind the call as it read before'; 0 by the template 'total and deterministic' (their statements: YtlohmpgbjgidpaaTotals.lean).
  GIVEN WITH THE SEED: the statements are not yours to turn. If you find one false, say at which input.
  Laid BY PROGRAM, IN A SANDBOX (cutbox-rows.mjs): the forced cells as the released guide's own fill.sh prints them over the translation 8ec63c52575c3d74… (all of the seat's roots in one cut). By AI agents, Wed Nov 11 2026. No macro, syntax, notation, axiom, sorry.
-/
import Derived.Test.YtlohmpgbjgidpaaChecked
import GoSem.Claim
import GoSem.ClaimJoined
import GoSem.ClaimMapViews
import Derived.JoinedTies
import Derived.KernelRfl
namespace Go.Proofs.Ytlohmpgbjgidpaa
/- THE CELL 'sum', in the pinned program and in every row, IS THE sha256 OF THE DUMP (.gsa) THAT YtlohmpgbjgidpaaProg.lean LOADS. Nothing in Lean hashes anything: it is a label: what it is worth is what the hold of that sum in a sandbox is worth. -/
noncomputable def Try.pinned : Pinned := { name := "ytlohmpgbjgidpaa", sum := "8ec63c52575c3d746f3727d29195af1be5840d68760686d7f5e805de5419993c", checked := Try.checked }
namespace Rows
def none {H : Type} : Left H := { results := [], args := [] }

/-- 'laws.FnExactConstants': WHATEVER THE INPUT: true; the input reads as it did. -/
def fnExactConstantsSpec : ChangeSpec := { name := "fnExactConstants", fn := fun _ => fun
  | [] => { results := [.lit (.bool true)], args := [] }
  | _ => none }
def fnExactConstantsRow : OpenClaim := { program := "ytlohmpgbjgidpaa", sum := "8ec63c52575c3d746f3727d29195af1be5840d68760686d7f5e805de5419993c", func := "loop.example/g00928/laws.FnExactConstants", spec := "fnExactConstants", apart := false }
def FnExactConstantsSaid : Prop := fnExactConstantsRow.holds Try.pinned (OpenSpec.ofChange fnExactConstantsSpec)

/-- ITS FALSE NEIGHBOUR: 'it returns false'. Refute it at one input. -/
def fnExactConstantsWrong : ChangeSpec := { name := "fnExactConstants", fn := fun _ => fun
  | [] => { results := [.lit (.bool false)], args := [] }
  | _ => none }
def FnExactConstantsWrongFalsely : Prop := fnExactConstantsRow.holds Try.pinned (OpenSpec.ofChange fnExactConstantsWrong)

/-- 'laws.FnExactIsDigits': WHATEVER THE INPUT: true; the input reads as it did. -/
def fnExactIsDigitsSpec : ChangeSpec := { name := "fnExactIsDigits", fn := fun _ => fun
  | [d] => { results := [.lit (.bool true)], args := [d] }
  | _ => none }
def fnExactIsDigitsRow : OpenClaim := { program := "ytlohmpgbjgidpaa", sum := "8ec63c52575c3d746f3727d29195af1be5840d68760686d7f5e805de5419993c", func := "loop.example/g00928/laws.FnExactIsDigits", spec := "fnExactIsDigits", apart := false }
def FnExactIsDigitsSaid : Prop := fnExactIsDigitsRow.holds Try.pinned (OpenSpec.ofChange fnExactIsDigitsSpec)

/-- ITS FALSE NEIGHBOUR: 'it returns false'. Refute it at one input. -/
def fnExactIsDigitsWrong : ChangeSpec := { name := "fnExactIsDigits", fn := fun _ => fun
  | [d] => { results := [.lit (.bool false)], args := [d] }
  | _ => none }
def FnExactIsDigitsWrongFalsely : Prop := fnExactIsDigitsRow.holds Try.pinned (OpenSpec.ofChange fnExactIsDigitsWrong)

/-- 'laws.FnExactIsName': WHATEVER THE INPUT: true; the input reads as it did. -/
def fnExactIsNameSpec : ChangeSpec := { name := "fnExactIsName", fn := fun _ => fun
  | [d] => { results := [.lit (.bool true)], args := [d] }
  | _ => none }
def fnExactIsNameRow : OpenClaim := { program := "ytlohmpgbjgidpaa", sum := "8ec63c52575c3d746f3727d29195af1be5840d68760686d7f5e805de5419993c", func := "loop.example/g00928/laws.FnExactIsName", spec := "fnExactIsName", apart := false }
def FnExactIsNameSaid : Prop := fnExactIsNameRow.holds Try.pinned (OpenSpec.ofChange fnExactIsNameSpec)

/-- ITS FALSE NEIGHBOUR: 'it returns false'. Refute it at one input. -/
def fnExactIsNameWrong : ChangeSpec := { name := "fnExactIsName", fn := fun _ => fun
  | [d] => { results := [.lit (.bool false)], args := [d] }
  | _ => none }
def FnExactIsNameWrongFalsely : Prop := fnExactIsNameRow.holds Try.pinned (OpenSpec.ofChange fnExactIsNameWrong)

/-- 'laws.FnExactWordOk': WHATEVER THE INPUT: true; the input reads as it did. -/
def fnExactWordOkSpec : ChangeSpec := { name := "fnExactWordOk", fn := fun _ => fun
  | [d] => { results := [.lit (.bool true)], args := [d] }
  | _ => none }
def fnExactWordOkRow : OpenClaim := { program := "ytlohmpgbjgidpaa", sum := "8ec63c52575c3d746f3727d29195af1be5840d68760686d7f5e805de5419993c", func := "loop.example/g00928/laws.FnExactWordOk", spec := "fnExactWordOk", inPlace := ["internal/bytealg.IndexByteString"], apart := false }
def FnExactWordOkSaid : Prop := fnExactWordOkRow.holds Try.pinned (OpenSpec.ofChange fnExactWordOkSpec)

/-- ITS FALSE NEIGHBOUR: 'it returns false'. Refute it at one input. -/
def fnExactWordOkWrong : ChangeSpec := { name := "fnExactWordOk", fn := fun _ => fun
  | [d] => { results := [.lit (.bool false)], args := [d] }
  | _ => none }
def FnExactWordOkWrongFalsely : Prop := fnExactWordOkRow.holds Try.pinned (OpenSpec.ofChange fnExactWordOkWrong)

/-- 'laws.FnExactDeterminantOf': WHATEVER THE INPUT: true; the input reads as it did. -/
def fnExactDeterminantOfSpec : ChangeSpec := { name := "fnExactDeterminantOf", fn := fun _ => fun
  | [d] => { results := [.lit (.bool true)], args := [d] }
  | _ => none }
def fnExactDeterminantOfRow : OpenClaim := { program := "ytlohmpgbjgidpaa", sum := "8ec63c52575c3d746f3727d29195af1be5840d68760686d7f5e805de5419993c", func := "loop.example/g00928/laws.FnExactDeterminantOf", spec := "fnExactDeterminantOf", apart := false }
def FnExactDeterminantOfSaid : Prop := fnExactDeterminantOfRow.holds Try.pinned (OpenSpec.ofChange fnExactDeterminantOfSpec)

/-- ITS FALSE NEIGHBOUR: 'it returns false'. Refute it at one input. -/
def fnExactDeterminantOfWrong : ChangeSpec := { name := "fnExactDeterminantOf", fn := fun _ => fun
  | [d] => { results := [.lit (.bool false)], args := [d] }
  | _ => none }
def FnExactDeterminantOfWrongFalsely : Prop := fnExactDeterminantOfRow.holds Try.pinned (OpenSpec.ofChange fnExactDeterminantOfWrong)

/-- 'laws.FnCanon': WHATEVER THE INPUT: true; the input reads as it did. -/
def fnCanonSpec : ChangeSpec := { name := "fnCanon", fn := fun _ => fun
  | [d] => { results := [.lit (.bool true)], args := [d] }
  | _ => none }
def fnCanonRow : OpenClaim := { program := "ytlohmpgbjgidpaa", sum := "8ec63c52575c3d746f3727d29195af1be5840d68760686d7f5e805de5419993c", func := "loop.example/g00928/laws.FnCanon", spec := "fnCanon", unfollowed := true, recurses := true, apart := false }
def FnCanonSaid : Prop := fnCanonRow.holds Try.pinned (OpenSpec.ofChange fnCanonSpec)

/-- ITS FALSE NEIGHBOUR: 'it returns false'. Refute it at one input. -/
def fnCanonWrong : ChangeSpec := { name := "fnCanon", fn := fun _ => fun
  | [d] => { results := [.lit (.bool false)], args := [d] }
  | _ => none }
def FnCanonWrongFalsely : Prop := fnCanonRow.holds Try.pinned (OpenSpec.ofChange fnCanonWrong)

/-- 'laws.FnExactSameList': WHATEVER THE INPUT: true; the input reads as it did. -/
def fnExactSameListSpec : ChangeSpec := { name := "fnExactSameList", fn := fun _ => fun
  | [d1, d2] => { results := [.lit (.bool true)], args := [d1, d2] }
  | _ => none }
def fnExactSameListRow : OpenClaim := { program := "ytlohmpgbjgidpaa", sum := "8ec63c52575c3d746f3727d29195af1be5840d68760686d7f5e805de5419993c", func := "loop.example/g00928/laws.FnExactSameList", spec := "fnExactSameList", apart := false }
def FnExactSameListSaid : Prop := fnExactSameListRow.holds Try.pinned (OpenSpec.ofChange fnExactSameListSpec)

/-- ITS FALSE NEIGHBOUR: 'it returns false'. Refute it at one input. -/
def fnExactSameListWrong : ChangeSpec := { name := "fnExactSameList", fn := fun _ => fun
  | [d1, d2] => { results := [.lit (.bool false)], args := [d1, d2] }
  | _ => none }
def FnExactSameListWrongFalsely : Prop := fnExactSameListRow.holds Try.pinned (OpenSpec.ofChange fnExactSameListWrong)

/-- 'laws.FnExactPermOk': WHATEVER THE INPUT: true; the input reads as it did. -/
def fnExactPermOkSpec : ChangeSpec := { name := "fnExactPermOk", fn := fun _ => fun
  | [d] => { results := [.lit (.bool true)], args := [d] }
  | _ => none }
def fnExactPermOkRow : OpenClaim := { program := "ytlohmpgbjgidpaa", sum := "8ec63c52575c3d746f3727d29195af1be5840d68760686d7f5e805de5419993c", func := "loop.example/g00928/laws.FnExactPermOk", spec := "fnExactPermOk", apart := false }
def FnExactPermOkSaid : Prop := fnExactPermOkRow.holds Try.pinned (OpenSpec.ofChange fnExactPermOkSpec)

/-- ITS FALSE NEIGHBOUR: 'it returns false'. Refute it at one input. -/
def fnExactPermOkWrong : ChangeSpec := { name := "fnExactPermOk", fn := fun _ => fun
  | [d] => { results := [.lit (.bool false)], args := [d] }
  | _ => none }
def FnExactPermOkWrongFalsely : Prop := fnExactPermOkRow.holds Try.pinned (OpenSpec.ofChange fnExactPermOkWrong)

/-- 'laws.FnExactIdentityPerm': WHATEVER THE INPUT: true; the input reads as it did. -/
def fnExactIdentityPermSpec : ChangeSpec := { name := "fnExactIdentityPerm", fn := fun _ => fun
  | [d] => { results := [.lit (.bool true)], args := [d] }
  | _ => none }
def fnExactIdentityPermRow : OpenClaim := { program := "ytlohmpgbjgidpaa", sum := "8ec63c52575c3d746f3727d29195af1be5840d68760686d7f5e805de5419993c", func := "loop.example/g00928/laws.FnExactIdentityPerm", spec := "fnExactIdentityPerm", apart := false }
def FnExactIdentityPermSaid : Prop := fnExactIdentityPermRow.holds Try.pinned (OpenSpec.ofChange fnExactIdentityPermSpec)

/-- ITS FALSE NEIGHBOUR: 'it returns false'. Refute it at one input. -/
def fnExactIdentityPermWrong : ChangeSpec := { name := "fnExactIdentityPerm", fn := fun _ => fun
  | [d] => { results := [.lit (.bool false)], args := [d] }
  | _ => none }
def FnExactIdentityPermWrongFalsely : Prop := fnExactIdentityPermRow.holds Try.pinned (OpenSpec.ofChange fnExactIdentityPermWrong)

/-- 'laws.FnExactInverseWord': WHATEVER THE INPUT: true; the input reads as it did. -/
def fnExactInverseWordSpec : ChangeSpec := { name := "fnExactInverseWord", fn := fun _ => fun
  | [d] => { results := [.lit (.bool true)], args := [d] }
  | _ => none }
def fnExactInverseWordRow : OpenClaim := { program := "ytlohmpgbjgidpaa", sum := "8ec63c52575c3d746f3727d29195af1be5840d68760686d7f5e805de5419993c", func := "loop.example/g00928/laws.FnExactInverseWord", spec := "fnExactInverseWord", inPlace := ["internal/bytealg.IndexByteString"], apart := false }
def FnExactInverseWordSaid : Prop := fnExactInverseWordRow.holds Try.pinned (OpenSpec.ofChange fnExactInverseWordSpec)

/-- ITS FALSE NEIGHBOUR: 'it returns false'. Refute it at one input. -/
def fnExactInverseWordWrong : ChangeSpec := { name := "fnExactInverseWord", fn := fun _ => fun
  | [d] => { results := [.lit (.bool false)], args := [d] }
  | _ => none }
def FnExactInverseWordWrongFalsely : Prop := fnExactInverseWordRow.holds Try.pinned (OpenSpec.ofChange fnExactInverseWordWrong)

/-- 'laws.FnExactTimesMatrix': WHATEVER THE INPUT: true; the input reads as it did. -/
def fnExactTimesMatrixSpec : ChangeSpec := { name := "fnExactTimesMatrix", fn := fun _ => fun
  | [d1, d2] => { results := [.lit (.bool true)], args := [d1, d2] }
  | _ => none }
def fnExactTimesMatrixRow : OpenClaim := { program := "ytlohmpgbjgidpaa", sum := "8ec63c52575c3d746f3727d29195af1be5840d68760686d7f5e805de5419993c", func := "loop.example/g00928/laws.FnExactTimesMatrix", spec := "fnExactTimesMatrix", apart := false }
def FnExactTimesMatrixSaid : Prop := fnExactTimesMatrixRow.holds Try.pinned (OpenSpec.ofChange fnExactTimesMatrixSpec)

/-- ITS FALSE NEIGHBOUR: 'it returns false'. Refute it at one input. -/
def fnExactTimesMatrixWrong : ChangeSpec := { name := "fnExactTimesMatrix", fn := fun _ => fun
  | [d1, d2] => { results := [.lit (.bool false)], args := [d1, d2] }
  | _ => none }
def FnExactTimesMatrixWrongFalsely : Prop := fnExactTimesMatrixRow.holds Try.pinned (OpenSpec.ofChange fnExactTimesMatrixWrong)

/-- 'laws.FnActions': WHATEVER THE INPUT: true; the input reads as it did. -/
def fnActionsSpec : ChangeSpec := { name := "fnActions", fn := fun _ => fun
  | [d] => { results := [.lit (.bool true)], args := [d] }
  | _ => none }
def fnActionsRow : OpenClaim := { program := "ytlohmpgbjgidpaa", sum := "8ec63c52575c3d746f3727d29195af1be5840d68760686d7f5e805de5419993c", func := "loop.example/g00928/laws.FnActions", spec := "fnActions", inPlace := ["internal/bytealg.IndexByteString"], unfollowed := true, recurses := true, apart := false }
def FnActionsSaid : Prop := fnActionsRow.holds Try.pinned (OpenSpec.ofChange fnActionsSpec)

/-- ITS FALSE NEIGHBOUR: 'it returns false'. Refute it at one input. -/
def fnActionsWrong : ChangeSpec := { name := "fnActions", fn := fun _ => fun
  | [d] => { results := [.lit (.bool false)], args := [d] }
  | _ => none }
def FnActionsWrongFalsely : Prop := fnActionsRow.holds Try.pinned (OpenSpec.ofChange fnActionsWrong)

/- THE SECOND FORM. 'bulk': how many values and letters a reading holds, each counted each time it is reached (what is shared counts as often as it is met; a slice's spare places count too). A statement '..UptoSaid' is the law's where the arguments, and the package variables that the reading takes, are together of bulk at most 1048576: NARROWER than '..Said'. Prove '..Said' where nothing that the law and all that it calls make is longer than what came in: it says more and counts as full. Else prove '..UptoSaid'. A law counts once. -/
mutual
def uptoBulk {H : Type} : DataW H → Nat
  | .lit (.string bytes) => bytes.length + 1
  | .lit _ => 1
  | .nil => 1
  | .ptr d => uptoBulk d + 1
  | .slice elems spare => uptoBulkAll elems + uptoBulkAll spare + 1
  | .agg parts => uptoBulkAll parts + 1
  | .iface _ d => uptoBulk d + 1
  | .map entries => uptoBulkEntries entries + 1
  | .held _ => 1
def uptoBulkAll {H : Type} : List (DataW H) → Nat
  | [] => 0
  | d :: r => uptoBulk d + uptoBulkAll r
def uptoBulkEntries {H : Type} : List (Lit × DataW H) → Nat
  | [] => 0
  | x :: r => uptoBulkEntry x + uptoBulkEntries r
def uptoBulkEntry {H : Type} : Lit × DataW H → Nat
  | (.string bytes, d) => bytes.length + uptoBulk d + 1
  | (_, d) => uptoBulk d + 1
 end
def uptoSmall : (H : Type) → List (DataW H) → Bool := fun _ ds => decide (uptoBulkAll ds ≤ 1048576)
def OpenSpec.upto (s : _root_.Go.ChangeSpec) : _root_.Go.OpenSpec := { _root_.Go.OpenSpec.ofChange s with cond := some uptoSmall }

/-- 'laws.FnExactConstants', WHERE WHAT IT READS IS OF BULK AT MOST 1048576: true; the input reads as it did. -/
def fnExactConstantsUptoRow : OpenClaim := { program := "ytlohmpgbjgidpaa", sum := "8ec63c52575c3d746f3727d29195af1be5840d68760686d7f5e805de5419993c", func := "loop.example/g00928/laws.FnExactConstants", spec := "fnExactConstants", apart := false, narrowed := true }
def FnExactConstantsUptoSaid : Prop := fnExactConstantsUptoRow.holds Try.pinned (OpenSpec.upto fnExactConstantsSpec)

/-- 'laws.FnExactIsDigits', WHERE WHAT IT READS IS OF BULK AT MOST 1048576: true; the input reads as it did. -/
def fnExactIsDigitsUptoRow : OpenClaim := { program := "ytlohmpgbjgidpaa", sum := "8ec63c52575c3d746f3727d29195af1be5840d68760686d7f5e805de5419993c", func := "loop.example/g00928/laws.FnExactIsDigits", spec := "fnExactIsDigits", apart := false, narrowed := true }
def FnExactIsDigitsUptoSaid : Prop := fnExactIsDigitsUptoRow.holds Try.pinned (OpenSpec.upto fnExactIsDigitsSpec)

/-- 'laws.FnExactIsName', WHERE WHAT IT READS IS OF BULK AT MOST 1048576: true; the input reads as it did. -/
def fnExactIsNameUptoRow : OpenClaim := { program := "ytlohmpgbjgidpaa", sum := "8ec63c52575c3d746f3727d29195af1be5840d68760686d7f5e805de5419993c", func := "loop.example/g00928/laws.FnExactIsName", spec := "fnExactIsName", apart := false, narrowed := true }
def FnExactIsNameUptoSaid : Prop := fnExactIsNameUptoRow.holds Try.pinned (OpenSpec.upto fnExactIsNameSpec)

/-- 'laws.FnExactWordOk', WHERE WHAT IT READS IS OF BULK AT MOST 1048576: true; the input reads as it did. -/
def fnExactWordOkUptoRow : OpenClaim := { program := "ytlohmpgbjgidpaa", sum := "8ec63c52575c3d746f3727d29195af1be5840d68760686d7f5e805de5419993c", func := "loop.example/g00928/laws.FnExactWordOk", spec := "fnExactWordOk", inPlace := ["internal/bytealg.IndexByteString"], apart := false, narrowed := true }
def FnExactWordOkUptoSaid : Prop := fnExactWordOkUptoRow.holds Try.pinned (OpenSpec.upto fnExactWordOkSpec)

/-- 'laws.FnExactDeterminantOf', WHERE WHAT IT READS IS OF BULK AT MOST 1048576: true; the input reads as it did. -/
def fnExactDeterminantOfUptoRow : OpenClaim := { program := "ytlohmpgbjgidpaa", sum := "8ec63c52575c3d746f3727d29195af1be5840d68760686d7f5e805de5419993c", func := "loop.example/g00928/laws.FnExactDeterminantOf", spec := "fnExactDeterminantOf", apart := false, narrowed := true }
def FnExactDeterminantOfUptoSaid : Prop := fnExactDeterminantOfUptoRow.holds Try.pinned (OpenSpec.upto fnExactDeterminantOfSpec)

/-- 'laws.FnCanon', WHERE WHAT IT READS IS OF BULK AT MOST 1048576: true; the input reads as it did. -/
def fnCanonUptoRow : OpenClaim := { program := "ytlohmpgbjgidpaa", sum := "8ec63c52575c3d746f3727d29195af1be5840d68760686d7f5e805de5419993c", func := "loop.example/g00928/laws.FnCanon", spec := "fnCanon", unfollowed := true, recurses := true, apart := false, narrowed := true }
def FnCanonUptoSaid : Prop := fnCanonUptoRow.holds Try.pinned (OpenSpec.upto fnCanonSpec)

/-- 'laws.FnExactSameList', WHERE WHAT IT READS IS OF BULK AT MOST 1048576: true; the input reads as it did. -/
def fnExactSameListUptoRow : OpenClaim := { program := "ytlohmpgbjgidpaa", sum := "8ec63c52575c3d746f3727d29195af1be5840d68760686d7f5e805de5419993c", func := "loop.example/g00928/laws.FnExactSameList", spec := "fnExactSameList", apart := false, narrowed := true }
def FnExactSameListUptoSaid : Prop := fnExactSameListUptoRow.holds Try.pinned (OpenSpec.upto fnExactSameListSpec)

/-- 'laws.FnExactPermOk', WHERE WHAT IT READS IS OF BULK AT MOST 1048576: true; the input reads as it did. -/
def fnExactPermOkUptoRow : OpenClaim := { program := "ytlohmpgbjgidpaa", sum := "8ec63c52575c3d746f3727d29195af1be5840d68760686d7f5e805de5419993c", func := "loop.example/g00928/laws.FnExactPermOk", spec := "fnExactPermOk", apart := false, narrowed := true }
def FnExactPermOkUptoSaid : Prop := fnExactPermOkUptoRow.holds Try.pinned (OpenSpec.upto fnExactPermOkSpec)

/-- 'laws.FnExactIdentityPerm', WHERE WHAT IT READS IS OF BULK AT MOST 1048576: true; the input reads as it did. -/
def fnExactIdentityPermUptoRow : OpenClaim := { program := "ytlohmpgbjgidpaa", sum := "8ec63c52575c3d746f3727d29195af1be5840d68760686d7f5e805de5419993c", func := "loop.example/g00928/laws.FnExactIdentityPerm", spec := "fnExactIdentityPerm", apart := false, narrowed := true }
def FnExactIdentityPermUptoSaid : Prop := fnExactIdentityPermUptoRow.holds Try.pinned (OpenSpec.upto fnExactIdentityPermSpec)

/-- 'laws.FnExactInverseWord', WHERE WHAT IT READS IS OF BULK AT MOST 1048576: true; the input reads as it did. -/
def fnExactInverseWordUptoRow : OpenClaim := { program := "ytlohmpgbjgidpaa", sum := "8ec63c52575c3d746f3727d29195af1be5840d68760686d7f5e805de5419993c", func := "loop.example/g00928/laws.FnExactInverseWord", spec := "fnExactInverseWord", inPlace := ["internal/bytealg.IndexByteString"], apart := false, narrowed := true }
def FnExactInverseWordUptoSaid : Prop := fnExactInverseWordUptoRow.holds Try.pinned (OpenSpec.upto fnExactInverseWordSpec)

/-- 'laws.FnExactTimesMatrix', WHERE WHAT IT READS IS OF BULK AT MOST 1048576: true; the input reads as it did. -/
def fnExactTimesMatrixUptoRow : OpenClaim := { program := "ytlohmpgbjgidpaa", sum := "8ec63c52575c3d746f3727d29195af1be5840d68760686d7f5e805de5419993c", func := "loop.example/g00928/laws.FnExactTimesMatrix", spec := "fnExactTimesMatrix", apart := false, narrowed := true }
def FnExactTimesMatrixUptoSaid : Prop := fnExactTimesMatrixUptoRow.holds Try.pinned (OpenSpec.upto fnExactTimesMatrixSpec)

/-- 'laws.FnActions', WHERE WHAT IT READS IS OF BULK AT MOST 1048576: true; the input reads as it did. -/
def fnActionsUptoRow : OpenClaim := { program := "ytlohmpgbjgidpaa", sum := "8ec63c52575c3d746f3727d29195af1be5840d68760686d7f5e805de5419993c", func := "loop.example/g00928/laws.FnActions", spec := "fnActions", inPlace := ["internal/bytealg.IndexByteString"], unfollowed := true, recurses := true, apart := false, narrowed := true }
def FnActionsUptoSaid : Prop := fnActionsUptoRow.holds Try.pinned (OpenSpec.upto fnActionsSpec)

end Rows
end Go.Proofs.Ytlohmpgbjgidpaa
