/-
  No cell of these rows narrows 'for every input' (looked for: loops, veiled, ifaces, maps, wideKeys, modest, calm, conditions, laid).
  DERIVED. THE GIVEN ROWS OF THIS SEAT. 12 by the template 'for every input the law returns true; each argument reads behind the call as it read before'; 0 by the template 'total and deterministic' (their statements: YtlohmpgbjgidpabTotals.lean).
  GIVEN WITH THE SEED: the statements are not yours to turn. If you find one false, say at which input.
  Laid BY PROGRAM, IN A SANDBOX (cutbox-rows.mjs): the forced cells as the released guide's own fill.sh prints them over the translation 3d77a95fea1fb479… (all of the seat's roots in one cut). By AI agents, Wed Nov 11 2026. No macro, syntax, notation, axiom, sorry.
-/
import Derived.Test.YtlohmpgbjgidpabChecked
import GoSem.Claim
import GoSem.ClaimJoined
import GoSem.ClaimMapViews
import Derived.JoinedTies
import Derived.KernelRfl
namespace Go.Proofs.Ytlohmpgbjgidpab
/- THE CELL 'sum', in the pinned program and in every row, IS THE sha256 OF THE DUMP (.gsa) THAT YtlohmpgbjgidpabProg.lean LOADS. Nothing in Lean hashes anything: it is a label: what it is worth is what the hold of that sum in a sandbox is worth. -/
noncomputable def Try.pinned : Pinned := { name := "ytlohmpgbjgidpab", sum := "3d77a95fea1fb479798971969bb0e9ac5724180697f35a173282b92dfc164d26", checked := Try.checked }
namespace Rows
def none {H : Type} : Left H := { results := [], args := [] }

/-- 'laws.FnExactSplitAny': WHATEVER THE INPUT: true; the input reads as it did. -/
def fnExactSplitAnySpec : ChangeSpec := { name := "fnExactSplitAny", fn := fun _ => fun
  | [d1, d2] => { results := [.lit (.bool true)], args := [d1, d2] }
  | _ => none }
def fnExactSplitAnyRow : OpenClaim := { program := "ytlohmpgbjgidpab", sum := "3d77a95fea1fb479798971969bb0e9ac5724180697f35a173282b92dfc164d26", func := "loop.example/g00928/laws.FnExactSplitAny", spec := "fnExactSplitAny", inPlace := ["internal/bytealg.IndexByteString"], apart := false }
def FnExactSplitAnySaid : Prop := fnExactSplitAnyRow.holds Try.pinned (OpenSpec.ofChange fnExactSplitAnySpec)

/-- ITS FALSE NEIGHBOUR: 'it returns false'. Refute it at one input. -/
def fnExactSplitAnyWrong : ChangeSpec := { name := "fnExactSplitAny", fn := fun _ => fun
  | [d1, d2] => { results := [.lit (.bool false)], args := [d1, d2] }
  | _ => none }
def FnExactSplitAnyWrongFalsely : Prop := fnExactSplitAnyRow.holds Try.pinned (OpenSpec.ofChange fnExactSplitAnyWrong)

/-- 'laws.FnExactTorusOf': WHATEVER THE INPUT: true; the input reads as it did. -/
def fnExactTorusOfSpec : ChangeSpec := { name := "fnExactTorusOf", fn := fun _ => fun
  | [d1, d2] => { results := [.lit (.bool true)], args := [d1, d2] }
  | _ => none }
def fnExactTorusOfRow : OpenClaim := { program := "ytlohmpgbjgidpab", sum := "3d77a95fea1fb479798971969bb0e9ac5724180697f35a173282b92dfc164d26", func := "loop.example/g00928/laws.FnExactTorusOf", spec := "fnExactTorusOf", apart := false }
def FnExactTorusOfSaid : Prop := fnExactTorusOfRow.holds Try.pinned (OpenSpec.ofChange fnExactTorusOfSpec)

/-- ITS FALSE NEIGHBOUR: 'it returns false'. Refute it at one input. -/
def fnExactTorusOfWrong : ChangeSpec := { name := "fnExactTorusOf", fn := fun _ => fun
  | [d1, d2] => { results := [.lit (.bool false)], args := [d1, d2] }
  | _ => none }
def FnExactTorusOfWrongFalsely : Prop := fnExactTorusOfRow.holds Try.pinned (OpenSpec.ofChange fnExactTorusOfWrong)

/-- 'laws.FnExactSameSurface': WHATEVER THE INPUT: true; the input reads as it did. -/
def fnExactSameSurfaceSpec : ChangeSpec := { name := "fnExactSameSurface", fn := fun _ => fun
  | [d1, d2] => { results := [.lit (.bool true)], args := [d1, d2] }
  | _ => none }
def fnExactSameSurfaceRow : OpenClaim := { program := "ytlohmpgbjgidpab", sum := "3d77a95fea1fb479798971969bb0e9ac5724180697f35a173282b92dfc164d26", func := "loop.example/g00928/laws.FnExactSameSurface", spec := "fnExactSameSurface", apart := false }
def FnExactSameSurfaceSaid : Prop := fnExactSameSurfaceRow.holds Try.pinned (OpenSpec.ofChange fnExactSameSurfaceSpec)

/-- ITS FALSE NEIGHBOUR: 'it returns false'. Refute it at one input. -/
def fnExactSameSurfaceWrong : ChangeSpec := { name := "fnExactSameSurface", fn := fun _ => fun
  | [d1, d2] => { results := [.lit (.bool false)], args := [d1, d2] }
  | _ => none }
def FnExactSameSurfaceWrongFalsely : Prop := fnExactSameSurfaceRow.holds Try.pinned (OpenSpec.ofChange fnExactSameSurfaceWrong)

/-- 'laws.FnExactIsTransitive': WHATEVER THE INPUT: true; the input reads as it did. -/
def fnExactIsTransitiveSpec : ChangeSpec := { name := "fnExactIsTransitive", fn := fun _ => fun
  | [d1, d2] => { results := [.lit (.bool true)], args := [d1, d2] }
  | _ => none }
def fnExactIsTransitiveRow : OpenClaim := { program := "ytlohmpgbjgidpab", sum := "3d77a95fea1fb479798971969bb0e9ac5724180697f35a173282b92dfc164d26", func := "loop.example/g00928/laws.FnExactIsTransitive", spec := "fnExactIsTransitive", apart := false }
def FnExactIsTransitiveSaid : Prop := fnExactIsTransitiveRow.holds Try.pinned (OpenSpec.ofChange fnExactIsTransitiveSpec)

/-- ITS FALSE NEIGHBOUR: 'it returns false'. Refute it at one input. -/
def fnExactIsTransitiveWrong : ChangeSpec := { name := "fnExactIsTransitive", fn := fun _ => fun
  | [d1, d2] => { results := [.lit (.bool false)], args := [d1, d2] }
  | _ => none }
def FnExactIsTransitiveWrongFalsely : Prop := fnExactIsTransitiveRow.holds Try.pinned (OpenSpec.ofChange fnExactIsTransitiveWrong)

/-- 'laws.FnExactInversePerm': WHATEVER THE INPUT: true; the input reads as it did. -/
def fnExactInversePermSpec : ChangeSpec := { name := "fnExactInversePerm", fn := fun _ => fun
  | [d] => { results := [.lit (.bool true)], args := [d] }
  | _ => none }
def fnExactInversePermRow : OpenClaim := { program := "ytlohmpgbjgidpab", sum := "3d77a95fea1fb479798971969bb0e9ac5724180697f35a173282b92dfc164d26", func := "loop.example/g00928/laws.FnExactInversePerm", spec := "fnExactInversePerm", apart := false }
def FnExactInversePermSaid : Prop := fnExactInversePermRow.holds Try.pinned (OpenSpec.ofChange fnExactInversePermSpec)

/-- ITS FALSE NEIGHBOUR: 'it returns false'. Refute it at one input. -/
def fnExactInversePermWrong : ChangeSpec := { name := "fnExactInversePerm", fn := fun _ => fun
  | [d] => { results := [.lit (.bool false)], args := [d] }
  | _ => none }
def FnExactInversePermWrongFalsely : Prop := fnExactInversePermRow.holds Try.pinned (OpenSpec.ofChange fnExactInversePermWrong)

/-- 'laws.FnExactMatrixOf': WHATEVER THE INPUT: true; the input reads as it did. -/
def fnExactMatrixOfSpec : ChangeSpec := { name := "fnExactMatrixOf", fn := fun _ => fun
  | [d] => { results := [.lit (.bool true)], args := [d] }
  | _ => none }
def fnExactMatrixOfRow : OpenClaim := { program := "ytlohmpgbjgidpab", sum := "3d77a95fea1fb479798971969bb0e9ac5724180697f35a173282b92dfc164d26", func := "loop.example/g00928/laws.FnExactMatrixOf", spec := "fnExactMatrixOf", inPlace := ["internal/bytealg.IndexByteString"], apart := false }
def FnExactMatrixOfSaid : Prop := fnExactMatrixOfRow.holds Try.pinned (OpenSpec.ofChange fnExactMatrixOfSpec)

/-- ITS FALSE NEIGHBOUR: 'it returns false'. Refute it at one input. -/
def fnExactMatrixOfWrong : ChangeSpec := { name := "fnExactMatrixOf", fn := fun _ => fun
  | [d] => { results := [.lit (.bool false)], args := [d] }
  | _ => none }
def FnExactMatrixOfWrongFalsely : Prop := fnExactMatrixOfRow.holds Try.pinned (OpenSpec.ofChange fnExactMatrixOfWrong)

/-- 'laws.FnCorners': WHATEVER THE INPUT: true; the input reads as it did. -/
def fnCornersSpec : ChangeSpec := { name := "fnCorners", fn := fun _ => fun
  | [d] => { results := [.lit (.bool true)], args := [d] }
  | _ => none }
def fnCornersRow : OpenClaim := { program := "ytlohmpgbjgidpab", sum := "3d77a95fea1fb479798971969bb0e9ac5724180697f35a173282b92dfc164d26", func := "loop.example/g00928/laws.FnCorners", spec := "fnCorners", unfollowed := true, recurses := true, apart := false }
def FnCornersSaid : Prop := fnCornersRow.holds Try.pinned (OpenSpec.ofChange fnCornersSpec)

/-- ITS FALSE NEIGHBOUR: 'it returns false'. Refute it at one input. -/
def fnCornersWrong : ChangeSpec := { name := "fnCorners", fn := fun _ => fun
  | [d] => { results := [.lit (.bool false)], args := [d] }
  | _ => none }
def FnCornersWrongFalsely : Prop := fnCornersRow.holds Try.pinned (OpenSpec.ofChange fnCornersWrong)

/-- 'laws.FnExactRenamePerm': WHATEVER THE INPUT: true; the input reads as it did. -/
def fnExactRenamePermSpec : ChangeSpec := { name := "fnExactRenamePerm", fn := fun _ => fun
  | [d1, d2] => { results := [.lit (.bool true)], args := [d1, d2] }
  | _ => none }
def fnExactRenamePermRow : OpenClaim := { program := "ytlohmpgbjgidpab", sum := "3d77a95fea1fb479798971969bb0e9ac5724180697f35a173282b92dfc164d26", func := "loop.example/g00928/laws.FnExactRenamePerm", spec := "fnExactRenamePerm", apart := false }
def FnExactRenamePermSaid : Prop := fnExactRenamePermRow.holds Try.pinned (OpenSpec.ofChange fnExactRenamePermSpec)

/-- ITS FALSE NEIGHBOUR: 'it returns false'. Refute it at one input. -/
def fnExactRenamePermWrong : ChangeSpec := { name := "fnExactRenamePerm", fn := fun _ => fun
  | [d1, d2] => { results := [.lit (.bool false)], args := [d1, d2] }
  | _ => none }
def FnExactRenamePermWrongFalsely : Prop := fnExactRenamePermRow.holds Try.pinned (OpenSpec.ofChange fnExactRenamePermWrong)

/-- 'laws.FnExactThenPerm': WHATEVER THE INPUT: true; the input reads as it did. -/
def fnExactThenPermSpec : ChangeSpec := { name := "fnExactThenPerm", fn := fun _ => fun
  | [d1, d2] => { results := [.lit (.bool true)], args := [d1, d2] }
  | _ => none }
def fnExactThenPermRow : OpenClaim := { program := "ytlohmpgbjgidpab", sum := "3d77a95fea1fb479798971969bb0e9ac5724180697f35a173282b92dfc164d26", func := "loop.example/g00928/laws.FnExactThenPerm", spec := "fnExactThenPerm", apart := false }
def FnExactThenPermSaid : Prop := fnExactThenPermRow.holds Try.pinned (OpenSpec.ofChange fnExactThenPermSpec)

/-- ITS FALSE NEIGHBOUR: 'it returns false'. Refute it at one input. -/
def fnExactThenPermWrong : ChangeSpec := { name := "fnExactThenPerm", fn := fun _ => fun
  | [d1, d2] => { results := [.lit (.bool false)], args := [d1, d2] }
  | _ => none }
def FnExactThenPermWrongFalsely : Prop := fnExactThenPermRow.holds Try.pinned (OpenSpec.ofChange fnExactThenPermWrong)

/-- 'laws.FnExactEllOf': WHATEVER THE INPUT: true; the input reads as it did. -/
def fnExactEllOfSpec : ChangeSpec := { name := "fnExactEllOf", fn := fun _ => fun
  | [d1, d2] => { results := [.lit (.bool true)], args := [d1, d2] }
  | _ => none }
def fnExactEllOfRow : OpenClaim := { program := "ytlohmpgbjgidpab", sum := "3d77a95fea1fb479798971969bb0e9ac5724180697f35a173282b92dfc164d26", func := "loop.example/g00928/laws.FnExactEllOf", spec := "fnExactEllOf", apart := false }
def FnExactEllOfSaid : Prop := fnExactEllOfRow.holds Try.pinned (OpenSpec.ofChange fnExactEllOfSpec)

/-- ITS FALSE NEIGHBOUR: 'it returns false'. Refute it at one input. -/
def fnExactEllOfWrong : ChangeSpec := { name := "fnExactEllOf", fn := fun _ => fun
  | [d1, d2] => { results := [.lit (.bool false)], args := [d1, d2] }
  | _ => none }
def FnExactEllOfWrongFalsely : Prop := fnExactEllOfRow.holds Try.pinned (OpenSpec.ofChange fnExactEllOfWrong)

/-- 'laws.FnExactJoin': WHATEVER THE INPUT: true; the input reads as it did. -/
def fnExactJoinSpec : ChangeSpec := { name := "fnExactJoin", fn := fun _ => fun
  | [d1, d2] => { results := [.lit (.bool true)], args := [d1, d2] }
  | _ => none }
def fnExactJoinRow : OpenClaim := { program := "ytlohmpgbjgidpab", sum := "3d77a95fea1fb479798971969bb0e9ac5724180697f35a173282b92dfc164d26", func := "loop.example/g00928/laws.FnExactJoin", spec := "fnExactJoin", inPlace := ["internal/abi.NoEscape", "internal/bytealg.MakeNoZero"], apart := false }
def FnExactJoinSaid : Prop := fnExactJoinRow.holds Try.pinned (OpenSpec.ofChange fnExactJoinSpec)

/-- ITS FALSE NEIGHBOUR: 'it returns false'. Refute it at one input. -/
def fnExactJoinWrong : ChangeSpec := { name := "fnExactJoin", fn := fun _ => fun
  | [d1, d2] => { results := [.lit (.bool false)], args := [d1, d2] }
  | _ => none }
def FnExactJoinWrongFalsely : Prop := fnExactJoinRow.holds Try.pinned (OpenSpec.ofChange fnExactJoinWrong)

/-- 'laws.FnExactSurfaceOk': WHATEVER THE INPUT: true; the input reads as it did. -/
def fnExactSurfaceOkSpec : ChangeSpec := { name := "fnExactSurfaceOk", fn := fun _ => fun
  | [d] => { results := [.lit (.bool true)], args := [d] }
  | _ => none }
def fnExactSurfaceOkRow : OpenClaim := { program := "ytlohmpgbjgidpab", sum := "3d77a95fea1fb479798971969bb0e9ac5724180697f35a173282b92dfc164d26", func := "loop.example/g00928/laws.FnExactSurfaceOk", spec := "fnExactSurfaceOk", apart := false }
def FnExactSurfaceOkSaid : Prop := fnExactSurfaceOkRow.holds Try.pinned (OpenSpec.ofChange fnExactSurfaceOkSpec)

/-- ITS FALSE NEIGHBOUR: 'it returns false'. Refute it at one input. -/
def fnExactSurfaceOkWrong : ChangeSpec := { name := "fnExactSurfaceOk", fn := fun _ => fun
  | [d] => { results := [.lit (.bool false)], args := [d] }
  | _ => none }
def FnExactSurfaceOkWrongFalsely : Prop := fnExactSurfaceOkRow.holds Try.pinned (OpenSpec.ofChange fnExactSurfaceOkWrong)

/- THE SECOND FORM. 'bulk': how many values and letters a reading holds, each counted each time it is reached (what is shared counts as often as it is met; a slice's spare places count too). A statement '..UptoSaid' is the law's where the arguments, and the package variables that the reading takes, are together of bulk at most 1048576: NARROWER than '..Said'. Prove '..Said' where nothing that the law and all that it calls make is longer than what came in: it says more and counts as full. Else prove '..UptoSaid'. A law counts once. -/
mutual
def uptoBulk {H : Type} : DataW H → Nat
  | .lit (.string bytes) => bytes.length + 1
  | .lit _ => 1
  | .nil => 1
  | .ptr d => uptoBulk d + 1
  | .slice elems spare => uptoBulkAll elems + uptoBulkAll spare + 1
  | .agg parts => uptoBulkAll parts + 1
  | .iface _ d => uptoBulk d + 1
  | .map entries => uptoBulkEntries entries + 1
  | .held _ => 1
def uptoBulkAll {H : Type} : List (DataW H) → Nat
  | [] => 0
  | d :: r => uptoBulk d + uptoBulkAll r
def uptoBulkEntries {H : Type} : List (Lit × DataW H) → Nat
  | [] => 0
  | x :: r => uptoBulkEntry x + uptoBulkEntries r
def uptoBulkEntry {H : Type} : Lit × DataW H → Nat
  | (.string bytes, d) => bytes.length + uptoBulk d + 1
  | (_, d) => uptoBulk d + 1
 end
def uptoSmall : (H : Type) → List (DataW H) → Bool := fun _ ds => decide (uptoBulkAll ds ≤ 1048576)
def OpenSpec.upto (s : _root_.Go.ChangeSpec) : _root_.Go.OpenSpec := { _root_.Go.OpenSpec.ofChange s with cond := some uptoSmall }

/-- 'laws.FnExactSplitAny', WHERE WHAT IT READS IS OF BULK AT MOST 1048576: true; the input reads as it did. -/
def fnExactSplitAnyUptoRow : OpenClaim := { program := "ytlohmpgbjgidpab", sum := "3d77a95fea1fb479798971969bb0e9ac5724180697f35a173282b92dfc164d26", func := "loop.example/g00928/laws.FnExactSplitAny", spec := "fnExactSplitAny", inPlace := ["internal/bytealg.IndexByteString"], apart := false, narrowed := true }
def FnExactSplitAnyUptoSaid : Prop := fnExactSplitAnyUptoRow.holds Try.pinned (OpenSpec.upto fnExactSplitAnySpec)

/-- 'laws.FnExactTorusOf', WHERE WHAT IT READS IS OF BULK AT MOST 1048576: true; the input reads as it did. -/
def fnExactTorusOfUptoRow : OpenClaim := { program := "ytlohmpgbjgidpab", sum := "3d77a95fea1fb479798971969bb0e9ac5724180697f35a173282b92dfc164d26", func := "loop.example/g00928/laws.FnExactTorusOf", spec := "fnExactTorusOf", apart := false, narrowed := true }
def FnExactTorusOfUptoSaid : Prop := fnExactTorusOfUptoRow.holds Try.pinned (OpenSpec.upto fnExactTorusOfSpec)

/-- 'laws.FnExactSameSurface', WHERE WHAT IT READS IS OF BULK AT MOST 1048576: true; the input reads as it did. -/
def fnExactSameSurfaceUptoRow : OpenClaim := { program := "ytlohmpgbjgidpab", sum := "3d77a95fea1fb479798971969bb0e9ac5724180697f35a173282b92dfc164d26", func := "loop.example/g00928/laws.FnExactSameSurface", spec := "fnExactSameSurface", apart := false, narrowed := true }
def FnExactSameSurfaceUptoSaid : Prop := fnExactSameSurfaceUptoRow.holds Try.pinned (OpenSpec.upto fnExactSameSurfaceSpec)

/-- 'laws.FnExactIsTransitive', WHERE WHAT IT READS IS OF BULK AT MOST 1048576: true; the input reads as it did. -/
def fnExactIsTransitiveUptoRow : OpenClaim := { program := "ytlohmpgbjgidpab", sum := "3d77a95fea1fb479798971969bb0e9ac5724180697f35a173282b92dfc164d26", func := "loop.example/g00928/laws.FnExactIsTransitive", spec := "fnExactIsTransitive", apart := false, narrowed := true }
def FnExactIsTransitiveUptoSaid : Prop := fnExactIsTransitiveUptoRow.holds Try.pinned (OpenSpec.upto fnExactIsTransitiveSpec)

/-- 'laws.FnExactInversePerm', WHERE WHAT IT READS IS OF BULK AT MOST 1048576: true; the input reads as it did. -/
def fnExactInversePermUptoRow : OpenClaim := { program := "ytlohmpgbjgidpab", sum := "3d77a95fea1fb479798971969bb0e9ac5724180697f35a173282b92dfc164d26", func := "loop.example/g00928/laws.FnExactInversePerm", spec := "fnExactInversePerm", apart := false, narrowed := true }
def FnExactInversePermUptoSaid : Prop := fnExactInversePermUptoRow.holds Try.pinned (OpenSpec.upto fnExactInversePermSpec)

/-- 'laws.FnExactMatrixOf', WHERE WHAT IT READS IS OF BULK AT MOST 1048576: true; the input reads as it did. -/
def fnExactMatrixOfUptoRow : OpenClaim := { program := "ytlohmpgbjgidpab", sum := "3d77a95fea1fb479798971969bb0e9ac5724180697f35a173282b92dfc164d26", func := "loop.example/g00928/laws.FnExactMatrixOf", spec := "fnExactMatrixOf", inPlace := ["internal/bytealg.IndexByteString"], apart := false, narrowed := true }
def FnExactMatrixOfUptoSaid : Prop := fnExactMatrixOfUptoRow.holds Try.pinned (OpenSpec.upto fnExactMatrixOfSpec)

/-- 'laws.FnCorners', WHERE WHAT IT READS IS OF BULK AT MOST 1048576: true; the input reads as it did. -/
def fnCornersUptoRow : OpenClaim := { program := "ytlohmpgbjgidpab", sum := "3d77a95fea1fb479798971969bb0e9ac5724180697f35a173282b92dfc164d26", func := "loop.example/g00928/laws.FnCorners", spec := "fnCorners", unfollowed := true, recurses := true, apart := false, narrowed := true }
def FnCornersUptoSaid : Prop := fnCornersUptoRow.holds Try.pinned (OpenSpec.upto fnCornersSpec)

/-- 'laws.FnExactRenamePerm', WHERE WHAT IT READS IS OF BULK AT MOST 1048576: true; the input reads as it did. -/
def fnExactRenamePermUptoRow : OpenClaim := { program := "ytlohmpgbjgidpab", sum := "3d77a95fea1fb479798971969bb0e9ac5724180697f35a173282b92dfc164d26", func := "loop.example/g00928/laws.FnExactRenamePerm", spec := "fnExactRenamePerm", apart := false, narrowed := true }
def FnExactRenamePermUptoSaid : Prop := fnExactRenamePermUptoRow.holds Try.pinned (OpenSpec.upto fnExactRenamePermSpec)

/-- 'laws.FnExactThenPerm', WHERE WHAT IT READS IS OF BULK AT MOST 1048576: true; the input reads as it did. -/
def fnExactThenPermUptoRow : OpenClaim := { program := "ytlohmpgbjgidpab", sum := "3d77a95fea1fb479798971969bb0e9ac5724180697f35a173282b92dfc164d26", func := "loop.example/g00928/laws.FnExactThenPerm", spec := "fnExactThenPerm", apart := false, narrowed := true }
def FnExactThenPermUptoSaid : Prop := fnExactThenPermUptoRow.holds Try.pinned (OpenSpec.upto fnExactThenPermSpec)

/-- 'laws.FnExactEllOf', WHERE WHAT IT READS IS OF BULK AT MOST 1048576: true; the input reads as it did. -/
def fnExactEllOfUptoRow : OpenClaim := { program := "ytlohmpgbjgidpab", sum := "3d77a95fea1fb479798971969bb0e9ac5724180697f35a173282b92dfc164d26", func := "loop.example/g00928/laws.FnExactEllOf", spec := "fnExactEllOf", apart := false, narrowed := true }
def FnExactEllOfUptoSaid : Prop := fnExactEllOfUptoRow.holds Try.pinned (OpenSpec.upto fnExactEllOfSpec)

/-- 'laws.FnExactJoin', WHERE WHAT IT READS IS OF BULK AT MOST 1048576: true; the input reads as it did. -/
def fnExactJoinUptoRow : OpenClaim := { program := "ytlohmpgbjgidpab", sum := "3d77a95fea1fb479798971969bb0e9ac5724180697f35a173282b92dfc164d26", func := "loop.example/g00928/laws.FnExactJoin", spec := "fnExactJoin", inPlace := ["internal/abi.NoEscape", "internal/bytealg.MakeNoZero"], apart := false, narrowed := true }
def FnExactJoinUptoSaid : Prop := fnExactJoinUptoRow.holds Try.pinned (OpenSpec.upto fnExactJoinSpec)

/-- 'laws.FnExactSurfaceOk', WHERE WHAT IT READS IS OF BULK AT MOST 1048576: true; the input reads as it did. -/
def fnExactSurfaceOkUptoRow : OpenClaim := { program := "ytlohmpgbjgidpab", sum := "3d77a95fea1fb479798971969bb0e9ac5724180697f35a173282b92dfc164d26", func := "loop.example/g00928/laws.FnExactSurfaceOk", spec := "fnExactSurfaceOk", apart := false, narrowed := true }
def FnExactSurfaceOkUptoSaid : Prop := fnExactSurfaceOkUptoRow.holds Try.pinned (OpenSpec.upto fnExactSurfaceOkSpec)

end Rows
end Go.Proofs.Ytlohmpgbjgidpab
