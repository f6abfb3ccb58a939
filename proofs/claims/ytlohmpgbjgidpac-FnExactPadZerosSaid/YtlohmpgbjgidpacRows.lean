/-
  No cell of these rows narrows 'for every input' (looked for: loops, veiled, ifaces, maps, wideKeys, modest, calm, conditions, laid).
  DERIVED. THE GIVEN ROWS OF THIS SEAT. 12 by the template 'for every input the law returns true; each argument reads behind the call as it read before'; 0 by the template 'total and deterministic' (their statements: YtlohmpgbjgidpacTotals.lean).
  GIVEN WITH THE SEED: the statements are not yours to turn. If you find one false, say at which input.
  Laid BY PROGRAM, IN A SANDBOX (cutbox-rows.mjs): the forced cells as the released guide's own fill.sh prints them over the translation 841b205d96a6dfc7… (all of the seat's roots in one cut). By AI agents, Wed Nov 11 2026. No macro, syntax, notation, axiom, sorry.
-/
import Derived.Test.YtlohmpgbjgidpacChecked
import GoSem.Claim
import GoSem.ClaimJoined
import GoSem.ClaimMapViews
import Derived.JoinedTies
import Derived.KernelRfl
namespace Go.Proofs.Ytlohmpgbjgidpac
/- THE CELL 'sum', in the pinned program and in every row, IS THE sha256 OF THE DUMP (.gsa) THAT YtlohmpgbjgidpacProg.lean LOADS. Nothing in Lean hashes anything: it is a label: what it is worth is what the hold of that sum in a sandbox is worth. -/
noncomputable def Try.pinned : Pinned := { name := "ytlohmpgbjgidpac", sum := "841b205d96a6dfc7cce6c11837ed98a4fd46758ee8cce07de1c2613e22eeb57a", checked := Try.checked }
namespace Rows
def none {H : Type} : Left H := { results := [], args := [] }

/-- 'laws.FnExactCountSquares': WHATEVER THE INPUT: true; the input reads as it did. -/
def fnExactCountSquaresSpec : ChangeSpec := { name := "fnExactCountSquares", fn := fun _ => fun
  | [d] => { results := [.lit (.bool true)], args := [d] }
  | _ => none }
def fnExactCountSquaresRow : OpenClaim := { program := "ytlohmpgbjgidpac", sum := "841b205d96a6dfc7cce6c11837ed98a4fd46758ee8cce07de1c2613e22eeb57a", func := "loop.example/g00928/laws.FnExactCountSquares", spec := "fnExactCountSquares", apart := false }
def FnExactCountSquaresSaid : Prop := fnExactCountSquaresRow.holds Try.pinned (OpenSpec.ofChange fnExactCountSquaresSpec)

/-- ITS FALSE NEIGHBOUR: 'it returns false'. Refute it at one input. -/
def fnExactCountSquaresWrong : ChangeSpec := { name := "fnExactCountSquares", fn := fun _ => fun
  | [d] => { results := [.lit (.bool false)], args := [d] }
  | _ => none }
def FnExactCountSquaresWrongFalsely : Prop := fnExactCountSquaresRow.holds Try.pinned (OpenSpec.ofChange fnExactCountSquaresWrong)

/-- 'laws.FnExactCyclesOf': WHATEVER THE INPUT: true; the input reads as it did. -/
def fnExactCyclesOfSpec : ChangeSpec := { name := "fnExactCyclesOf", fn := fun _ => fun
  | [d] => { results := [.lit (.bool true)], args := [d] }
  | _ => none }
def fnExactCyclesOfRow : OpenClaim := { program := "ytlohmpgbjgidpac", sum := "841b205d96a6dfc7cce6c11837ed98a4fd46758ee8cce07de1c2613e22eeb57a", func := "loop.example/g00928/laws.FnExactCyclesOf", spec := "fnExactCyclesOf", apart := false }
def FnExactCyclesOfSaid : Prop := fnExactCyclesOfRow.holds Try.pinned (OpenSpec.ofChange fnExactCyclesOfSpec)

/-- ITS FALSE NEIGHBOUR: 'it returns false'. Refute it at one input. -/
def fnExactCyclesOfWrong : ChangeSpec := { name := "fnExactCyclesOf", fn := fun _ => fun
  | [d] => { results := [.lit (.bool false)], args := [d] }
  | _ => none }
def FnExactCyclesOfWrongFalsely : Prop := fnExactCyclesOfRow.holds Try.pinned (OpenSpec.ofChange fnExactCyclesOfWrong)

/-- 'laws.FnPerms': WHATEVER THE INPUT: true; the input reads as it did. -/
def fnPermsSpec : ChangeSpec := { name := "fnPerms", fn := fun _ => fun
  | [d] => { results := [.lit (.bool true)], args := [d] }
  | _ => none }
def fnPermsRow : OpenClaim := { program := "ytlohmpgbjgidpac", sum := "841b205d96a6dfc7cce6c11837ed98a4fd46758ee8cce07de1c2613e22eeb57a", func := "loop.example/g00928/laws.FnPerms", spec := "fnPerms", apart := false }
def FnPermsSaid : Prop := fnPermsRow.holds Try.pinned (OpenSpec.ofChange fnPermsSpec)

/-- ITS FALSE NEIGHBOUR: 'it returns false'. Refute it at one input. -/
def fnPermsWrong : ChangeSpec := { name := "fnPerms", fn := fun _ => fun
  | [d] => { results := [.lit (.bool false)], args := [d] }
  | _ => none }
def FnPermsWrongFalsely : Prop := fnPermsRow.holds Try.pinned (OpenSpec.ofChange fnPermsWrong)

/-- 'laws.FnExactPadZeros': WHATEVER THE INPUT: true; the input reads as it did. -/
def fnExactPadZerosSpec : ChangeSpec := { name := "fnExactPadZeros", fn := fun _ => fun
  | [d1, d2] => { results := [.lit (.bool true)], args := [d1, d2] }
  | _ => none }
def fnExactPadZerosRow : OpenClaim := { program := "ytlohmpgbjgidpac", sum := "841b205d96a6dfc7cce6c11837ed98a4fd46758ee8cce07de1c2613e22eeb57a", func := "loop.example/g00928/laws.FnExactPadZeros", spec := "fnExactPadZeros", inPlace := ["internal/abi.NoEscape", "internal/bytealg.MakeNoZero"], apart := false }
def FnExactPadZerosSaid : Prop := fnExactPadZerosRow.holds Try.pinned (OpenSpec.ofChange fnExactPadZerosSpec)

/-- ITS FALSE NEIGHBOUR: 'it returns false'. Refute it at one input. -/
def fnExactPadZerosWrong : ChangeSpec := { name := "fnExactPadZeros", fn := fun _ => fun
  | [d1, d2] => { results := [.lit (.bool false)], args := [d1, d2] }
  | _ => none }
def FnExactPadZerosWrongFalsely : Prop := fnExactPadZerosRow.holds Try.pinned (OpenSpec.ofChange fnExactPadZerosWrong)

/-- 'laws.FnExactIsRegularCorner': WHATEVER THE INPUT: true; the input reads as it did. -/
def fnExactIsRegularCornerSpec : ChangeSpec := { name := "fnExactIsRegularCorner", fn := fun _ => fun
  | [d1, d2] => { results := [.lit (.bool true)], args := [d1, d2] }
  | _ => none }
def fnExactIsRegularCornerRow : OpenClaim := { program := "ytlohmpgbjgidpac", sum := "841b205d96a6dfc7cce6c11837ed98a4fd46758ee8cce07de1c2613e22eeb57a", func := "loop.example/g00928/laws.FnExactIsRegularCorner", spec := "fnExactIsRegularCorner", apart := false }
def FnExactIsRegularCornerSaid : Prop := fnExactIsRegularCornerRow.holds Try.pinned (OpenSpec.ofChange fnExactIsRegularCornerSpec)

/-- ITS FALSE NEIGHBOUR: 'it returns false'. Refute it at one input. -/
def fnExactIsRegularCornerWrong : ChangeSpec := { name := "fnExactIsRegularCorner", fn := fun _ => fun
  | [d1, d2] => { results := [.lit (.bool false)], args := [d1, d2] }
  | _ => none }
def FnExactIsRegularCornerWrongFalsely : Prop := fnExactIsRegularCornerRow.holds Try.pinned (OpenSpec.ofChange fnExactIsRegularCornerWrong)

/-- 'laws.FnExactNamesFrom': WHATEVER THE INPUT: true; the input reads as it did. -/
def fnExactNamesFromSpec : ChangeSpec := { name := "fnExactNamesFrom", fn := fun _ => fun
  | [d1, d2] => { results := [.lit (.bool true)], args := [d1, d2] }
  | _ => none }
def fnExactNamesFromRow : OpenClaim := { program := "ytlohmpgbjgidpac", sum := "841b205d96a6dfc7cce6c11837ed98a4fd46758ee8cce07de1c2613e22eeb57a", func := "loop.example/g00928/laws.FnExactNamesFrom", spec := "fnExactNamesFrom", apart := false }
def FnExactNamesFromSaid : Prop := fnExactNamesFromRow.holds Try.pinned (OpenSpec.ofChange fnExactNamesFromSpec)

/-- ITS FALSE NEIGHBOUR: 'it returns false'. Refute it at one input. -/
def fnExactNamesFromWrong : ChangeSpec := { name := "fnExactNamesFrom", fn := fun _ => fun
  | [d1, d2] => { results := [.lit (.bool false)], args := [d1, d2] }
  | _ => none }
def FnExactNamesFromWrongFalsely : Prop := fnExactNamesFromRow.holds Try.pinned (OpenSpec.ofChange fnExactNamesFromWrong)

/-- 'laws.FnExactRenameSurface': WHATEVER THE INPUT: true; the input reads as it did. -/
def fnExactRenameSurfaceSpec : ChangeSpec := { name := "fnExactRenameSurface", fn := fun _ => fun
  | [d1, d2] => { results := [.lit (.bool true)], args := [d1, d2] }
  | _ => none }
def fnExactRenameSurfaceRow : OpenClaim := { program := "ytlohmpgbjgidpac", sum := "841b205d96a6dfc7cce6c11837ed98a4fd46758ee8cce07de1c2613e22eeb57a", func := "loop.example/g00928/laws.FnExactRenameSurface", spec := "fnExactRenameSurface", apart := false }
def FnExactRenameSurfaceSaid : Prop := fnExactRenameSurfaceRow.holds Try.pinned (OpenSpec.ofChange fnExactRenameSurfaceSpec)

/-- ITS FALSE NEIGHBOUR: 'it returns false'. Refute it at one input. -/
def fnExactRenameSurfaceWrong : ChangeSpec := { name := "fnExactRenameSurface", fn := fun _ => fun
  | [d1, d2] => { results := [.lit (.bool false)], args := [d1, d2] }
  | _ => none }
def FnExactRenameSurfaceWrongFalsely : Prop := fnExactRenameSurfaceRow.holds Try.pinned (OpenSpec.ofChange fnExactRenameSurfaceWrong)

/-- 'laws.FnExactTurnSurface': WHATEVER THE INPUT: true; the input reads as it did. -/
def fnExactTurnSurfaceSpec : ChangeSpec := { name := "fnExactTurnSurface", fn := fun _ => fun
  | [d] => { results := [.lit (.bool true)], args := [d] }
  | _ => none }
def fnExactTurnSurfaceRow : OpenClaim := { program := "ytlohmpgbjgidpac", sum := "841b205d96a6dfc7cce6c11837ed98a4fd46758ee8cce07de1c2613e22eeb57a", func := "loop.example/g00928/laws.FnExactTurnSurface", spec := "fnExactTurnSurface", apart := false }
def FnExactTurnSurfaceSaid : Prop := fnExactTurnSurfaceRow.holds Try.pinned (OpenSpec.ofChange fnExactTurnSurfaceSpec)

/-- ITS FALSE NEIGHBOUR: 'it returns false'. Refute it at one input. -/
def fnExactTurnSurfaceWrong : ChangeSpec := { name := "fnExactTurnSurface", fn := fun _ => fun
  | [d] => { results := [.lit (.bool false)], args := [d] }
  | _ => none }
def FnExactTurnSurfaceWrongFalsely : Prop := fnExactTurnSurfaceRow.holds Try.pinned (OpenSpec.ofChange fnExactTurnSurfaceWrong)

/-- 'laws.FnExactUnshearSurface': WHATEVER THE INPUT: true; the input reads as it did. -/
def fnExactUnshearSurfaceSpec : ChangeSpec := { name := "fnExactUnshearSurface", fn := fun _ => fun
  | [d] => { results := [.lit (.bool true)], args := [d] }
  | _ => none }
def fnExactUnshearSurfaceRow : OpenClaim := { program := "ytlohmpgbjgidpac", sum := "841b205d96a6dfc7cce6c11837ed98a4fd46758ee8cce07de1c2613e22eeb57a", func := "loop.example/g00928/laws.FnExactUnshearSurface", spec := "fnExactUnshearSurface", apart := false }
def FnExactUnshearSurfaceSaid : Prop := fnExactUnshearSurfaceRow.holds Try.pinned (OpenSpec.ofChange fnExactUnshearSurfaceSpec)

/-- ITS FALSE NEIGHBOUR: 'it returns false'. Refute it at one input. -/
def fnExactUnshearSurfaceWrong : ChangeSpec := { name := "fnExactUnshearSurface", fn := fun _ => fun
  | [d] => { results := [.lit (.bool false)], args := [d] }
  | _ => none }
def FnExactUnshearSurfaceWrongFalsely : Prop := fnExactUnshearSurfaceRow.holds Try.pinned (OpenSpec.ofChange fnExactUnshearSurfaceWrong)

/-- 'laws.FnExactUnturnSurface': WHATEVER THE INPUT: true; the input reads as it did. -/
def fnExactUnturnSurfaceSpec : ChangeSpec := { name := "fnExactUnturnSurface", fn := fun _ => fun
  | [d] => { results := [.lit (.bool true)], args := [d] }
  | _ => none }
def fnExactUnturnSurfaceRow : OpenClaim := { program := "ytlohmpgbjgidpac", sum := "841b205d96a6dfc7cce6c11837ed98a4fd46758ee8cce07de1c2613e22eeb57a", func := "loop.example/g00928/laws.FnExactUnturnSurface", spec := "fnExactUnturnSurface", apart := false }
def FnExactUnturnSurfaceSaid : Prop := fnExactUnturnSurfaceRow.holds Try.pinned (OpenSpec.ofChange fnExactUnturnSurfaceSpec)

/-- ITS FALSE NEIGHBOUR: 'it returns false'. Refute it at one input. -/
def fnExactUnturnSurfaceWrong : ChangeSpec := { name := "fnExactUnturnSurface", fn := fun _ => fun
  | [d] => { results := [.lit (.bool false)], args := [d] }
  | _ => none }
def FnExactUnturnSurfaceWrongFalsely : Prop := fnExactUnturnSurfaceRow.holds Try.pinned (OpenSpec.ofChange fnExactUnturnSurfaceWrong)

/-- 'laws.FnExactAroundOf': WHATEVER THE INPUT: true; the input reads as it did. -/
def fnExactAroundOfSpec : ChangeSpec := { name := "fnExactAroundOf", fn := fun _ => fun
  | [d] => { results := [.lit (.bool true)], args := [d] }
  | _ => none }
def fnExactAroundOfRow : OpenClaim := { program := "ytlohmpgbjgidpac", sum := "841b205d96a6dfc7cce6c11837ed98a4fd46758ee8cce07de1c2613e22eeb57a", func := "loop.example/g00928/laws.FnExactAroundOf", spec := "fnExactAroundOf", apart := false }
def FnExactAroundOfSaid : Prop := fnExactAroundOfRow.holds Try.pinned (OpenSpec.ofChange fnExactAroundOfSpec)

/-- ITS FALSE NEIGHBOUR: 'it returns false'. Refute it at one input. -/
def fnExactAroundOfWrong : ChangeSpec := { name := "fnExactAroundOf", fn := fun _ => fun
  | [d] => { results := [.lit (.bool false)], args := [d] }
  | _ => none }
def FnExactAroundOfWrongFalsely : Prop := fnExactAroundOfRow.holds Try.pinned (OpenSpec.ofChange fnExactAroundOfWrong)

/-- 'laws.FnExactShearSurface': WHATEVER THE INPUT: true; the input reads as it did. -/
def fnExactShearSurfaceSpec : ChangeSpec := { name := "fnExactShearSurface", fn := fun _ => fun
  | [d] => { results := [.lit (.bool true)], args := [d] }
  | _ => none }
def fnExactShearSurfaceRow : OpenClaim := { program := "ytlohmpgbjgidpac", sum := "841b205d96a6dfc7cce6c11837ed98a4fd46758ee8cce07de1c2613e22eeb57a", func := "loop.example/g00928/laws.FnExactShearSurface", spec := "fnExactShearSurface", apart := false }
def FnExactShearSurfaceSaid : Prop := fnExactShearSurfaceRow.holds Try.pinned (OpenSpec.ofChange fnExactShearSurfaceSpec)

/-- ITS FALSE NEIGHBOUR: 'it returns false'. Refute it at one input. -/
def fnExactShearSurfaceWrong : ChangeSpec := { name := "fnExactShearSurface", fn := fun _ => fun
  | [d] => { results := [.lit (.bool false)], args := [d] }
  | _ => none }
def FnExactShearSurfaceWrongFalsely : Prop := fnExactShearSurfaceRow.holds Try.pinned (OpenSpec.ofChange fnExactShearSurfaceWrong)

/- THE SECOND FORM. 'bulk': how many values and letters a reading holds, each counted each time it is reached (what is shared counts as often as it is met; a slice's spare places count too). A statement '..UptoSaid' is the law's where the arguments, and the package variables that the reading takes, are together of bulk at most 1048576: NARROWER than '..Said'. Prove '..Said' where nothing that the law and all that it calls make is longer than what came in: it says more and counts as full. Else prove '..UptoSaid'. A law counts once. -/
mutual
def uptoBulk {H : Type} : DataW H → Nat
  | .lit (.string bytes) => bytes.length + 1
  | .lit _ => 1
  | .nil => 1
  | .ptr d => uptoBulk d + 1
  | .slice elems spare => uptoBulkAll elems + uptoBulkAll spare + 1
  | .agg parts => uptoBulkAll parts + 1
  | .iface _ d => uptoBulk d + 1
  | .map entries => uptoBulkEntries entries + 1
  | .held _ => 1
def uptoBulkAll {H : Type} : List (DataW H) → Nat
  | [] => 0
  | d :: r => uptoBulk d + uptoBulkAll r
def uptoBulkEntries {H : Type} : List (Lit × DataW H) → Nat
  | [] => 0
  | x :: r => uptoBulkEntry x + uptoBulkEntries r
def uptoBulkEntry {H : Type} : Lit × DataW H → Nat
  | (.string bytes, d) => bytes.length + uptoBulk d + 1
  | (_, d) => uptoBulk d + 1
 end
def uptoSmall : (H : Type) → List (DataW H) → Bool := fun _ ds => decide (uptoBulkAll ds ≤ 1048576)
def OpenSpec.upto (s : _root_.Go.ChangeSpec) : _root_.Go.OpenSpec := { _root_.Go.OpenSpec.ofChange s with cond := some uptoSmall }

/-- 'laws.FnExactCountSquares', WHERE WHAT IT READS IS OF BULK AT MOST 1048576: true; the input reads as it did. -/
def fnExactCountSquaresUptoRow : OpenClaim := { program := "ytlohmpgbjgidpac", sum := "841b205d96a6dfc7cce6c11837ed98a4fd46758ee8cce07de1c2613e22eeb57a", func := "loop.example/g00928/laws.FnExactCountSquares", spec := "fnExactCountSquares", apart := false, narrowed := true }
def FnExactCountSquaresUptoSaid : Prop := fnExactCountSquaresUptoRow.holds Try.pinned (OpenSpec.upto fnExactCountSquaresSpec)

/-- 'laws.FnExactCyclesOf', WHERE WHAT IT READS IS OF BULK AT MOST 1048576: true; the input reads as it did. -/
def fnExactCyclesOfUptoRow : OpenClaim := { program := "ytlohmpgbjgidpac", sum := "841b205d96a6dfc7cce6c11837ed98a4fd46758ee8cce07de1c2613e22eeb57a", func := "loop.example/g00928/laws.FnExactCyclesOf", spec := "fnExactCyclesOf", apart := false, narrowed := true }
def FnExactCyclesOfUptoSaid : Prop := fnExactCyclesOfUptoRow.holds Try.pinned (OpenSpec.upto fnExactCyclesOfSpec)

/-- 'laws.FnPerms', WHERE WHAT IT READS IS OF BULK AT MOST 1048576: true; the input reads as it did. -/
def fnPermsUptoRow : OpenClaim := { program := "ytlohmpgbjgidpac", sum := "841b205d96a6dfc7cce6c11837ed98a4fd46758ee8cce07de1c2613e22eeb57a", func := "loop.example/g00928/laws.FnPerms", spec := "fnPerms", apart := false, narrowed := true }
def FnPermsUptoSaid : Prop := fnPermsUptoRow.holds Try.pinned (OpenSpec.upto fnPermsSpec)

/-- 'laws.FnExactPadZeros', WHERE WHAT IT READS IS OF BULK AT MOST 1048576: true; the input reads as it did. -/
def fnExactPadZerosUptoRow : OpenClaim := { program := "ytlohmpgbjgidpac", sum := "841b205d96a6dfc7cce6c11837ed98a4fd46758ee8cce07de1c2613e22eeb57a", func := "loop.example/g00928/laws.FnExactPadZeros", spec := "fnExactPadZeros", inPlace := ["internal/abi.NoEscape", "internal/bytealg.MakeNoZero"], apart := false, narrowed := true }
def FnExactPadZerosUptoSaid : Prop := fnExactPadZerosUptoRow.holds Try.pinned (OpenSpec.upto fnExactPadZerosSpec)

/-- 'laws.FnExactIsRegularCorner', WHERE WHAT IT READS IS OF BULK AT MOST 1048576: true; the input reads as it did. -/
def fnExactIsRegularCornerUptoRow : OpenClaim := { program := "ytlohmpgbjgidpac", sum := "841b205d96a6dfc7cce6c11837ed98a4fd46758ee8cce07de1c2613e22eeb57a", func := "loop.example/g00928/laws.FnExactIsRegularCorner", spec := "fnExactIsRegularCorner", apart := false, narrowed := true }
def FnExactIsRegularCornerUptoSaid : Prop := fnExactIsRegularCornerUptoRow.holds Try.pinned (OpenSpec.upto fnExactIsRegularCornerSpec)

/-- 'laws.FnExactNamesFrom', WHERE WHAT IT READS IS OF BULK AT MOST 1048576: true; the input reads as it did. -/
def fnExactNamesFromUptoRow : OpenClaim := { program := "ytlohmpgbjgidpac", sum := "841b205d96a6dfc7cce6c11837ed98a4fd46758ee8cce07de1c2613e22eeb57a", func := "loop.example/g00928/laws.FnExactNamesFrom", spec := "fnExactNamesFrom", apart := false, narrowed := true }
def FnExactNamesFromUptoSaid : Prop := fnExactNamesFromUptoRow.holds Try.pinned (OpenSpec.upto fnExactNamesFromSpec)

/-- 'laws.FnExactRenameSurface', WHERE WHAT IT READS IS OF BULK AT MOST 1048576: true; the input reads as it did. -/
def fnExactRenameSurfaceUptoRow : OpenClaim := { program := "ytlohmpgbjgidpac", sum := "841b205d96a6dfc7cce6c11837ed98a4fd46758ee8cce07de1c2613e22eeb57a", func := "loop.example/g00928/laws.FnExactRenameSurface", spec := "fnExactRenameSurface", apart := false, narrowed := true }
def FnExactRenameSurfaceUptoSaid : Prop := fnExactRenameSurfaceUptoRow.holds Try.pinned (OpenSpec.upto fnExactRenameSurfaceSpec)

/-- 'laws.FnExactTurnSurface', WHERE WHAT IT READS IS OF BULK AT MOST 1048576: true; the input reads as it did. -/
def fnExactTurnSurfaceUptoRow : OpenClaim := { program := "ytlohmpgbjgidpac", sum := "841b205d96a6dfc7cce6c11837ed98a4fd46758ee8cce07de1c2613e22eeb57a", func := "loop.example/g00928/laws.FnExactTurnSurface", spec := "fnExactTurnSurface", apart := false, narrowed := true }
def FnExactTurnSurfaceUptoSaid : Prop := fnExactTurnSurfaceUptoRow.holds Try.pinned (OpenSpec.upto fnExactTurnSurfaceSpec)

/-- 'laws.FnExactUnshearSurface', WHERE WHAT IT READS IS OF BULK AT MOST 1048576: true; the input reads as it did. -/
def fnExactUnshearSurfaceUptoRow : OpenClaim := { program := "ytlohmpgbjgidpac", sum := "841b205d96a6dfc7cce6c11837ed98a4fd46758ee8cce07de1c2613e22eeb57a", func := "loop.example/g00928/laws.FnExactUnshearSurface", spec := "fnExactUnshearSurface", apart := false, narrowed := true }
def FnExactUnshearSurfaceUptoSaid : Prop := fnExactUnshearSurfaceUptoRow.holds Try.pinned (OpenSpec.upto fnExactUnshearSurfaceSpec)

/-- 'laws.FnExactUnturnSurface', WHERE WHAT IT READS IS OF BULK AT MOST 1048576: true; the input reads as it did. -/
def fnExactUnturnSurfaceUptoRow : OpenClaim := { program := "ytlohmpgbjgidpac", sum := "841b205d96a6dfc7cce6c11837ed98a4fd46758ee8cce07de1c2613e22eeb57a", func := "loop.example/g00928/laws.FnExactUnturnSurface", spec := "fnExactUnturnSurface", apart := false, narrowed := true }
def FnExactUnturnSurfaceUptoSaid : Prop := fnExactUnturnSurfaceUptoRow.holds Try.pinned (OpenSpec.upto fnExactUnturnSurfaceSpec)

/-- 'laws.FnExactAroundOf', WHERE WHAT IT READS IS OF BULK AT MOST 1048576: true; the input reads as it did. -/
def fnExactAroundOfUptoRow : OpenClaim := { program := "ytlohmpgbjgidpac", sum := "841b205d96a6dfc7cce6c11837ed98a4fd46758ee8cce07de1c2613e22eeb57a", func := "loop.example/g00928/laws.FnExactAroundOf", spec := "fnExactAroundOf", apart := false, narrowed := true }
def FnExactAroundOfUptoSaid : Prop := fnExactAroundOfUptoRow.holds Try.pinned (OpenSpec.upto fnExactAroundOfSpec)

/-- 'laws.FnExactShearSurface', WHERE WHAT IT READS IS OF BULK AT MOST 1048576: true; the input reads as it did. -/
def fnExactShearSurfaceUptoRow : OpenClaim := { program := "ytlohmpgbjgidpac", sum := "841b205d96a6dfc7cce6c11837ed98a4fd46758ee8cce07de1c2613e22eeb57a", func := "loop.example/g00928/laws.FnExactShearSurface", spec := "fnExactShearSurface", apart := false, narrowed := true }
def FnExactShearSurfaceUptoSaid : Prop := fnExactShearSurfaceUptoRow.holds Try.pinned (OpenSpec.upto fnExactShearSurfaceSpec)

end Rows
end Go.Proofs.Ytlohmpgbjgidpac
