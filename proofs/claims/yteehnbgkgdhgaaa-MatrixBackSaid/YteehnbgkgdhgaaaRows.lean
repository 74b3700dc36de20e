/-
  No cell of these rows narrows 'for every input' (looked for: loops, veiled, ifaces, maps, wideKeys, modest, calm, conditions, laid).
  DERIVED. THE GIVEN ROWS OF THIS SEAT. 15 by the template 'for every input the law returns true; each argument reads behind the call as it read before'; 0 by the template 'total and deterministic' (their statements: YteehnbgkgdhgaaaTotals.lean).
  GIVEN WITH THE SEED: the statements are not yours to turn. If you find one false, say at which input.
  Laid BY PROGRAM, IN A SANDBOX (cutbox-rows.mjs): the forced cells as the released guide's own fill.sh prints them over the translation 60332d4ef392e064… (all of the seat's roots in one cut). By AI agents, Wed Nov 11 2026. No macro, syntax, notation, axiom, sorry.
-/
import Derived.Test.YteehnbgkgdhgaaaChecked
import GoSem.Claim
import GoSem.ClaimJoined
import GoSem.ClaimMapViews
import Derived.JoinedTies
import Derived.KernelRfl
namespace Go.Proofs.Yteehnbgkgdhgaaa
/- THE CELL 'sum', in the pinned program and in every row, IS THE sha256 OF THE DUMP (.gsa) THAT YteehnbgkgdhgaaaProg.lean LOADS. Nothing in Lean hashes anything: it is a label: what it is worth is what the hold of that sum in a sandbox is worth. -/
noncomputable def Try.pinned : Pinned := { name := "yteehnbgkgdhgaaa", sum := "60332d4ef392e064cb3733f59c0a1a49e707f54a6b9b594e5a054c478aaeb892", checked := Try.checked }
namespace Rows
def none {H : Type} : Left H := { results := [], args := [] }

/-- 'imageeditorlaw08.MatrixApplies': WHATEVER THE INPUT: true; the input reads as it did. -/
def matrixAppliesSpec : ChangeSpec := { name := "matrixApplies", fn := fun _ => fun
  | [d1, d2] => { results := [.lit (.bool true)], args := [d1, d2] }
  | _ => none }
def matrixAppliesRow : OpenClaim := { program := "yteehnbgkgdhgaaa", sum := "60332d4ef392e064cb3733f59c0a1a49e707f54a6b9b594e5a054c478aaeb892", func := "imageeditor/imageeditorlaw08.MatrixApplies", spec := "matrixApplies", apart := false }
def MatrixAppliesSaid : Prop := matrixAppliesRow.holds Try.pinned (OpenSpec.ofChange matrixAppliesSpec)

/-- ITS FALSE NEIGHBOUR: 'it returns false'. Refute it at one input. -/
def matrixAppliesWrong : ChangeSpec := { name := "matrixApplies", fn := fun _ => fun
  | [d1, d2] => { results := [.lit (.bool false)], args := [d1, d2] }
  | _ => none }
def MatrixAppliesWrongFalsely : Prop := matrixAppliesRow.holds Try.pinned (OpenSpec.ofChange matrixAppliesWrong)

/-- 'imageeditorlaw08.MatrixUnit': WHATEVER THE INPUT: true; the input reads as it did. -/
def matrixUnitSpec : ChangeSpec := { name := "matrixUnit", fn := fun _ => fun
  | [d1, d2] => { results := [.lit (.bool true)], args := [d1, d2] }
  | _ => none }
def matrixUnitRow : OpenClaim := { program := "yteehnbgkgdhgaaa", sum := "60332d4ef392e064cb3733f59c0a1a49e707f54a6b9b594e5a054c478aaeb892", func := "imageeditor/imageeditorlaw08.MatrixUnit", spec := "matrixUnit", apart := false }
def MatrixUnitSaid : Prop := matrixUnitRow.holds Try.pinned (OpenSpec.ofChange matrixUnitSpec)

/-- ITS FALSE NEIGHBOUR: 'it returns false'. Refute it at one input. -/
def matrixUnitWrong : ChangeSpec := { name := "matrixUnit", fn := fun _ => fun
  | [d1, d2] => { results := [.lit (.bool false)], args := [d1, d2] }
  | _ => none }
def MatrixUnitWrongFalsely : Prop := matrixUnitRow.holds Try.pinned (OpenSpec.ofChange matrixUnitWrong)

/-- 'imageeditorlaw08.MatrixBack': WHATEVER THE INPUT: true; the input reads as it did. -/
def matrixBackSpec : ChangeSpec := { name := "matrixBack", fn := fun _ => fun
  | [d] => { results := [.lit (.bool true)], args := [d] }
  | _ => none }
def matrixBackRow : OpenClaim := { program := "yteehnbgkgdhgaaa", sum := "60332d4ef392e064cb3733f59c0a1a49e707f54a6b9b594e5a054c478aaeb892", func := "imageeditor/imageeditorlaw08.MatrixBack", spec := "matrixBack", apart := false }
def MatrixBackSaid : Prop := matrixBackRow.holds Try.pinned (OpenSpec.ofChange matrixBackSpec)

/-- ITS FALSE NEIGHBOUR: 'it returns false'. Refute it at one input. -/
def matrixBackWrong : ChangeSpec := { name := "matrixBack", fn := fun _ => fun
  | [d] => { results := [.lit (.bool false)], args := [d] }
  | _ => none }
def MatrixBackWrongFalsely : Prop := matrixBackRow.holds Try.pinned (OpenSpec.ofChange matrixBackWrong)

/-- 'imageeditorlaw08.MatrixDets': WHATEVER THE INPUT: true; the input reads as it did. -/
def matrixDetsSpec : ChangeSpec := { name := "matrixDets", fn := fun _ => fun
  | [d1, d2] => { results := [.lit (.bool true)], args := [d1, d2] }
  | _ => none }
def matrixDetsRow : OpenClaim := { program := "yteehnbgkgdhgaaa", sum := "60332d4ef392e064cb3733f59c0a1a49e707f54a6b9b594e5a054c478aaeb892", func := "imageeditor/imageeditorlaw08.MatrixDets", spec := "matrixDets", apart := false }
def MatrixDetsSaid : Prop := matrixDetsRow.holds Try.pinned (OpenSpec.ofChange matrixDetsSpec)

/-- ITS FALSE NEIGHBOUR: 'it returns false'. Refute it at one input. -/
def matrixDetsWrong : ChangeSpec := { name := "matrixDets", fn := fun _ => fun
  | [d1, d2] => { results := [.lit (.bool false)], args := [d1, d2] }
  | _ => none }
def MatrixDetsWrongFalsely : Prop := matrixDetsRow.holds Try.pinned (OpenSpec.ofChange matrixDetsWrong)

/-- 'imageeditorlaw08.MatrixProducts': WHATEVER THE INPUT: true; the input reads as it did. -/
def matrixProductsSpec : ChangeSpec := { name := "matrixProducts", fn := fun _ => fun
  | [d1, d2] => { results := [.lit (.bool true)], args := [d1, d2] }
  | _ => none }
def matrixProductsRow : OpenClaim := { program := "yteehnbgkgdhgaaa", sum := "60332d4ef392e064cb3733f59c0a1a49e707f54a6b9b594e5a054c478aaeb892", func := "imageeditor/imageeditorlaw08.MatrixProducts", spec := "matrixProducts", apart := false }
def MatrixProductsSaid : Prop := matrixProductsRow.holds Try.pinned (OpenSpec.ofChange matrixProductsSpec)

/-- ITS FALSE NEIGHBOUR: 'it returns false'. Refute it at one input. -/
def matrixProductsWrong : ChangeSpec := { name := "matrixProducts", fn := fun _ => fun
  | [d1, d2] => { results := [.lit (.bool false)], args := [d1, d2] }
  | _ => none }
def MatrixProductsWrongFalsely : Prop := matrixProductsRow.holds Try.pinned (OpenSpec.ofChange matrixProductsWrong)

/-- 'imageeditorlaw08.MatrixTurns': WHATEVER THE INPUT: true; the input reads as it did. -/
def matrixTurnsSpec : ChangeSpec := { name := "matrixTurns", fn := fun _ => fun
  | [d1, d2] => { results := [.lit (.bool true)], args := [d1, d2] }
  | _ => none }
def matrixTurnsRow : OpenClaim := { program := "yteehnbgkgdhgaaa", sum := "60332d4ef392e064cb3733f59c0a1a49e707f54a6b9b594e5a054c478aaeb892", func := "imageeditor/imageeditorlaw08.MatrixTurns", spec := "matrixTurns", apart := false }
def MatrixTurnsSaid : Prop := matrixTurnsRow.holds Try.pinned (OpenSpec.ofChange matrixTurnsSpec)

/-- ITS FALSE NEIGHBOUR: 'it returns false'. Refute it at one input. -/
def matrixTurnsWrong : ChangeSpec := { name := "matrixTurns", fn := fun _ => fun
  | [d1, d2] => { results := [.lit (.bool false)], args := [d1, d2] }
  | _ => none }
def MatrixTurnsWrongFalsely : Prop := matrixTurnsRow.holds Try.pinned (OpenSpec.ofChange matrixTurnsWrong)

/-- 'imageeditorlaw01.NumDivides': WHATEVER THE INPUT: true; the input reads as it did. -/
def numDividesSpec : ChangeSpec := { name := "numDivides", fn := fun _ => fun
  | [d1, d2, d3] => { results := [.lit (.bool true)], args := [d1, d2, d3] }
  | _ => none }
def numDividesRow : OpenClaim := { program := "yteehnbgkgdhgaaa", sum := "60332d4ef392e064cb3733f59c0a1a49e707f54a6b9b594e5a054c478aaeb892", func := "imageeditor/imageeditorlaw01.NumDivides", spec := "numDivides", apart := false }
def NumDividesSaid : Prop := numDividesRow.holds Try.pinned (OpenSpec.ofChange numDividesSpec)

/-- ITS FALSE NEIGHBOUR: 'it returns false'. Refute it at one input. -/
def numDividesWrong : ChangeSpec := { name := "numDivides", fn := fun _ => fun
  | [d1, d2, d3] => { results := [.lit (.bool false)], args := [d1, d2, d3] }
  | _ => none }
def NumDividesWrongFalsely : Prop := numDividesRow.holds Try.pinned (OpenSpec.ofChange numDividesWrong)

/-- 'imageeditorlaw01.NumUnits': WHATEVER THE INPUT: true; the input reads as it did. -/
def numUnitsSpec : ChangeSpec := { name := "numUnits", fn := fun _ => fun
  | [d1, d2, d3] => { results := [.lit (.bool true)], args := [d1, d2, d3] }
  | _ => none }
def numUnitsRow : OpenClaim := { program := "yteehnbgkgdhgaaa", sum := "60332d4ef392e064cb3733f59c0a1a49e707f54a6b9b594e5a054c478aaeb892", func := "imageeditor/imageeditorlaw01.NumUnits", spec := "numUnits", apart := false }
def NumUnitsSaid : Prop := numUnitsRow.holds Try.pinned (OpenSpec.ofChange numUnitsSpec)

/-- ITS FALSE NEIGHBOUR: 'it returns false'. Refute it at one input. -/
def numUnitsWrong : ChangeSpec := { name := "numUnits", fn := fun _ => fun
  | [d1, d2, d3] => { results := [.lit (.bool false)], args := [d1, d2, d3] }
  | _ => none }
def NumUnitsWrongFalsely : Prop := numUnitsRow.holds Try.pinned (OpenSpec.ofChange numUnitsWrong)

/-- 'imageeditorlaw01.NumFixes': WHATEVER THE INPUT: true; the input reads as it did. -/
def numFixesSpec : ChangeSpec := { name := "numFixes", fn := fun _ => fun
  | [d1, d2] => { results := [.lit (.bool true)], args := [d1, d2] }
  | _ => none }
def numFixesRow : OpenClaim := { program := "yteehnbgkgdhgaaa", sum := "60332d4ef392e064cb3733f59c0a1a49e707f54a6b9b594e5a054c478aaeb892", func := "imageeditor/imageeditorlaw01.NumFixes", spec := "numFixes", apart := false }
def NumFixesSaid : Prop := numFixesRow.holds Try.pinned (OpenSpec.ofChange numFixesSpec)

/-- ITS FALSE NEIGHBOUR: 'it returns false'. Refute it at one input. -/
def numFixesWrong : ChangeSpec := { name := "numFixes", fn := fun _ => fun
  | [d1, d2] => { results := [.lit (.bool false)], args := [d1, d2] }
  | _ => none }
def NumFixesWrongFalsely : Prop := numFixesRow.holds Try.pinned (OpenSpec.ofChange numFixesWrong)

/-- 'imageeditorlaw01.NumRoots': WHATEVER THE INPUT: true; the input reads as it did. -/
def numRootsSpec : ChangeSpec := { name := "numRoots", fn := fun _ => fun
  | [d1, d2, d3] => { results := [.lit (.bool true)], args := [d1, d2, d3] }
  | _ => none }
def numRootsRow : OpenClaim := { program := "yteehnbgkgdhgaaa", sum := "60332d4ef392e064cb3733f59c0a1a49e707f54a6b9b594e5a054c478aaeb892", func := "imageeditor/imageeditorlaw01.NumRoots", spec := "numRoots", apart := false }
def NumRootsSaid : Prop := numRootsRow.holds Try.pinned (OpenSpec.ofChange numRootsSpec)

/-- ITS FALSE NEIGHBOUR: 'it returns false'. Refute it at one input. -/
def numRootsWrong : ChangeSpec := { name := "numRoots", fn := fun _ => fun
  | [d1, d2, d3] => { results := [.lit (.bool false)], args := [d1, d2, d3] }
  | _ => none }
def NumRootsWrongFalsely : Prop := numRootsRow.holds Try.pinned (OpenSpec.ofChange numRootsWrong)

/-- 'imageeditorlaw01.NumTurns': WHATEVER THE INPUT: true; the input reads as it did. -/
def numTurnsSpec : ChangeSpec := { name := "numTurns", fn := fun _ => fun
  | [d] => { results := [.lit (.bool true)], args := [d] }
  | _ => none }
def numTurnsRow : OpenClaim := { program := "yteehnbgkgdhgaaa", sum := "60332d4ef392e064cb3733f59c0a1a49e707f54a6b9b594e5a054c478aaeb892", func := "imageeditor/imageeditorlaw01.NumTurns", spec := "numTurns", apart := false }
def NumTurnsSaid : Prop := numTurnsRow.holds Try.pinned (OpenSpec.ofChange numTurnsSpec)

/-- ITS FALSE NEIGHBOUR: 'it returns false'. Refute it at one input. -/
def numTurnsWrong : ChangeSpec := { name := "numTurns", fn := fun _ => fun
  | [d] => { results := [.lit (.bool false)], args := [d] }
  | _ => none }
def NumTurnsWrongFalsely : Prop := numTurnsRow.holds Try.pinned (OpenSpec.ofChange numTurnsWrong)

/-- 'imageeditorlaw01.NumQuotients': WHATEVER THE INPUT: true; the input reads as it did. -/
def numQuotientsSpec : ChangeSpec := { name := "numQuotients", fn := fun _ => fun
  | [d1, d2] => { results := [.lit (.bool true)], args := [d1, d2] }
  | _ => none }
def numQuotientsRow : OpenClaim := { program := "yteehnbgkgdhgaaa", sum := "60332d4ef392e064cb3733f59c0a1a49e707f54a6b9b594e5a054c478aaeb892", func := "imageeditor/imageeditorlaw01.NumQuotients", spec := "numQuotients", apart := false }
def NumQuotientsSaid : Prop := numQuotientsRow.holds Try.pinned (OpenSpec.ofChange numQuotientsSpec)

/-- ITS FALSE NEIGHBOUR: 'it returns false'. Refute it at one input. -/
def numQuotientsWrong : ChangeSpec := { name := "numQuotients", fn := fun _ => fun
  | [d1, d2] => { results := [.lit (.bool false)], args := [d1, d2] }
  | _ => none }
def NumQuotientsWrongFalsely : Prop := numQuotientsRow.holds Try.pinned (OpenSpec.ofChange numQuotientsWrong)

/-- 'imageeditorlaw01.NumInverts': WHATEVER THE INPUT: true; the input reads as it did. -/
def numInvertsSpec : ChangeSpec := { name := "numInverts", fn := fun _ => fun
  | [d1, d2, d3] => { results := [.lit (.bool true)], args := [d1, d2, d3] }
  | _ => none }
def numInvertsRow : OpenClaim := { program := "yteehnbgkgdhgaaa", sum := "60332d4ef392e064cb3733f59c0a1a49e707f54a6b9b594e5a054c478aaeb892", func := "imageeditor/imageeditorlaw01.NumInverts", spec := "numInverts", apart := false }
def NumInvertsSaid : Prop := numInvertsRow.holds Try.pinned (OpenSpec.ofChange numInvertsSpec)

/-- ITS FALSE NEIGHBOUR: 'it returns false'. Refute it at one input. -/
def numInvertsWrong : ChangeSpec := { name := "numInverts", fn := fun _ => fun
  | [d1, d2, d3] => { results := [.lit (.bool false)], args := [d1, d2, d3] }
  | _ => none }
def NumInvertsWrongFalsely : Prop := numInvertsRow.holds Try.pinned (OpenSpec.ofChange numInvertsWrong)

/-- 'imageeditorlaw01.NumSquares': WHATEVER THE INPUT: true; the input reads as it did. -/
def numSquaresSpec : ChangeSpec := { name := "numSquares", fn := fun _ => fun
  | [d1, d2, d3] => { results := [.lit (.bool true)], args := [d1, d2, d3] }
  | _ => none }
def numSquaresRow : OpenClaim := { program := "yteehnbgkgdhgaaa", sum := "60332d4ef392e064cb3733f59c0a1a49e707f54a6b9b594e5a054c478aaeb892", func := "imageeditor/imageeditorlaw01.NumSquares", spec := "numSquares", apart := false }
def NumSquaresSaid : Prop := numSquaresRow.holds Try.pinned (OpenSpec.ofChange numSquaresSpec)

/-- ITS FALSE NEIGHBOUR: 'it returns false'. Refute it at one input. -/
def numSquaresWrong : ChangeSpec := { name := "numSquares", fn := fun _ => fun
  | [d1, d2, d3] => { results := [.lit (.bool false)], args := [d1, d2, d3] }
  | _ => none }
def NumSquaresWrongFalsely : Prop := numSquaresRow.holds Try.pinned (OpenSpec.ofChange numSquaresWrong)

/-- 'imageeditorlaw01.NumCircles': WHATEVER THE INPUT: true; the input reads as it did. -/
def numCirclesSpec : ChangeSpec := { name := "numCircles", fn := fun _ => fun
  | [d] => { results := [.lit (.bool true)], args := [d] }
  | _ => none }
def numCirclesRow : OpenClaim := { program := "yteehnbgkgdhgaaa", sum := "60332d4ef392e064cb3733f59c0a1a49e707f54a6b9b594e5a054c478aaeb892", func := "imageeditor/imageeditorlaw01.NumCircles", spec := "numCircles", apart := false }
def NumCirclesSaid : Prop := numCirclesRow.holds Try.pinned (OpenSpec.ofChange numCirclesSpec)

/-- ITS FALSE NEIGHBOUR: 'it returns false'. Refute it at one input. -/
def numCirclesWrong : ChangeSpec := { name := "numCircles", fn := fun _ => fun
  | [d] => { results := [.lit (.bool false)], args := [d] }
  | _ => none }
def NumCirclesWrongFalsely : Prop := numCirclesRow.holds Try.pinned (OpenSpec.ofChange numCirclesWrong)

/- THE SECOND FORM. 'bulk': how many values and letters a reading holds, each counted each time it is reached (what is shared counts as often as it is met; a slice's spare places count too). A statement '..UptoSaid' is the law's where the arguments, and the package variables that the reading takes, are together of bulk at most 1048576: NARROWER than '..Said'. Prove '..Said' where nothing that the law and all that it calls make is longer than what came in: it says more and counts as full. Else prove '..UptoSaid'. A law counts once. -/
mutual
def uptoBulk {H : Type} : DataW H → Nat
  | .lit (.string bytes) => bytes.length + 1
  | .lit _ => 1
  | .nil => 1
  | .ptr d => uptoBulk d + 1
  | .slice elems spare => uptoBulkAll elems + uptoBulkAll spare + 1
  | .agg parts => uptoBulkAll parts + 1
  | .iface _ d => uptoBulk d + 1
  | .map entries => uptoBulkEntries entries + 1
  | .held _ => 1
def uptoBulkAll {H : Type} : List (DataW H) → Nat
  | [] => 0
  | d :: r => uptoBulk d + uptoBulkAll r
def uptoBulkEntries {H : Type} : List (Lit × DataW H) → Nat
  | [] => 0
  | x :: r => uptoBulkEntry x + uptoBulkEntries r
def uptoBulkEntry {H : Type} : Lit × DataW H → Nat
  | (.string bytes, d) => bytes.length + uptoBulk d + 1
  | (_, d) => uptoBulk d + 1
 end
def uptoSmall : (H : Type) → List (DataW H) → Bool := fun _ ds => decide (uptoBulkAll ds ≤ 1048576)
def OpenSpec.upto (s : _root_.Go.ChangeSpec) : _root_.Go.OpenSpec := { _root_.Go.OpenSpec.ofChange s with cond := some uptoSmall }

/-- 'imageeditorlaw08.MatrixApplies', WHERE WHAT IT READS IS OF BULK AT MOST 1048576: true; the input reads as it did. -/
def matrixAppliesUptoRow : OpenClaim := { program := "yteehnbgkgdhgaaa", sum := "60332d4ef392e064cb3733f59c0a1a49e707f54a6b9b594e5a054c478aaeb892", func := "imageeditor/imageeditorlaw08.MatrixApplies", spec := "matrixApplies", apart := false, narrowed := true }
def MatrixAppliesUptoSaid : Prop := matrixAppliesUptoRow.holds Try.pinned (OpenSpec.upto matrixAppliesSpec)

/-- 'imageeditorlaw08.MatrixUnit', WHERE WHAT IT READS IS OF BULK AT MOST 1048576: true; the input reads as it did. -/
def matrixUnitUptoRow : OpenClaim := { program := "yteehnbgkgdhgaaa", sum := "60332d4ef392e064cb3733f59c0a1a49e707f54a6b9b594e5a054c478aaeb892", func := "imageeditor/imageeditorlaw08.MatrixUnit", spec := "matrixUnit", apart := false, narrowed := true }
def MatrixUnitUptoSaid : Prop := matrixUnitUptoRow.holds Try.pinned (OpenSpec.upto matrixUnitSpec)

/-- 'imageeditorlaw08.MatrixBack', WHERE WHAT IT READS IS OF BULK AT MOST 1048576: true; the input reads as it did. -/
def matrixBackUptoRow : OpenClaim := { program := "yteehnbgkgdhgaaa", sum := "60332d4ef392e064cb3733f59c0a1a49e707f54a6b9b594e5a054c478aaeb892", func := "imageeditor/imageeditorlaw08.MatrixBack", spec := "matrixBack", apart := false, narrowed := true }
def MatrixBackUptoSaid : Prop := matrixBackUptoRow.holds Try.pinned (OpenSpec.upto matrixBackSpec)

/-- 'imageeditorlaw08.MatrixDets', WHERE WHAT IT READS IS OF BULK AT MOST 1048576: true; the input reads as it did. -/
def matrixDetsUptoRow : OpenClaim := { program := "yteehnbgkgdhgaaa", sum := "60332d4ef392e064cb3733f59c0a1a49e707f54a6b9b594e5a054c478aaeb892", func := "imageeditor/imageeditorlaw08.MatrixDets", spec := "matrixDets", apart := false, narrowed := true }
def MatrixDetsUptoSaid : Prop := matrixDetsUptoRow.holds Try.pinned (OpenSpec.upto matrixDetsSpec)

/-- 'imageeditorlaw08.MatrixProducts', WHERE WHAT IT READS IS OF BULK AT MOST 1048576: true; the input reads as it did. -/
def matrixProductsUptoRow : OpenClaim := { program := "yteehnbgkgdhgaaa", sum := "60332d4ef392e064cb3733f59c0a1a49e707f54a6b9b594e5a054c478aaeb892", func := "imageeditor/imageeditorlaw08.MatrixProducts", spec := "matrixProducts", apart := false, narrowed := true }
def MatrixProductsUptoSaid : Prop := matrixProductsUptoRow.holds Try.pinned (OpenSpec.upto matrixProductsSpec)

/-- 'imageeditorlaw08.MatrixTurns', WHERE WHAT IT READS IS OF BULK AT MOST 1048576: true; the input reads as it did. -/
def matrixTurnsUptoRow : OpenClaim := { program := "yteehnbgkgdhgaaa", sum := "60332d4ef392e064cb3733f59c0a1a49e707f54a6b9b594e5a054c478aaeb892", func := "imageeditor/imageeditorlaw08.MatrixTurns", spec := "matrixTurns", apart := false, narrowed := true }
def MatrixTurnsUptoSaid : Prop := matrixTurnsUptoRow.holds Try.pinned (OpenSpec.upto matrixTurnsSpec)

/-- 'imageeditorlaw01.NumDivides', WHERE WHAT IT READS IS OF BULK AT MOST 1048576: true; the input reads as it did. -/
def numDividesUptoRow : OpenClaim := { program := "yteehnbgkgdhgaaa", sum := "60332d4ef392e064cb3733f59c0a1a49e707f54a6b9b594e5a054c478aaeb892", func := "imageeditor/imageeditorlaw01.NumDivides", spec := "numDivides", apart := false, narrowed := true }
def NumDividesUptoSaid : Prop := numDividesUptoRow.holds Try.pinned (OpenSpec.upto numDividesSpec)

/-- 'imageeditorlaw01.NumUnits', WHERE WHAT IT READS IS OF BULK AT MOST 1048576: true; the input reads as it did. -/
def numUnitsUptoRow : OpenClaim := { program := "yteehnbgkgdhgaaa", sum := "60332d4ef392e064cb3733f59c0a1a49e707f54a6b9b594e5a054c478aaeb892", func := "imageeditor/imageeditorlaw01.NumUnits", spec := "numUnits", apart := false, narrowed := true }
def NumUnitsUptoSaid : Prop := numUnitsUptoRow.holds Try.pinned (OpenSpec.upto numUnitsSpec)

/-- 'imageeditorlaw01.NumFixes', WHERE WHAT IT READS IS OF BULK AT MOST 1048576: true; the input reads as it did. -/
def numFixesUptoRow : OpenClaim := { program := "yteehnbgkgdhgaaa", sum := "60332d4ef392e064cb3733f59c0a1a49e707f54a6b9b594e5a054c478aaeb892", func := "imageeditor/imageeditorlaw01.NumFixes", spec := "numFixes", apart := false, narrowed := true }
def NumFixesUptoSaid : Prop := numFixesUptoRow.holds Try.pinned (OpenSpec.upto numFixesSpec)

/-- 'imageeditorlaw01.NumRoots', WHERE WHAT IT READS IS OF BULK AT MOST 1048576: true; the input reads as it did. -/
def numRootsUptoRow : OpenClaim := { program := "yteehnbgkgdhgaaa", sum := "60332d4ef392e064cb3733f59c0a1a49e707f54a6b9b594e5a054c478aaeb892", func := "imageeditor/imageeditorlaw01.NumRoots", spec := "numRoots", apart := false, narrowed := true }
def NumRootsUptoSaid : Prop := numRootsUptoRow.holds Try.pinned (OpenSpec.upto numRootsSpec)

/-- 'imageeditorlaw01.NumTurns', WHERE WHAT IT READS IS OF BULK AT MOST 1048576: true; the input reads as it did. -/
def numTurnsUptoRow : OpenClaim := { program := "yteehnbgkgdhgaaa", sum := "60332d4ef392e064cb3733f59c0a1a49e707f54a6b9b594e5a054c478aaeb892", func := "imageeditor/imageeditorlaw01.NumTurns", spec := "numTurns", apart := false, narrowed := true }
def NumTurnsUptoSaid : Prop := numTurnsUptoRow.holds Try.pinned (OpenSpec.upto numTurnsSpec)

/-- 'imageeditorlaw01.NumQuotients', WHERE WHAT IT READS IS OF BULK AT MOST 1048576: true; the input reads as it did. -/
def numQuotientsUptoRow : OpenClaim := { program := "yteehnbgkgdhgaaa", sum := "60332d4ef392e064cb3733f59c0a1a49e707f54a6b9b594e5a054c478aaeb892", func := "imageeditor/imageeditorlaw01.NumQuotients", spec := "numQuotients", apart := false, narrowed := true }
def NumQuotientsUptoSaid : Prop := numQuotientsUptoRow.holds Try.pinned (OpenSpec.upto numQuotientsSpec)

/-- 'imageeditorlaw01.NumInverts', WHERE WHAT IT READS IS OF BULK AT MOST 1048576: true; the input reads as it did. -/
def numInvertsUptoRow : OpenClaim := { program := "yteehnbgkgdhgaaa", sum := "60332d4ef392e064cb3733f59c0a1a49e707f54a6b9b594e5a054c478aaeb892", func := "imageeditor/imageeditorlaw01.NumInverts", spec := "numInverts", apart := false, narrowed := true }
def NumInvertsUptoSaid : Prop := numInvertsUptoRow.holds Try.pinned (OpenSpec.upto numInvertsSpec)

/-- 'imageeditorlaw01.NumSquares', WHERE WHAT IT READS IS OF BULK AT MOST 1048576: true; the input reads as it did. -/
def numSquaresUptoRow : OpenClaim := { program := "yteehnbgkgdhgaaa", sum := "60332d4ef392e064cb3733f59c0a1a49e707f54a6b9b594e5a054c478aaeb892", func := "imageeditor/imageeditorlaw01.NumSquares", spec := "numSquares", apart := false, narrowed := true }
def NumSquaresUptoSaid : Prop := numSquaresUptoRow.holds Try.pinned (OpenSpec.upto numSquaresSpec)

/-- 'imageeditorlaw01.NumCircles', WHERE WHAT IT READS IS OF BULK AT MOST 1048576: true; the input reads as it did. -/
def numCirclesUptoRow : OpenClaim := { program := "yteehnbgkgdhgaaa", sum := "60332d4ef392e064cb3733f59c0a1a49e707f54a6b9b594e5a054c478aaeb892", func := "imageeditor/imageeditorlaw01.NumCircles", spec := "numCircles", apart := false, narrowed := true }
def NumCirclesUptoSaid : Prop := numCirclesUptoRow.holds Try.pinned (OpenSpec.upto numCirclesSpec)

end Rows
end Go.Proofs.Yteehnbgkgdhgaaa
