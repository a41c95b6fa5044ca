/-
  No cell of these rows narrows 'for every input' (looked for: loops, veiled, ifaces, maps, wideKeys, modest, calm, conditions, laid).
  DERIVED. THE GIVEN ROWS OF THIS SEAT. 12 by the template 'for every input the law returns true; each argument reads behind the call as it read before'; 0 by the template 'total and deterministic' (their statements: YtkglnlaefokpaaaTotals.lean).
  GIVEN WITH THE SEED: the statements are not yours to turn. If you find one false, say at which input.
  Laid BY PROGRAM, IN A SANDBOX (cutbox-rows.mjs): the forced cells as the released guide's own fill.sh prints them over the translation 72b77659b4292200… (all of the seat's roots in one cut). By AI agents, Wed Nov 11 2026. No macro, syntax, notation, axiom, sorry.
-/
import Derived.Test.YtkglnlaefokpaaaChecked
import GoSem.Claim
import GoSem.ClaimJoined
import GoSem.ClaimMapViews
import Derived.JoinedTies
import Derived.KernelRfl
namespace Go.Proofs.Ytkglnlaefokpaaa
/- THE CELL 'sum', in the pinned program and in every row, IS THE sha256 OF THE DUMP (.gsa) THAT YtkglnlaefokpaaaProg.lean LOADS. Nothing in Lean hashes anything: it is a label: what it is worth is what the hold of that sum in a sandbox is worth. -/
noncomputable def Try.pinned : Pinned := { name := "ytkglnlaefokpaaa", sum := "72b77659b4292200fd13e4160249e381dbb89be24717dd1267e86efe05f036fc", checked := Try.checked }
namespace Rows
def none {H : Type} : Left H := { results := [], args := [] }

/-- 'laws.FnExactConstants': WHATEVER THE INPUT: true; the input reads as it did. -/
def fnExactConstantsSpec : ChangeSpec := { name := "fnExactConstants", fn := fun _ => fun
  | [] => { results := [.lit (.bool true)], args := [] }
  | _ => none }
def fnExactConstantsRow : OpenClaim := { program := "ytkglnlaefokpaaa", sum := "72b77659b4292200fd13e4160249e381dbb89be24717dd1267e86efe05f036fc", func := "loop.example/g00990/laws.FnExactConstants", spec := "fnExactConstants", apart := false }
def FnExactConstantsSaid : Prop := fnExactConstantsRow.holds Try.pinned (OpenSpec.ofChange fnExactConstantsSpec)

/-- ITS FALSE NEIGHBOUR: 'it returns false'. Refute it at one input. -/
def fnExactConstantsWrong : ChangeSpec := { name := "fnExactConstants", fn := fun _ => fun
  | [] => { results := [.lit (.bool false)], args := [] }
  | _ => none }
def FnExactConstantsWrongFalsely : Prop := fnExactConstantsRow.holds Try.pinned (OpenSpec.ofChange fnExactConstantsWrong)

/-- 'laws.FnExactClamp': WHATEVER THE INPUT: true; the input reads as it did. -/
def fnExactClampSpec : ChangeSpec := { name := "fnExactClamp", fn := fun _ => fun
  | [d1, d2, d3] => { results := [.lit (.bool true)], args := [d1, d2, d3] }
  | _ => none }
def fnExactClampRow : OpenClaim := { program := "ytkglnlaefokpaaa", sum := "72b77659b4292200fd13e4160249e381dbb89be24717dd1267e86efe05f036fc", func := "loop.example/g00990/laws.FnExactClamp", spec := "fnExactClamp", apart := false }
def FnExactClampSaid : Prop := fnExactClampRow.holds Try.pinned (OpenSpec.ofChange fnExactClampSpec)

/-- ITS FALSE NEIGHBOUR: 'it returns false'. Refute it at one input. -/
def fnExactClampWrong : ChangeSpec := { name := "fnExactClamp", fn := fun _ => fun
  | [d1, d2, d3] => { results := [.lit (.bool false)], args := [d1, d2, d3] }
  | _ => none }
def FnExactClampWrongFalsely : Prop := fnExactClampRow.holds Try.pinned (OpenSpec.ofChange fnExactClampWrong)

/-- 'laws.FnExactGridOk': WHATEVER THE INPUT: true; the input reads as it did. -/
def fnExactGridOkSpec : ChangeSpec := { name := "fnExactGridOk", fn := fun _ => fun
  | [d] => { results := [.lit (.bool true)], args := [d] }
  | _ => none }
def fnExactGridOkRow : OpenClaim := { program := "ytkglnlaefokpaaa", sum := "72b77659b4292200fd13e4160249e381dbb89be24717dd1267e86efe05f036fc", func := "loop.example/g00990/laws.FnExactGridOk", spec := "fnExactGridOk", apart := false }
def FnExactGridOkSaid : Prop := fnExactGridOkRow.holds Try.pinned (OpenSpec.ofChange fnExactGridOkSpec)

/-- ITS FALSE NEIGHBOUR: 'it returns false'. Refute it at one input. -/
def fnExactGridOkWrong : ChangeSpec := { name := "fnExactGridOk", fn := fun _ => fun
  | [d] => { results := [.lit (.bool false)], args := [d] }
  | _ => none }
def FnExactGridOkWrongFalsely : Prop := fnExactGridOkRow.holds Try.pinned (OpenSpec.ofChange fnExactGridOkWrong)

/-- 'laws.FnExactTurnRight': WHATEVER THE INPUT: true; the input reads as it did. -/
def fnExactTurnRightSpec : ChangeSpec := { name := "fnExactTurnRight", fn := fun _ => fun
  | [d] => { results := [.lit (.bool true)], args := [d] }
  | _ => none }
def fnExactTurnRightRow : OpenClaim := { program := "ytkglnlaefokpaaa", sum := "72b77659b4292200fd13e4160249e381dbb89be24717dd1267e86efe05f036fc", func := "loop.example/g00990/laws.FnExactTurnRight", spec := "fnExactTurnRight", apart := false }
def FnExactTurnRightSaid : Prop := fnExactTurnRightRow.holds Try.pinned (OpenSpec.ofChange fnExactTurnRightSpec)

/-- ITS FALSE NEIGHBOUR: 'it returns false'. Refute it at one input. -/
def fnExactTurnRightWrong : ChangeSpec := { name := "fnExactTurnRight", fn := fun _ => fun
  | [d] => { results := [.lit (.bool false)], args := [d] }
  | _ => none }
def FnExactTurnRightWrongFalsely : Prop := fnExactTurnRightRow.holds Try.pinned (OpenSpec.ofChange fnExactTurnRightWrong)

/-- 'laws.FnExactCountCells': WHATEVER THE INPUT: true; the input reads as it did. -/
def fnExactCountCellsSpec : ChangeSpec := { name := "fnExactCountCells", fn := fun _ => fun
  | [d] => { results := [.lit (.bool true)], args := [d] }
  | _ => none }
def fnExactCountCellsRow : OpenClaim := { program := "ytkglnlaefokpaaa", sum := "72b77659b4292200fd13e4160249e381dbb89be24717dd1267e86efe05f036fc", func := "loop.example/g00990/laws.FnExactCountCells", spec := "fnExactCountCells", apart := false }
def FnExactCountCellsSaid : Prop := fnExactCountCellsRow.holds Try.pinned (OpenSpec.ofChange fnExactCountCellsSpec)

/-- ITS FALSE NEIGHBOUR: 'it returns false'. Refute it at one input. -/
def fnExactCountCellsWrong : ChangeSpec := { name := "fnExactCountCells", fn := fun _ => fun
  | [d] => { results := [.lit (.bool false)], args := [d] }
  | _ => none }
def FnExactCountCellsWrongFalsely : Prop := fnExactCountCellsRow.holds Try.pinned (OpenSpec.ofChange fnExactCountCellsWrong)

/-- 'laws.FnExactCountCorners': WHATEVER THE INPUT: true; the input reads as it did. -/
def fnExactCountCornersSpec : ChangeSpec := { name := "fnExactCountCorners", fn := fun _ => fun
  | [d] => { results := [.lit (.bool true)], args := [d] }
  | _ => none }
def fnExactCountCornersRow : OpenClaim := { program := "ytkglnlaefokpaaa", sum := "72b77659b4292200fd13e4160249e381dbb89be24717dd1267e86efe05f036fc", func := "loop.example/g00990/laws.FnExactCountCorners", spec := "fnExactCountCorners", apart := false }
def FnExactCountCornersSaid : Prop := fnExactCountCornersRow.holds Try.pinned (OpenSpec.ofChange fnExactCountCornersSpec)

/-- ITS FALSE NEIGHBOUR: 'it returns false'. Refute it at one input. -/
def fnExactCountCornersWrong : ChangeSpec := { name := "fnExactCountCorners", fn := fun _ => fun
  | [d] => { results := [.lit (.bool false)], args := [d] }
  | _ => none }
def FnExactCountCornersWrongFalsely : Prop := fnExactCountCornersRow.holds Try.pinned (OpenSpec.ofChange fnExactCountCornersWrong)

/-- 'laws.FnExactCountGaps': WHATEVER THE INPUT: true; the input reads as it did. -/
def fnExactCountGapsSpec : ChangeSpec := { name := "fnExactCountGaps", fn := fun _ => fun
  | [d] => { results := [.lit (.bool true)], args := [d] }
  | _ => none }
def fnExactCountGapsRow : OpenClaim := { program := "ytkglnlaefokpaaa", sum := "72b77659b4292200fd13e4160249e381dbb89be24717dd1267e86efe05f036fc", func := "loop.example/g00990/laws.FnExactCountGaps", spec := "fnExactCountGaps", apart := false }
def FnExactCountGapsSaid : Prop := fnExactCountGapsRow.holds Try.pinned (OpenSpec.ofChange fnExactCountGapsSpec)

/-- ITS FALSE NEIGHBOUR: 'it returns false'. Refute it at one input. -/
def fnExactCountGapsWrong : ChangeSpec := { name := "fnExactCountGaps", fn := fun _ => fun
  | [d] => { results := [.lit (.bool false)], args := [d] }
  | _ => none }
def FnExactCountGapsWrongFalsely : Prop := fnExactCountGapsRow.holds Try.pinned (OpenSpec.ofChange fnExactCountGapsWrong)

/-- 'laws.FnExactMazeOk': WHATEVER THE INPUT: true; the input reads as it did. -/
def fnExactMazeOkSpec : ChangeSpec := { name := "fnExactMazeOk", fn := fun _ => fun
  | [d] => { results := [.lit (.bool true)], args := [d] }
  | _ => none }
def fnExactMazeOkRow : OpenClaim := { program := "ytkglnlaefokpaaa", sum := "72b77659b4292200fd13e4160249e381dbb89be24717dd1267e86efe05f036fc", func := "loop.example/g00990/laws.FnExactMazeOk", spec := "fnExactMazeOk", apart := false }
def FnExactMazeOkSaid : Prop := fnExactMazeOkRow.holds Try.pinned (OpenSpec.ofChange fnExactMazeOkSpec)

/-- ITS FALSE NEIGHBOUR: 'it returns false'. Refute it at one input. -/
def fnExactMazeOkWrong : ChangeSpec := { name := "fnExactMazeOk", fn := fun _ => fun
  | [d] => { results := [.lit (.bool false)], args := [d] }
  | _ => none }
def FnExactMazeOkWrongFalsely : Prop := fnExactMazeOkRow.holds Try.pinned (OpenSpec.ofChange fnExactMazeOkWrong)

/-- 'laws.FnExactIsEdgeCorner': WHATEVER THE INPUT: true; the input reads as it did. -/
def fnExactIsEdgeCornerSpec : ChangeSpec := { name := "fnExactIsEdgeCorner", fn := fun _ => fun
  | [d1, d2] => { results := [.lit (.bool true)], args := [d1, d2] }
  | _ => none }
def fnExactIsEdgeCornerRow : OpenClaim := { program := "ytkglnlaefokpaaa", sum := "72b77659b4292200fd13e4160249e381dbb89be24717dd1267e86efe05f036fc", func := "loop.example/g00990/laws.FnExactIsEdgeCorner", spec := "fnExactIsEdgeCorner", apart := false }
def FnExactIsEdgeCornerSaid : Prop := fnExactIsEdgeCornerRow.holds Try.pinned (OpenSpec.ofChange fnExactIsEdgeCornerSpec)

/-- ITS FALSE NEIGHBOUR: 'it returns false'. Refute it at one input. -/
def fnExactIsEdgeCornerWrong : ChangeSpec := { name := "fnExactIsEdgeCorner", fn := fun _ => fun
  | [d1, d2] => { results := [.lit (.bool false)], args := [d1, d2] }
  | _ => none }
def FnExactIsEdgeCornerWrongFalsely : Prop := fnExactIsEdgeCornerRow.holds Try.pinned (OpenSpec.ofChange fnExactIsEdgeCornerWrong)

/-- 'laws.FnExactIsPassage': WHATEVER THE INPUT: true; the input reads as it did. -/
def fnExactIsPassageSpec : ChangeSpec := { name := "fnExactIsPassage", fn := fun _ => fun
  | [d1, d2] => { results := [.lit (.bool true)], args := [d1, d2] }
  | _ => none }
def fnExactIsPassageRow : OpenClaim := { program := "ytkglnlaefokpaaa", sum := "72b77659b4292200fd13e4160249e381dbb89be24717dd1267e86efe05f036fc", func := "loop.example/g00990/laws.FnExactIsPassage", spec := "fnExactIsPassage", apart := false }
def FnExactIsPassageSaid : Prop := fnExactIsPassageRow.holds Try.pinned (OpenSpec.ofChange fnExactIsPassageSpec)

/-- ITS FALSE NEIGHBOUR: 'it returns false'. Refute it at one input. -/
def fnExactIsPassageWrong : ChangeSpec := { name := "fnExactIsPassage", fn := fun _ => fun
  | [d1, d2] => { results := [.lit (.bool false)], args := [d1, d2] }
  | _ => none }
def FnExactIsPassageWrongFalsely : Prop := fnExactIsPassageRow.holds Try.pinned (OpenSpec.ofChange fnExactIsPassageWrong)

/-- 'laws.FnExactEndsOf': WHATEVER THE INPUT: true; the input reads as it did. -/
def fnExactEndsOfSpec : ChangeSpec := { name := "fnExactEndsOf", fn := fun _ => fun
  | [d1, d2] => { results := [.lit (.bool true)], args := [d1, d2] }
  | _ => none }
def fnExactEndsOfRow : OpenClaim := { program := "ytkglnlaefokpaaa", sum := "72b77659b4292200fd13e4160249e381dbb89be24717dd1267e86efe05f036fc", func := "loop.example/g00990/laws.FnExactEndsOf", spec := "fnExactEndsOf", apart := false }
def FnExactEndsOfSaid : Prop := fnExactEndsOfRow.holds Try.pinned (OpenSpec.ofChange fnExactEndsOfSpec)

/-- ITS FALSE NEIGHBOUR: 'it returns false'. Refute it at one input. -/
def fnExactEndsOfWrong : ChangeSpec := { name := "fnExactEndsOf", fn := fun _ => fun
  | [d1, d2] => { results := [.lit (.bool false)], args := [d1, d2] }
  | _ => none }
def FnExactEndsOfWrongFalsely : Prop := fnExactEndsOfRow.holds Try.pinned (OpenSpec.ofChange fnExactEndsOfWrong)

/-- 'laws.FnExactFullMaze': WHATEVER THE INPUT: true; the input reads as it did. -/
def fnExactFullMazeSpec : ChangeSpec := { name := "fnExactFullMaze", fn := fun _ => fun
  | [d] => { results := [.lit (.bool true)], args := [d] }
  | _ => none }
def fnExactFullMazeRow : OpenClaim := { program := "ytkglnlaefokpaaa", sum := "72b77659b4292200fd13e4160249e381dbb89be24717dd1267e86efe05f036fc", func := "loop.example/g00990/laws.FnExactFullMaze", spec := "fnExactFullMaze", apart := false }
def FnExactFullMazeSaid : Prop := fnExactFullMazeRow.holds Try.pinned (OpenSpec.ofChange fnExactFullMazeSpec)

/-- ITS FALSE NEIGHBOUR: 'it returns false'. Refute it at one input. -/
def fnExactFullMazeWrong : ChangeSpec := { name := "fnExactFullMaze", fn := fun _ => fun
  | [d] => { results := [.lit (.bool false)], args := [d] }
  | _ => none }
def FnExactFullMazeWrongFalsely : Prop := fnExactFullMazeRow.holds Try.pinned (OpenSpec.ofChange fnExactFullMazeWrong)

/- THE SECOND FORM. 'bulk': how many values and letters a reading holds, each counted each time it is reached (what is shared counts as often as it is met; a slice's spare places count too). A statement '..UptoSaid' is the law's where the arguments, and the package variables that the reading takes, are together of bulk at most 1048576: NARROWER than '..Said'. Prove '..Said' where nothing that the law and all that it calls make is longer than what came in: it says more and counts as full. Else prove '..UptoSaid'. A law counts once. -/
mutual
def uptoBulk {H : Type} : DataW H → Nat
  | .lit (.string bytes) => bytes.length + 1
  | .lit _ => 1
  | .nil => 1
  | .ptr d => uptoBulk d + 1
  | .slice elems spare => uptoBulkAll elems + uptoBulkAll spare + 1
  | .agg parts => uptoBulkAll parts + 1
  | .iface _ d => uptoBulk d + 1
  | .map entries => uptoBulkEntries entries + 1
  | .held _ => 1
def uptoBulkAll {H : Type} : List (DataW H) → Nat
  | [] => 0
  | d :: r => uptoBulk d + uptoBulkAll r
def uptoBulkEntries {H : Type} : List (Lit × DataW H) → Nat
  | [] => 0
  | x :: r => uptoBulkEntry x + uptoBulkEntries r
def uptoBulkEntry {H : Type} : Lit × DataW H → Nat
  | (.string bytes, d) => bytes.length + uptoBulk d + 1
  | (_, d) => uptoBulk d + 1
 end
def uptoSmall : (H : Type) → List (DataW H) → Bool := fun _ ds => decide (uptoBulkAll ds ≤ 1048576)
def OpenSpec.upto (s : _root_.Go.ChangeSpec) : _root_.Go.OpenSpec := { _root_.Go.OpenSpec.ofChange s with cond := some uptoSmall }

/-- 'laws.FnExactConstants', WHERE WHAT IT READS IS OF BULK AT MOST 1048576: true; the input reads as it did. -/
def fnExactConstantsUptoRow : OpenClaim := { program := "ytkglnlaefokpaaa", sum := "72b77659b4292200fd13e4160249e381dbb89be24717dd1267e86efe05f036fc", func := "loop.example/g00990/laws.FnExactConstants", spec := "fnExactConstants", apart := false, narrowed := true }
def FnExactConstantsUptoSaid : Prop := fnExactConstantsUptoRow.holds Try.pinned (OpenSpec.upto fnExactConstantsSpec)

/-- 'laws.FnExactClamp', WHERE WHAT IT READS IS OF BULK AT MOST 1048576: true; the input reads as it did. -/
def fnExactClampUptoRow : OpenClaim := { program := "ytkglnlaefokpaaa", sum := "72b77659b4292200fd13e4160249e381dbb89be24717dd1267e86efe05f036fc", func := "loop.example/g00990/laws.FnExactClamp", spec := "fnExactClamp", apart := false, narrowed := true }
def FnExactClampUptoSaid : Prop := fnExactClampUptoRow.holds Try.pinned (OpenSpec.upto fnExactClampSpec)

/-- 'laws.FnExactGridOk', WHERE WHAT IT READS IS OF BULK AT MOST 1048576: true; the input reads as it did. -/
def fnExactGridOkUptoRow : OpenClaim := { program := "ytkglnlaefokpaaa", sum := "72b77659b4292200fd13e4160249e381dbb89be24717dd1267e86efe05f036fc", func := "loop.example/g00990/laws.FnExactGridOk", spec := "fnExactGridOk", apart := false, narrowed := true }
def FnExactGridOkUptoSaid : Prop := fnExactGridOkUptoRow.holds Try.pinned (OpenSpec.upto fnExactGridOkSpec)

/-- 'laws.FnExactTurnRight', WHERE WHAT IT READS IS OF BULK AT MOST 1048576: true; the input reads as it did. -/
def fnExactTurnRightUptoRow : OpenClaim := { program := "ytkglnlaefokpaaa", sum := "72b77659b4292200fd13e4160249e381dbb89be24717dd1267e86efe05f036fc", func := "loop.example/g00990/laws.FnExactTurnRight", spec := "fnExactTurnRight", apart := false, narrowed := true }
def FnExactTurnRightUptoSaid : Prop := fnExactTurnRightUptoRow.holds Try.pinned (OpenSpec.upto fnExactTurnRightSpec)

/-- 'laws.FnExactCountCells', WHERE WHAT IT READS IS OF BULK AT MOST 1048576: true; the input reads as it did. -/
def fnExactCountCellsUptoRow : OpenClaim := { program := "ytkglnlaefokpaaa", sum := "72b77659b4292200fd13e4160249e381dbb89be24717dd1267e86efe05f036fc", func := "loop.example/g00990/laws.FnExactCountCells", spec := "fnExactCountCells", apart := false, narrowed := true }
def FnExactCountCellsUptoSaid : Prop := fnExactCountCellsUptoRow.holds Try.pinned (OpenSpec.upto fnExactCountCellsSpec)

/-- 'laws.FnExactCountCorners', WHERE WHAT IT READS IS OF BULK AT MOST 1048576: true; the input reads as it did. -/
def fnExactCountCornersUptoRow : OpenClaim := { program := "ytkglnlaefokpaaa", sum := "72b77659b4292200fd13e4160249e381dbb89be24717dd1267e86efe05f036fc", func := "loop.example/g00990/laws.FnExactCountCorners", spec := "fnExactCountCorners", apart := false, narrowed := true }
def FnExactCountCornersUptoSaid : Prop := fnExactCountCornersUptoRow.holds Try.pinned (OpenSpec.upto fnExactCountCornersSpec)

/-- 'laws.FnExactCountGaps', WHERE WHAT IT READS IS OF BULK AT MOST 1048576: true; the input reads as it did. -/
def fnExactCountGapsUptoRow : OpenClaim := { program := "ytkglnlaefokpaaa", sum := "72b77659b4292200fd13e4160249e381dbb89be24717dd1267e86efe05f036fc", func := "loop.example/g00990/laws.FnExactCountGaps", spec := "fnExactCountGaps", apart := false, narrowed := true }
def FnExactCountGapsUptoSaid : Prop := fnExactCountGapsUptoRow.holds Try.pinned (OpenSpec.upto fnExactCountGapsSpec)

/-- 'laws.FnExactMazeOk', WHERE WHAT IT READS IS OF BULK AT MOST 1048576: true; the input reads as it did. -/
def fnExactMazeOkUptoRow : OpenClaim := { program := "ytkglnlaefokpaaa", sum := "72b77659b4292200fd13e4160249e381dbb89be24717dd1267e86efe05f036fc", func := "loop.example/g00990/laws.FnExactMazeOk", spec := "fnExactMazeOk", apart := false, narrowed := true }
def FnExactMazeOkUptoSaid : Prop := fnExactMazeOkUptoRow.holds Try.pinned (OpenSpec.upto fnExactMazeOkSpec)

/-- 'laws.FnExactIsEdgeCorner', WHERE WHAT IT READS IS OF BULK AT MOST 1048576: true; the input reads as it did. -/
def fnExactIsEdgeCornerUptoRow : OpenClaim := { program := "ytkglnlaefokpaaa", sum := "72b77659b4292200fd13e4160249e381dbb89be24717dd1267e86efe05f036fc", func := "loop.example/g00990/laws.FnExactIsEdgeCorner", spec := "fnExactIsEdgeCorner", apart := false, narrowed := true }
def FnExactIsEdgeCornerUptoSaid : Prop := fnExactIsEdgeCornerUptoRow.holds Try.pinned (OpenSpec.upto fnExactIsEdgeCornerSpec)

/-- 'laws.FnExactIsPassage', WHERE WHAT IT READS IS OF BULK AT MOST 1048576: true; the input reads as it did. -/
def fnExactIsPassageUptoRow : OpenClaim := { program := "ytkglnlaefokpaaa", sum := "72b77659b4292200fd13e4160249e381dbb89be24717dd1267e86efe05f036fc", func := "loop.example/g00990/laws.FnExactIsPassage", spec := "fnExactIsPassage", apart := false, narrowed := true }
def FnExactIsPassageUptoSaid : Prop := fnExactIsPassageUptoRow.holds Try.pinned (OpenSpec.upto fnExactIsPassageSpec)

/-- 'laws.FnExactEndsOf', WHERE WHAT IT READS IS OF BULK AT MOST 1048576: true; the input reads as it did. -/
def fnExactEndsOfUptoRow : OpenClaim := { program := "ytkglnlaefokpaaa", sum := "72b77659b4292200fd13e4160249e381dbb89be24717dd1267e86efe05f036fc", func := "loop.example/g00990/laws.FnExactEndsOf", spec := "fnExactEndsOf", apart := false, narrowed := true }
def FnExactEndsOfUptoSaid : Prop := fnExactEndsOfUptoRow.holds Try.pinned (OpenSpec.upto fnExactEndsOfSpec)

/-- 'laws.FnExactFullMaze', WHERE WHAT IT READS IS OF BULK AT MOST 1048576: true; the input reads as it did. -/
def fnExactFullMazeUptoRow : OpenClaim := { program := "ytkglnlaefokpaaa", sum := "72b77659b4292200fd13e4160249e381dbb89be24717dd1267e86efe05f036fc", func := "loop.example/g00990/laws.FnExactFullMaze", spec := "fnExactFullMaze", apart := false, narrowed := true }
def FnExactFullMazeUptoSaid : Prop := fnExactFullMazeUptoRow.holds Try.pinned (OpenSpec.upto fnExactFullMazeSpec)

end Rows
end Go.Proofs.Ytkglnlaefokpaaa
