/-
  No cell of these rows narrows 'for every input' (looked for: loops, veiled, ifaces, maps, wideKeys, modest, calm, conditions, laid).
  DERIVED. THE GIVEN ROWS OF THIS SEAT. 12 by the template 'for every input the law returns true; each argument reads behind the call as it read before'; 0 by the template 'total and deterministic' (their statements: YtpaecckpdaiogaaTotals.lean).
  GIVEN WITH THE SEED: the statements are not yours to turn. If you find one false, say at which input.
  Laid BY PROGRAM, IN A SANDBOX (cutbox-rows.mjs): the forced cells as the released guide's own fill.sh prints them over the translation bc4020685be808a6… (all of the seat's roots in one cut). By AI agents, Wed Nov 11 2026. No macro, syntax, notation, axiom, sorry.
-/
import Derived.Test.YtpaecckpdaiogaaChecked
import GoSem.Claim
import GoSem.ClaimJoined
import GoSem.ClaimMapViews
import Derived.JoinedTies
import Derived.KernelRfl
namespace Go.Proofs.Ytpaecckpdaiogaa
/- THE CELL 'sum', in the pinned program and in every row, IS THE sha256 OF THE DUMP (.gsa) THAT YtpaecckpdaiogaaProg.lean LOADS. Nothing in Lean hashes anything: it is a label: what it is worth is what the hold of that sum in a sandbox is worth. -/
noncomputable def Try.pinned : Pinned := { name := "ytpaecckpdaiogaa", sum := "bc4020685be808a65de1d48847818b53f90e56637a6fb6ce3d766b0c3fc78df2", checked := Try.checked }
namespace Rows
def none {H : Type} : Left H := { results := [], args := [] }

/-- 'laws.FnExactDeadEnds': WHATEVER THE INPUT: true; the input reads as it did. -/
def fnExactDeadEndsSpec : ChangeSpec := { name := "fnExactDeadEnds", fn := fun _ => fun
  | [d] => { results := [.lit (.bool true)], args := [d] }
  | _ => none }
def fnExactDeadEndsRow : OpenClaim := { program := "ytpaecckpdaiogaa", sum := "bc4020685be808a65de1d48847818b53f90e56637a6fb6ce3d766b0c3fc78df2", func := "loop.example/g00990/laws.FnExactDeadEnds", spec := "fnExactDeadEnds", unfollowed := true, recurses := true, apart := false }
def FnExactDeadEndsSaid : Prop := fnExactDeadEndsRow.holds Try.pinned (OpenSpec.ofChange fnExactDeadEndsSpec)

/-- ITS FALSE NEIGHBOUR: 'it returns false'. Refute it at one input. -/
def fnExactDeadEndsWrong : ChangeSpec := { name := "fnExactDeadEnds", fn := fun _ => fun
  | [d] => { results := [.lit (.bool false)], args := [d] }
  | _ => none }
def FnExactDeadEndsWrongFalsely : Prop := fnExactDeadEndsRow.holds Try.pinned (OpenSpec.ofChange fnExactDeadEndsWrong)

/-- 'laws.FnExactJunctions': WHATEVER THE INPUT: true; the input reads as it did. -/
def fnExactJunctionsSpec : ChangeSpec := { name := "fnExactJunctions", fn := fun _ => fun
  | [d] => { results := [.lit (.bool true)], args := [d] }
  | _ => none }
def fnExactJunctionsRow : OpenClaim := { program := "ytpaecckpdaiogaa", sum := "bc4020685be808a65de1d48847818b53f90e56637a6fb6ce3d766b0c3fc78df2", func := "loop.example/g00990/laws.FnExactJunctions", spec := "fnExactJunctions", unfollowed := true, recurses := true, apart := false }
def FnExactJunctionsSaid : Prop := fnExactJunctionsRow.holds Try.pinned (OpenSpec.ofChange fnExactJunctionsSpec)

/-- ITS FALSE NEIGHBOUR: 'it returns false'. Refute it at one input. -/
def fnExactJunctionsWrong : ChangeSpec := { name := "fnExactJunctions", fn := fun _ => fun
  | [d] => { results := [.lit (.bool false)], args := [d] }
  | _ => none }
def FnExactJunctionsWrongFalsely : Prop := fnExactJunctionsRow.holds Try.pinned (OpenSpec.ofChange fnExactJunctionsWrong)

/-- 'laws.FnExactCountStraight': WHATEVER THE INPUT: true; the input reads as it did. -/
def fnExactCountStraightSpec : ChangeSpec := { name := "fnExactCountStraight", fn := fun _ => fun
  | [d] => { results := [.lit (.bool true)], args := [d] }
  | _ => none }
def fnExactCountStraightRow : OpenClaim := { program := "ytpaecckpdaiogaa", sum := "bc4020685be808a65de1d48847818b53f90e56637a6fb6ce3d766b0c3fc78df2", func := "loop.example/g00990/laws.FnExactCountStraight", spec := "fnExactCountStraight", unfollowed := true, recurses := true, apart := false }
def FnExactCountStraightSaid : Prop := fnExactCountStraightRow.holds Try.pinned (OpenSpec.ofChange fnExactCountStraightSpec)

/-- ITS FALSE NEIGHBOUR: 'it returns false'. Refute it at one input. -/
def fnExactCountStraightWrong : ChangeSpec := { name := "fnExactCountStraight", fn := fun _ => fun
  | [d] => { results := [.lit (.bool false)], args := [d] }
  | _ => none }
def FnExactCountStraightWrongFalsely : Prop := fnExactCountStraightRow.holds Try.pinned (OpenSpec.ofChange fnExactCountStraightWrong)

/-- 'laws.FnExactBranchSum': WHATEVER THE INPUT: true; the input reads as it did. -/
def fnExactBranchSumSpec : ChangeSpec := { name := "fnExactBranchSum", fn := fun _ => fun
  | [d] => { results := [.lit (.bool true)], args := [d] }
  | _ => none }
def fnExactBranchSumRow : OpenClaim := { program := "ytpaecckpdaiogaa", sum := "bc4020685be808a65de1d48847818b53f90e56637a6fb6ce3d766b0c3fc78df2", func := "loop.example/g00990/laws.FnExactBranchSum", spec := "fnExactBranchSum", unfollowed := true, recurses := true, apart := false }
def FnExactBranchSumSaid : Prop := fnExactBranchSumRow.holds Try.pinned (OpenSpec.ofChange fnExactBranchSumSpec)

/-- ITS FALSE NEIGHBOUR: 'it returns false'. Refute it at one input. -/
def fnExactBranchSumWrong : ChangeSpec := { name := "fnExactBranchSum", fn := fun _ => fun
  | [d] => { results := [.lit (.bool false)], args := [d] }
  | _ => none }
def FnExactBranchSumWrongFalsely : Prop := fnExactBranchSumRow.holds Try.pinned (OpenSpec.ofChange fnExactBranchSumWrong)

/-- 'laws.FnExactFillDeadEnds': WHATEVER THE INPUT: true; the input reads as it did. -/
def fnExactFillDeadEndsSpec : ChangeSpec := { name := "fnExactFillDeadEnds", fn := fun _ => fun
  | [d1, d2] => { results := [.lit (.bool true)], args := [d1, d2] }
  | _ => none }
def fnExactFillDeadEndsRow : OpenClaim := { program := "ytpaecckpdaiogaa", sum := "bc4020685be808a65de1d48847818b53f90e56637a6fb6ce3d766b0c3fc78df2", func := "loop.example/g00990/laws.FnExactFillDeadEnds", spec := "fnExactFillDeadEnds", unfollowed := true, recurses := true, apart := false }
def FnExactFillDeadEndsSaid : Prop := fnExactFillDeadEndsRow.holds Try.pinned (OpenSpec.ofChange fnExactFillDeadEndsSpec)

/-- ITS FALSE NEIGHBOUR: 'it returns false'. Refute it at one input. -/
def fnExactFillDeadEndsWrong : ChangeSpec := { name := "fnExactFillDeadEnds", fn := fun _ => fun
  | [d1, d2] => { results := [.lit (.bool false)], args := [d1, d2] }
  | _ => none }
def FnExactFillDeadEndsWrongFalsely : Prop := fnExactFillDeadEndsRow.holds Try.pinned (OpenSpec.ofChange fnExactFillDeadEndsWrong)

/-- 'laws.FnExactIsPerfect': WHATEVER THE INPUT: true; the input reads as it did. -/
def fnExactIsPerfectSpec : ChangeSpec := { name := "fnExactIsPerfect", fn := fun _ => fun
  | [d] => { results := [.lit (.bool true)], args := [d] }
  | _ => none }
def fnExactIsPerfectRow : OpenClaim := { program := "ytpaecckpdaiogaa", sum := "bc4020685be808a65de1d48847818b53f90e56637a6fb6ce3d766b0c3fc78df2", func := "loop.example/g00990/laws.FnExactIsPerfect", spec := "fnExactIsPerfect", unfollowed := true, recurses := true, apart := false }
def FnExactIsPerfectSaid : Prop := fnExactIsPerfectRow.holds Try.pinned (OpenSpec.ofChange fnExactIsPerfectSpec)

/-- ITS FALSE NEIGHBOUR: 'it returns false'. Refute it at one input. -/
def fnExactIsPerfectWrong : ChangeSpec := { name := "fnExactIsPerfect", fn := fun _ => fun
  | [d] => { results := [.lit (.bool false)], args := [d] }
  | _ => none }
def FnExactIsPerfectWrongFalsely : Prop := fnExactIsPerfectRow.holds Try.pinned (OpenSpec.ofChange fnExactIsPerfectWrong)

/-- 'laws.FnExactCountLoops': WHATEVER THE INPUT: true; the input reads as it did. -/
def fnExactCountLoopsSpec : ChangeSpec := { name := "fnExactCountLoops", fn := fun _ => fun
  | [d] => { results := [.lit (.bool true)], args := [d] }
  | _ => none }
def fnExactCountLoopsRow : OpenClaim := { program := "ytpaecckpdaiogaa", sum := "bc4020685be808a65de1d48847818b53f90e56637a6fb6ce3d766b0c3fc78df2", func := "loop.example/g00990/laws.FnExactCountLoops", spec := "fnExactCountLoops", unfollowed := true, recurses := true, apart := false }
def FnExactCountLoopsSaid : Prop := fnExactCountLoopsRow.holds Try.pinned (OpenSpec.ofChange fnExactCountLoopsSpec)

/-- ITS FALSE NEIGHBOUR: 'it returns false'. Refute it at one input. -/
def fnExactCountLoopsWrong : ChangeSpec := { name := "fnExactCountLoops", fn := fun _ => fun
  | [d] => { results := [.lit (.bool false)], args := [d] }
  | _ => none }
def FnExactCountLoopsWrongFalsely : Prop := fnExactCountLoopsRow.holds Try.pinned (OpenSpec.ofChange fnExactCountLoopsWrong)

/-- 'laws.FnExactKruskalMaze': WHATEVER THE INPUT: true; the input reads as it did. -/
def fnExactKruskalMazeSpec : ChangeSpec := { name := "fnExactKruskalMaze", fn := fun _ => fun
  | [d1, d2] => { results := [.lit (.bool true)], args := [d1, d2] }
  | _ => none }
def fnExactKruskalMazeRow : OpenClaim := { program := "ytpaecckpdaiogaa", sum := "bc4020685be808a65de1d48847818b53f90e56637a6fb6ce3d766b0c3fc78df2", func := "loop.example/g00990/laws.FnExactKruskalMaze", spec := "fnExactKruskalMaze", unfollowed := true, recurses := true, apart := false }
def FnExactKruskalMazeSaid : Prop := fnExactKruskalMazeRow.holds Try.pinned (OpenSpec.ofChange fnExactKruskalMazeSpec)

/-- ITS FALSE NEIGHBOUR: 'it returns false'. Refute it at one input. -/
def fnExactKruskalMazeWrong : ChangeSpec := { name := "fnExactKruskalMaze", fn := fun _ => fun
  | [d1, d2] => { results := [.lit (.bool false)], args := [d1, d2] }
  | _ => none }
def FnExactKruskalMazeWrongFalsely : Prop := fnExactKruskalMazeRow.holds Try.pinned (OpenSpec.ofChange fnExactKruskalMazeWrong)

/-- 'laws.FnMazes': WHATEVER THE INPUT: true; the input reads as it did. -/
def fnMazesSpec : ChangeSpec := { name := "fnMazes", fn := fun _ => fun
  | [d] => { results := [.lit (.bool true)], args := [d] }
  | _ => none }
def fnMazesRow : OpenClaim := { program := "ytpaecckpdaiogaa", sum := "bc4020685be808a65de1d48847818b53f90e56637a6fb6ce3d766b0c3fc78df2", func := "loop.example/g00990/laws.FnMazes", spec := "fnMazes", apart := false }
def FnMazesSaid : Prop := fnMazesRow.holds Try.pinned (OpenSpec.ofChange fnMazesSpec)

/-- ITS FALSE NEIGHBOUR: 'it returns false'. Refute it at one input. -/
def fnMazesWrong : ChangeSpec := { name := "fnMazes", fn := fun _ => fun
  | [d] => { results := [.lit (.bool false)], args := [d] }
  | _ => none }
def FnMazesWrongFalsely : Prop := fnMazesRow.holds Try.pinned (OpenSpec.ofChange fnMazesWrong)

/-- 'laws.FnReach': WHATEVER THE INPUT: true; the input reads as it did. -/
def fnReachSpec : ChangeSpec := { name := "fnReach", fn := fun _ => fun
  | [d] => { results := [.lit (.bool true)], args := [d] }
  | _ => none }
def fnReachRow : OpenClaim := { program := "ytpaecckpdaiogaa", sum := "bc4020685be808a65de1d48847818b53f90e56637a6fb6ce3d766b0c3fc78df2", func := "loop.example/g00990/laws.FnReach", spec := "fnReach", unfollowed := true, recurses := true, apart := false }
def FnReachSaid : Prop := fnReachRow.holds Try.pinned (OpenSpec.ofChange fnReachSpec)

/-- ITS FALSE NEIGHBOUR: 'it returns false'. Refute it at one input. -/
def fnReachWrong : ChangeSpec := { name := "fnReach", fn := fun _ => fun
  | [d] => { results := [.lit (.bool false)], args := [d] }
  | _ => none }
def FnReachWrongFalsely : Prop := fnReachRow.holds Try.pinned (OpenSpec.ofChange fnReachWrong)

/-- 'laws.FnWays': WHATEVER THE INPUT: true; the input reads as it did. -/
def fnWaysSpec : ChangeSpec := { name := "fnWays", fn := fun _ => fun
  | [d] => { results := [.lit (.bool true)], args := [d] }
  | _ => none }
def fnWaysRow : OpenClaim := { program := "ytpaecckpdaiogaa", sum := "bc4020685be808a65de1d48847818b53f90e56637a6fb6ce3d766b0c3fc78df2", func := "loop.example/g00990/laws.FnWays", spec := "fnWays", unfollowed := true, recurses := true, apart := false }
def FnWaysSaid : Prop := fnWaysRow.holds Try.pinned (OpenSpec.ofChange fnWaysSpec)

/-- ITS FALSE NEIGHBOUR: 'it returns false'. Refute it at one input. -/
def fnWaysWrong : ChangeSpec := { name := "fnWays", fn := fun _ => fun
  | [d] => { results := [.lit (.bool false)], args := [d] }
  | _ => none }
def FnWaysWrongFalsely : Prop := fnWaysRow.holds Try.pinned (OpenSpec.ofChange fnWaysWrong)

/-- 'laws.FnPerfects': WHATEVER THE INPUT: true; the input reads as it did. -/
def fnPerfectsSpec : ChangeSpec := { name := "fnPerfects", fn := fun _ => fun
  | [d] => { results := [.lit (.bool true)], args := [d] }
  | _ => none }
def fnPerfectsRow : OpenClaim := { program := "ytpaecckpdaiogaa", sum := "bc4020685be808a65de1d48847818b53f90e56637a6fb6ce3d766b0c3fc78df2", func := "loop.example/g00990/laws.FnPerfects", spec := "fnPerfects", unfollowed := true, recurses := true, apart := false }
def FnPerfectsSaid : Prop := fnPerfectsRow.holds Try.pinned (OpenSpec.ofChange fnPerfectsSpec)

/-- ITS FALSE NEIGHBOUR: 'it returns false'. Refute it at one input. -/
def fnPerfectsWrong : ChangeSpec := { name := "fnPerfects", fn := fun _ => fun
  | [d] => { results := [.lit (.bool false)], args := [d] }
  | _ => none }
def FnPerfectsWrongFalsely : Prop := fnPerfectsRow.holds Try.pinned (OpenSpec.ofChange fnPerfectsWrong)

/- THE SECOND FORM. 'bulk': how many values and letters a reading holds, each counted each time it is reached (what is shared counts as often as it is met; a slice's spare places count too). A statement '..UptoSaid' is the law's where the arguments, and the package variables that the reading takes, are together of bulk at most 1048576: NARROWER than '..Said'. Prove '..Said' where nothing that the law and all that it calls make is longer than what came in: it says more and counts as full. Else prove '..UptoSaid'. A law counts once. -/
mutual
def uptoBulk {H : Type} : DataW H → Nat
  | .lit (.string bytes) => bytes.length + 1
  | .lit _ => 1
  | .nil => 1
  | .ptr d => uptoBulk d + 1
  | .slice elems spare => uptoBulkAll elems + uptoBulkAll spare + 1
  | .agg parts => uptoBulkAll parts + 1
  | .iface _ d => uptoBulk d + 1
  | .map entries => uptoBulkEntries entries + 1
  | .held _ => 1
def uptoBulkAll {H : Type} : List (DataW H) → Nat
  | [] => 0
  | d :: r => uptoBulk d + uptoBulkAll r
def uptoBulkEntries {H : Type} : List (Lit × DataW H) → Nat
  | [] => 0
  | x :: r => uptoBulkEntry x + uptoBulkEntries r
def uptoBulkEntry {H : Type} : Lit × DataW H → Nat
  | (.string bytes, d) => bytes.length + uptoBulk d + 1
  | (_, d) => uptoBulk d + 1
 end
def uptoSmall : (H : Type) → List (DataW H) → Bool := fun _ ds => decide (uptoBulkAll ds ≤ 1048576)
def OpenSpec.upto (s : _root_.Go.ChangeSpec) : _root_.Go.OpenSpec := { _root_.Go.OpenSpec.ofChange s with cond := some uptoSmall }

/-- 'laws.FnExactDeadEnds', WHERE WHAT IT READS IS OF BULK AT MOST 1048576: true; the input reads as it did. -/
def fnExactDeadEndsUptoRow : OpenClaim := { program := "ytpaecckpdaiogaa", sum := "bc4020685be808a65de1d48847818b53f90e56637a6fb6ce3d766b0c3fc78df2", func := "loop.example/g00990/laws.FnExactDeadEnds", spec := "fnExactDeadEnds", unfollowed := true, recurses := true, apart := false, narrowed := true }
def FnExactDeadEndsUptoSaid : Prop := fnExactDeadEndsUptoRow.holds Try.pinned (OpenSpec.upto fnExactDeadEndsSpec)

/-- 'laws.FnExactJunctions', WHERE WHAT IT READS IS OF BULK AT MOST 1048576: true; the input reads as it did. -/
def fnExactJunctionsUptoRow : OpenClaim := { program := "ytpaecckpdaiogaa", sum := "bc4020685be808a65de1d48847818b53f90e56637a6fb6ce3d766b0c3fc78df2", func := "loop.example/g00990/laws.FnExactJunctions", spec := "fnExactJunctions", unfollowed := true, recurses := true, apart := false, narrowed := true }
def FnExactJunctionsUptoSaid : Prop := fnExactJunctionsUptoRow.holds Try.pinned (OpenSpec.upto fnExactJunctionsSpec)

/-- 'laws.FnExactCountStraight', WHERE WHAT IT READS IS OF BULK AT MOST 1048576: true; the input reads as it did. -/
def fnExactCountStraightUptoRow : OpenClaim := { program := "ytpaecckpdaiogaa", sum := "bc4020685be808a65de1d48847818b53f90e56637a6fb6ce3d766b0c3fc78df2", func := "loop.example/g00990/laws.FnExactCountStraight", spec := "fnExactCountStraight", unfollowed := true, recurses := true, apart := false, narrowed := true }
def FnExactCountStraightUptoSaid : Prop := fnExactCountStraightUptoRow.holds Try.pinned (OpenSpec.upto fnExactCountStraightSpec)

/-- 'laws.FnExactBranchSum', WHERE WHAT IT READS IS OF BULK AT MOST 1048576: true; the input reads as it did. -/
def fnExactBranchSumUptoRow : OpenClaim := { program := "ytpaecckpdaiogaa", sum := "bc4020685be808a65de1d48847818b53f90e56637a6fb6ce3d766b0c3fc78df2", func := "loop.example/g00990/laws.FnExactBranchSum", spec := "fnExactBranchSum", unfollowed := true, recurses := true, apart := false, narrowed := true }
def FnExactBranchSumUptoSaid : Prop := fnExactBranchSumUptoRow.holds Try.pinned (OpenSpec.upto fnExactBranchSumSpec)

/-- 'laws.FnExactFillDeadEnds', WHERE WHAT IT READS IS OF BULK AT MOST 1048576: true; the input reads as it did. -/
def fnExactFillDeadEndsUptoRow : OpenClaim := { program := "ytpaecckpdaiogaa", sum := "bc4020685be808a65de1d48847818b53f90e56637a6fb6ce3d766b0c3fc78df2", func := "loop.example/g00990/laws.FnExactFillDeadEnds", spec := "fnExactFillDeadEnds", unfollowed := true, recurses := true, apart := false, narrowed := true }
def FnExactFillDeadEndsUptoSaid : Prop := fnExactFillDeadEndsUptoRow.holds Try.pinned (OpenSpec.upto fnExactFillDeadEndsSpec)

/-- 'laws.FnExactIsPerfect', WHERE WHAT IT READS IS OF BULK AT MOST 1048576: true; the input reads as it did. -/
def fnExactIsPerfectUptoRow : OpenClaim := { program := "ytpaecckpdaiogaa", sum := "bc4020685be808a65de1d48847818b53f90e56637a6fb6ce3d766b0c3fc78df2", func := "loop.example/g00990/laws.FnExactIsPerfect", spec := "fnExactIsPerfect", unfollowed := true, recurses := true, apart := false, narrowed := true }
def FnExactIsPerfectUptoSaid : Prop := fnExactIsPerfectUptoRow.holds Try.pinned (OpenSpec.upto fnExactIsPerfectSpec)

/-- 'laws.FnExactCountLoops', WHERE WHAT IT READS IS OF BULK AT MOST 1048576: true; the input reads as it did. -/
def fnExactCountLoopsUptoRow : OpenClaim := { program := "ytpaecckpdaiogaa", sum := "bc4020685be808a65de1d48847818b53f90e56637a6fb6ce3d766b0c3fc78df2", func := "loop.example/g00990/laws.FnExactCountLoops", spec := "fnExactCountLoops", unfollowed := true, recurses := true, apart := false, narrowed := true }
def FnExactCountLoopsUptoSaid : Prop := fnExactCountLoopsUptoRow.holds Try.pinned (OpenSpec.upto fnExactCountLoopsSpec)

/-- 'laws.FnExactKruskalMaze', WHERE WHAT IT READS IS OF BULK AT MOST 1048576: true; the input reads as it did. -/
def fnExactKruskalMazeUptoRow : OpenClaim := { program := "ytpaecckpdaiogaa", sum := "bc4020685be808a65de1d48847818b53f90e56637a6fb6ce3d766b0c3fc78df2", func := "loop.example/g00990/laws.FnExactKruskalMaze", spec := "fnExactKruskalMaze", unfollowed := true, recurses := true, apart := false, narrowed := true }
def FnExactKruskalMazeUptoSaid : Prop := fnExactKruskalMazeUptoRow.holds Try.pinned (OpenSpec.upto fnExactKruskalMazeSpec)

/-- 'laws.FnMazes', WHERE WHAT IT READS IS OF BULK AT MOST 1048576: true; the input reads as it did. -/
def fnMazesUptoRow : OpenClaim := { program := "ytpaecckpdaiogaa", sum := "bc4020685be808a65de1d48847818b53f90e56637a6fb6ce3d766b0c3fc78df2", func := "loop.example/g00990/laws.FnMazes", spec := "fnMazes", apart := false, narrowed := true }
def FnMazesUptoSaid : Prop := fnMazesUptoRow.holds Try.pinned (OpenSpec.upto fnMazesSpec)

/-- 'laws.FnReach', WHERE WHAT IT READS IS OF BULK AT MOST 1048576: true; the input reads as it did. -/
def fnReachUptoRow : OpenClaim := { program := "ytpaecckpdaiogaa", sum := "bc4020685be808a65de1d48847818b53f90e56637a6fb6ce3d766b0c3fc78df2", func := "loop.example/g00990/laws.FnReach", spec := "fnReach", unfollowed := true, recurses := true, apart := false, narrowed := true }
def FnReachUptoSaid : Prop := fnReachUptoRow.holds Try.pinned (OpenSpec.upto fnReachSpec)

/-- 'laws.FnWays', WHERE WHAT IT READS IS OF BULK AT MOST 1048576: true; the input reads as it did. -/
def fnWaysUptoRow : OpenClaim := { program := "ytpaecckpdaiogaa", sum := "bc4020685be808a65de1d48847818b53f90e56637a6fb6ce3d766b0c3fc78df2", func := "loop.example/g00990/laws.FnWays", spec := "fnWays", unfollowed := true, recurses := true, apart := false, narrowed := true }
def FnWaysUptoSaid : Prop := fnWaysUptoRow.holds Try.pinned (OpenSpec.upto fnWaysSpec)

/-- 'laws.FnPerfects', WHERE WHAT IT READS IS OF BULK AT MOST 1048576: true; the input reads as it did. -/
def fnPerfectsUptoRow : OpenClaim := { program := "ytpaecckpdaiogaa", sum := "bc4020685be808a65de1d48847818b53f90e56637a6fb6ce3d766b0c3fc78df2", func := "loop.example/g00990/laws.FnPerfects", spec := "fnPerfects", unfollowed := true, recurses := true, apart := false, narrowed := true }
def FnPerfectsUptoSaid : Prop := fnPerfectsUptoRow.holds Try.pinned (OpenSpec.upto fnPerfectsSpec)

end Rows
end Go.Proofs.Ytpaecckpdaiogaa
