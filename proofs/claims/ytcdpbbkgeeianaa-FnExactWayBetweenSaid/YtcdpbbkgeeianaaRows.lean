/-
  No cell of these rows narrows 'for every input' (looked for: loops, veiled, ifaces, maps, wideKeys, modest, calm, conditions, laid).
  DERIVED. THE GIVEN ROWS OF THIS SEAT. 12 by the template 'for every input the law returns true; each argument reads behind the call as it read before'; 0 by the template 'total and deterministic' (their statements: YtcdpbbkgeeianaaTotals.lean).
  GIVEN WITH THE SEED: the statements are not yours to turn. If you find one false, say at which input.
  Laid BY PROGRAM, IN A SANDBOX (cutbox-rows.mjs): the forced cells as the released guide's own fill.sh prints them over the translation 71e8e32121e427a4… (all of the seat's roots in one cut). By AI agents, Wed Nov 11 2026. No macro, syntax, notation, axiom, sorry.
-/
import Derived.Test.YtcdpbbkgeeianaaChecked
import GoSem.Claim
import GoSem.ClaimJoined
import GoSem.ClaimMapViews
import Derived.JoinedTies
import Derived.KernelRfl
namespace Go.Proofs.Ytcdpbbkgeeianaa
/- THE CELL 'sum', in the pinned program and in every row, IS THE sha256 OF THE DUMP (.gsa) THAT YtcdpbbkgeeianaaProg.lean LOADS. Nothing in Lean hashes anything: it is a label: what it is worth is what the hold of that sum in a sandbox is worth. -/
noncomputable def Try.pinned : Pinned := { name := "ytcdpbbkgeeianaa", sum := "71e8e32121e427a44a76736eb9527288a327b25745016533858dbc3e3d3f1789", checked := Try.checked }
namespace Rows
def none {H : Type} : Left H := { results := [], args := [] }

/-- 'laws.FnExactWalkWay': WHATEVER THE INPUT: true; the input reads as it did. -/
def fnExactWalkWaySpec : ChangeSpec := { name := "fnExactWalkWay", fn := fun _ => fun
  | [d1, d2, d3] => { results := [.lit (.bool true)], args := [d1, d2, d3] }
  | _ => none }
def fnExactWalkWayRow : OpenClaim := { program := "ytcdpbbkgeeianaa", sum := "71e8e32121e427a44a76736eb9527288a327b25745016533858dbc3e3d3f1789", func := "loop.example/g00990/laws.FnExactWalkWay", spec := "fnExactWalkWay", unfollowed := true, recurses := true, apart := false }
def FnExactWalkWaySaid : Prop := fnExactWalkWayRow.holds Try.pinned (OpenSpec.ofChange fnExactWalkWaySpec)

/-- ITS FALSE NEIGHBOUR: 'it returns false'. Refute it at one input. -/
def fnExactWalkWayWrong : ChangeSpec := { name := "fnExactWalkWay", fn := fun _ => fun
  | [d1, d2, d3] => { results := [.lit (.bool false)], args := [d1, d2, d3] }
  | _ => none }
def FnExactWalkWayWrongFalsely : Prop := fnExactWalkWayRow.holds Try.pinned (OpenSpec.ofChange fnExactWalkWayWrong)

/-- 'laws.FnExactCellsOn': WHATEVER THE INPUT: true; the input reads as it did. -/
def fnExactCellsOnSpec : ChangeSpec := { name := "fnExactCellsOn", fn := fun _ => fun
  | [d1, d2, d3] => { results := [.lit (.bool true)], args := [d1, d2, d3] }
  | _ => none }
def fnExactCellsOnRow : OpenClaim := { program := "ytcdpbbkgeeianaa", sum := "71e8e32121e427a44a76736eb9527288a327b25745016533858dbc3e3d3f1789", func := "loop.example/g00990/laws.FnExactCellsOn", spec := "fnExactCellsOn", unfollowed := true, recurses := true, apart := false }
def FnExactCellsOnSaid : Prop := fnExactCellsOnRow.holds Try.pinned (OpenSpec.ofChange fnExactCellsOnSpec)

/-- ITS FALSE NEIGHBOUR: 'it returns false'. Refute it at one input. -/
def fnExactCellsOnWrong : ChangeSpec := { name := "fnExactCellsOn", fn := fun _ => fun
  | [d1, d2, d3] => { results := [.lit (.bool false)], args := [d1, d2, d3] }
  | _ => none }
def FnExactCellsOnWrongFalsely : Prop := fnExactCellsOnRow.holds Try.pinned (OpenSpec.ofChange fnExactCellsOnWrong)

/-- 'laws.FnExactDistanceOf': WHATEVER THE INPUT: true; the input reads as it did. -/
def fnExactDistanceOfSpec : ChangeSpec := { name := "fnExactDistanceOf", fn := fun _ => fun
  | [d1, d2, d3] => { results := [.lit (.bool true)], args := [d1, d2, d3] }
  | _ => none }
def fnExactDistanceOfRow : OpenClaim := { program := "ytcdpbbkgeeianaa", sum := "71e8e32121e427a44a76736eb9527288a327b25745016533858dbc3e3d3f1789", func := "loop.example/g00990/laws.FnExactDistanceOf", spec := "fnExactDistanceOf", unfollowed := true, recurses := true, apart := false }
def FnExactDistanceOfSaid : Prop := fnExactDistanceOfRow.holds Try.pinned (OpenSpec.ofChange fnExactDistanceOfSpec)

/-- ITS FALSE NEIGHBOUR: 'it returns false'. Refute it at one input. -/
def fnExactDistanceOfWrong : ChangeSpec := { name := "fnExactDistanceOf", fn := fun _ => fun
  | [d1, d2, d3] => { results := [.lit (.bool false)], args := [d1, d2, d3] }
  | _ => none }
def FnExactDistanceOfWrongFalsely : Prop := fnExactDistanceOfRow.holds Try.pinned (OpenSpec.ofChange fnExactDistanceOfWrong)

/-- 'laws.FnExactFarthestFrom': WHATEVER THE INPUT: true; the input reads as it did. -/
def fnExactFarthestFromSpec : ChangeSpec := { name := "fnExactFarthestFrom", fn := fun _ => fun
  | [d1, d2] => { results := [.lit (.bool true)], args := [d1, d2] }
  | _ => none }
def fnExactFarthestFromRow : OpenClaim := { program := "ytcdpbbkgeeianaa", sum := "71e8e32121e427a44a76736eb9527288a327b25745016533858dbc3e3d3f1789", func := "loop.example/g00990/laws.FnExactFarthestFrom", spec := "fnExactFarthestFrom", unfollowed := true, recurses := true, apart := false }
def FnExactFarthestFromSaid : Prop := fnExactFarthestFromRow.holds Try.pinned (OpenSpec.ofChange fnExactFarthestFromSpec)

/-- ITS FALSE NEIGHBOUR: 'it returns false'. Refute it at one input. -/
def fnExactFarthestFromWrong : ChangeSpec := { name := "fnExactFarthestFrom", fn := fun _ => fun
  | [d1, d2] => { results := [.lit (.bool false)], args := [d1, d2] }
  | _ => none }
def FnExactFarthestFromWrongFalsely : Prop := fnExactFarthestFromRow.holds Try.pinned (OpenSpec.ofChange fnExactFarthestFromWrong)

/-- 'laws.FnExactReached': WHATEVER THE INPUT: true; the input reads as it did. -/
def fnExactReachedSpec : ChangeSpec := { name := "fnExactReached", fn := fun _ => fun
  | [d1, d2] => { results := [.lit (.bool true)], args := [d1, d2] }
  | _ => none }
def fnExactReachedRow : OpenClaim := { program := "ytcdpbbkgeeianaa", sum := "71e8e32121e427a44a76736eb9527288a327b25745016533858dbc3e3d3f1789", func := "loop.example/g00990/laws.FnExactReached", spec := "fnExactReached", unfollowed := true, recurses := true, apart := false }
def FnExactReachedSaid : Prop := fnExactReachedRow.holds Try.pinned (OpenSpec.ofChange fnExactReachedSpec)

/-- ITS FALSE NEIGHBOUR: 'it returns false'. Refute it at one input. -/
def fnExactReachedWrong : ChangeSpec := { name := "fnExactReached", fn := fun _ => fun
  | [d1, d2] => { results := [.lit (.bool false)], args := [d1, d2] }
  | _ => none }
def FnExactReachedWrongFalsely : Prop := fnExactReachedRow.holds Try.pinned (OpenSpec.ofChange fnExactReachedWrong)

/-- 'laws.FnExactCountParts': WHATEVER THE INPUT: true; the input reads as it did. -/
def fnExactCountPartsSpec : ChangeSpec := { name := "fnExactCountParts", fn := fun _ => fun
  | [d] => { results := [.lit (.bool true)], args := [d] }
  | _ => none }
def fnExactCountPartsRow : OpenClaim := { program := "ytcdpbbkgeeianaa", sum := "71e8e32121e427a44a76736eb9527288a327b25745016533858dbc3e3d3f1789", func := "loop.example/g00990/laws.FnExactCountParts", spec := "fnExactCountParts", unfollowed := true, recurses := true, apart := false }
def FnExactCountPartsSaid : Prop := fnExactCountPartsRow.holds Try.pinned (OpenSpec.ofChange fnExactCountPartsSpec)

/-- ITS FALSE NEIGHBOUR: 'it returns false'. Refute it at one input. -/
def fnExactCountPartsWrong : ChangeSpec := { name := "fnExactCountParts", fn := fun _ => fun
  | [d] => { results := [.lit (.bool false)], args := [d] }
  | _ => none }
def FnExactCountPartsWrongFalsely : Prop := fnExactCountPartsRow.holds Try.pinned (OpenSpec.ofChange fnExactCountPartsWrong)

/-- 'laws.FnExactIsConnected': WHATEVER THE INPUT: true; the input reads as it did. -/
def fnExactIsConnectedSpec : ChangeSpec := { name := "fnExactIsConnected", fn := fun _ => fun
  | [d] => { results := [.lit (.bool true)], args := [d] }
  | _ => none }
def fnExactIsConnectedRow : OpenClaim := { program := "ytcdpbbkgeeianaa", sum := "71e8e32121e427a44a76736eb9527288a327b25745016533858dbc3e3d3f1789", func := "loop.example/g00990/laws.FnExactIsConnected", spec := "fnExactIsConnected", unfollowed := true, recurses := true, apart := false }
def FnExactIsConnectedSaid : Prop := fnExactIsConnectedRow.holds Try.pinned (OpenSpec.ofChange fnExactIsConnectedSpec)

/-- ITS FALSE NEIGHBOUR: 'it returns false'. Refute it at one input. -/
def fnExactIsConnectedWrong : ChangeSpec := { name := "fnExactIsConnected", fn := fun _ => fun
  | [d] => { results := [.lit (.bool false)], args := [d] }
  | _ => none }
def FnExactIsConnectedWrongFalsely : Prop := fnExactIsConnectedRow.holds Try.pinned (OpenSpec.ofChange fnExactIsConnectedWrong)

/-- 'laws.FnExactWouldJoin': WHATEVER THE INPUT: true; the input reads as it did. -/
def fnExactWouldJoinSpec : ChangeSpec := { name := "fnExactWouldJoin", fn := fun _ => fun
  | [d1, d2] => { results := [.lit (.bool true)], args := [d1, d2] }
  | _ => none }
def fnExactWouldJoinRow : OpenClaim := { program := "ytcdpbbkgeeianaa", sum := "71e8e32121e427a44a76736eb9527288a327b25745016533858dbc3e3d3f1789", func := "loop.example/g00990/laws.FnExactWouldJoin", spec := "fnExactWouldJoin", unfollowed := true, recurses := true, apart := false }
def FnExactWouldJoinSaid : Prop := fnExactWouldJoinRow.holds Try.pinned (OpenSpec.ofChange fnExactWouldJoinSpec)

/-- ITS FALSE NEIGHBOUR: 'it returns false'. Refute it at one input. -/
def fnExactWouldJoinWrong : ChangeSpec := { name := "fnExactWouldJoin", fn := fun _ => fun
  | [d1, d2] => { results := [.lit (.bool false)], args := [d1, d2] }
  | _ => none }
def FnExactWouldJoinWrongFalsely : Prop := fnExactWouldJoinRow.holds Try.pinned (OpenSpec.ofChange fnExactWouldJoinWrong)

/-- 'laws.FnExactIsBridge': WHATEVER THE INPUT: true; the input reads as it did. -/
def fnExactIsBridgeSpec : ChangeSpec := { name := "fnExactIsBridge", fn := fun _ => fun
  | [d1, d2] => { results := [.lit (.bool true)], args := [d1, d2] }
  | _ => none }
def fnExactIsBridgeRow : OpenClaim := { program := "ytcdpbbkgeeianaa", sum := "71e8e32121e427a44a76736eb9527288a327b25745016533858dbc3e3d3f1789", func := "loop.example/g00990/laws.FnExactIsBridge", spec := "fnExactIsBridge", unfollowed := true, recurses := true, apart := false }
def FnExactIsBridgeSaid : Prop := fnExactIsBridgeRow.holds Try.pinned (OpenSpec.ofChange fnExactIsBridgeSpec)

/-- ITS FALSE NEIGHBOUR: 'it returns false'. Refute it at one input. -/
def fnExactIsBridgeWrong : ChangeSpec := { name := "fnExactIsBridge", fn := fun _ => fun
  | [d1, d2] => { results := [.lit (.bool false)], args := [d1, d2] }
  | _ => none }
def FnExactIsBridgeWrongFalsely : Prop := fnExactIsBridgeRow.holds Try.pinned (OpenSpec.ofChange fnExactIsBridgeWrong)

/-- 'laws.FnExactWayBetween': WHATEVER THE INPUT: true; the input reads as it did. -/
def fnExactWayBetweenSpec : ChangeSpec := { name := "fnExactWayBetween", fn := fun _ => fun
  | [d1, d2, d3] => { results := [.lit (.bool true)], args := [d1, d2, d3] }
  | _ => none }
def fnExactWayBetweenRow : OpenClaim := { program := "ytcdpbbkgeeianaa", sum := "71e8e32121e427a44a76736eb9527288a327b25745016533858dbc3e3d3f1789", func := "loop.example/g00990/laws.FnExactWayBetween", spec := "fnExactWayBetween", unfollowed := true, recurses := true, apart := false }
def FnExactWayBetweenSaid : Prop := fnExactWayBetweenRow.holds Try.pinned (OpenSpec.ofChange fnExactWayBetweenSpec)

/-- ITS FALSE NEIGHBOUR: 'it returns false'. Refute it at one input. -/
def fnExactWayBetweenWrong : ChangeSpec := { name := "fnExactWayBetween", fn := fun _ => fun
  | [d1, d2, d3] => { results := [.lit (.bool false)], args := [d1, d2, d3] }
  | _ => none }
def FnExactWayBetweenWrongFalsely : Prop := fnExactWayBetweenRow.holds Try.pinned (OpenSpec.ofChange fnExactWayBetweenWrong)

/-- 'laws.FnExactWayText': WHATEVER THE INPUT: true; the input reads as it did. -/
def fnExactWayTextSpec : ChangeSpec := { name := "fnExactWayText", fn := fun _ => fun
  | [d] => { results := [.lit (.bool true)], args := [d] }
  | _ => none }
def fnExactWayTextRow : OpenClaim := { program := "ytcdpbbkgeeianaa", sum := "71e8e32121e427a44a76736eb9527288a327b25745016533858dbc3e3d3f1789", func := "loop.example/g00990/laws.FnExactWayText", spec := "fnExactWayText", unfollowed := true, recurses := true, apart := false }
def FnExactWayTextSaid : Prop := fnExactWayTextRow.holds Try.pinned (OpenSpec.ofChange fnExactWayTextSpec)

/-- ITS FALSE NEIGHBOUR: 'it returns false'. Refute it at one input. -/
def fnExactWayTextWrong : ChangeSpec := { name := "fnExactWayText", fn := fun _ => fun
  | [d] => { results := [.lit (.bool false)], args := [d] }
  | _ => none }
def FnExactWayTextWrongFalsely : Prop := fnExactWayTextRow.holds Try.pinned (OpenSpec.ofChange fnExactWayTextWrong)

/-- 'laws.FnExactReverseWay': WHATEVER THE INPUT: true; the input reads as it did. -/
def fnExactReverseWaySpec : ChangeSpec := { name := "fnExactReverseWay", fn := fun _ => fun
  | [d] => { results := [.lit (.bool true)], args := [d] }
  | _ => none }
def fnExactReverseWayRow : OpenClaim := { program := "ytcdpbbkgeeianaa", sum := "71e8e32121e427a44a76736eb9527288a327b25745016533858dbc3e3d3f1789", func := "loop.example/g00990/laws.FnExactReverseWay", spec := "fnExactReverseWay", unfollowed := true, recurses := true, apart := false }
def FnExactReverseWaySaid : Prop := fnExactReverseWayRow.holds Try.pinned (OpenSpec.ofChange fnExactReverseWaySpec)

/-- ITS FALSE NEIGHBOUR: 'it returns false'. Refute it at one input. -/
def fnExactReverseWayWrong : ChangeSpec := { name := "fnExactReverseWay", fn := fun _ => fun
  | [d] => { results := [.lit (.bool false)], args := [d] }
  | _ => none }
def FnExactReverseWayWrongFalsely : Prop := fnExactReverseWayRow.holds Try.pinned (OpenSpec.ofChange fnExactReverseWayWrong)

/- THE SECOND FORM. 'bulk': how many values and letters a reading holds, each counted each time it is reached (what is shared counts as often as it is met; a slice's spare places count too). A statement '..UptoSaid' is the law's where the arguments, and the package variables that the reading takes, are together of bulk at most 1048576: NARROWER than '..Said'. Prove '..Said' where nothing that the law and all that it calls make is longer than what came in: it says more and counts as full. Else prove '..UptoSaid'. A law counts once. -/
mutual
def uptoBulk {H : Type} : DataW H → Nat
  | .lit (.string bytes) => bytes.length + 1
  | .lit _ => 1
  | .nil => 1
  | .ptr d => uptoBulk d + 1
  | .slice elems spare => uptoBulkAll elems + uptoBulkAll spare + 1
  | .agg parts => uptoBulkAll parts + 1
  | .iface _ d => uptoBulk d + 1
  | .map entries => uptoBulkEntries entries + 1
  | .held _ => 1
def uptoBulkAll {H : Type} : List (DataW H) → Nat
  | [] => 0
  | d :: r => uptoBulk d + uptoBulkAll r
def uptoBulkEntries {H : Type} : List (Lit × DataW H) → Nat
  | [] => 0
  | x :: r => uptoBulkEntry x + uptoBulkEntries r
def uptoBulkEntry {H : Type} : Lit × DataW H → Nat
  | (.string bytes, d) => bytes.length + uptoBulk d + 1
  | (_, d) => uptoBulk d + 1
 end
def uptoSmall : (H : Type) → List (DataW H) → Bool := fun _ ds => decide (uptoBulkAll ds ≤ 1048576)
def OpenSpec.upto (s : _root_.Go.ChangeSpec) : _root_.Go.OpenSpec := { _root_.Go.OpenSpec.ofChange s with cond := some uptoSmall }

/-- 'laws.FnExactWalkWay', WHERE WHAT IT READS IS OF BULK AT MOST 1048576: true; the input reads as it did. -/
def fnExactWalkWayUptoRow : OpenClaim := { program := "ytcdpbbkgeeianaa", sum := "71e8e32121e427a44a76736eb9527288a327b25745016533858dbc3e3d3f1789", func := "loop.example/g00990/laws.FnExactWalkWay", spec := "fnExactWalkWay", unfollowed := true, recurses := true, apart := false, narrowed := true }
def FnExactWalkWayUptoSaid : Prop := fnExactWalkWayUptoRow.holds Try.pinned (OpenSpec.upto fnExactWalkWaySpec)

/-- 'laws.FnExactCellsOn', WHERE WHAT IT READS IS OF BULK AT MOST 1048576: true; the input reads as it did. -/
def fnExactCellsOnUptoRow : OpenClaim := { program := "ytcdpbbkgeeianaa", sum := "71e8e32121e427a44a76736eb9527288a327b25745016533858dbc3e3d3f1789", func := "loop.example/g00990/laws.FnExactCellsOn", spec := "fnExactCellsOn", unfollowed := true, recurses := true, apart := false, narrowed := true }
def FnExactCellsOnUptoSaid : Prop := fnExactCellsOnUptoRow.holds Try.pinned (OpenSpec.upto fnExactCellsOnSpec)

/-- 'laws.FnExactDistanceOf', WHERE WHAT IT READS IS OF BULK AT MOST 1048576: true; the input reads as it did. -/
def fnExactDistanceOfUptoRow : OpenClaim := { program := "ytcdpbbkgeeianaa", sum := "71e8e32121e427a44a76736eb9527288a327b25745016533858dbc3e3d3f1789", func := "loop.example/g00990/laws.FnExactDistanceOf", spec := "fnExactDistanceOf", unfollowed := true, recurses := true, apart := false, narrowed := true }
def FnExactDistanceOfUptoSaid : Prop := fnExactDistanceOfUptoRow.holds Try.pinned (OpenSpec.upto fnExactDistanceOfSpec)

/-- 'laws.FnExactFarthestFrom', WHERE WHAT IT READS IS OF BULK AT MOST 1048576: true; the input reads as it did. -/
def fnExactFarthestFromUptoRow : OpenClaim := { program := "ytcdpbbkgeeianaa", sum := "71e8e32121e427a44a76736eb9527288a327b25745016533858dbc3e3d3f1789", func := "loop.example/g00990/laws.FnExactFarthestFrom", spec := "fnExactFarthestFrom", unfollowed := true, recurses := true, apart := false, narrowed := true }
def FnExactFarthestFromUptoSaid : Prop := fnExactFarthestFromUptoRow.holds Try.pinned (OpenSpec.upto fnExactFarthestFromSpec)

/-- 'laws.FnExactReached', WHERE WHAT IT READS IS OF BULK AT MOST 1048576: true; the input reads as it did. -/
def fnExactReachedUptoRow : OpenClaim := { program := "ytcdpbbkgeeianaa", sum := "71e8e32121e427a44a76736eb9527288a327b25745016533858dbc3e3d3f1789", func := "loop.example/g00990/laws.FnExactReached", spec := "fnExactReached", unfollowed := true, recurses := true, apart := false, narrowed := true }
def FnExactReachedUptoSaid : Prop := fnExactReachedUptoRow.holds Try.pinned (OpenSpec.upto fnExactReachedSpec)

/-- 'laws.FnExactCountParts', WHERE WHAT IT READS IS OF BULK AT MOST 1048576: true; the input reads as it did. -/
def fnExactCountPartsUptoRow : OpenClaim := { program := "ytcdpbbkgeeianaa", sum := "71e8e32121e427a44a76736eb9527288a327b25745016533858dbc3e3d3f1789", func := "loop.example/g00990/laws.FnExactCountParts", spec := "fnExactCountParts", unfollowed := true, recurses := true, apart := false, narrowed := true }
def FnExactCountPartsUptoSaid : Prop := fnExactCountPartsUptoRow.holds Try.pinned (OpenSpec.upto fnExactCountPartsSpec)

/-- 'laws.FnExactIsConnected', WHERE WHAT IT READS IS OF BULK AT MOST 1048576: true; the input reads as it did. -/
def fnExactIsConnectedUptoRow : OpenClaim := { program := "ytcdpbbkgeeianaa", sum := "71e8e32121e427a44a76736eb9527288a327b25745016533858dbc3e3d3f1789", func := "loop.example/g00990/laws.FnExactIsConnected", spec := "fnExactIsConnected", unfollowed := true, recurses := true, apart := false, narrowed := true }
def FnExactIsConnectedUptoSaid : Prop := fnExactIsConnectedUptoRow.holds Try.pinned (OpenSpec.upto fnExactIsConnectedSpec)

/-- 'laws.FnExactWouldJoin', WHERE WHAT IT READS IS OF BULK AT MOST 1048576: true; the input reads as it did. -/
def fnExactWouldJoinUptoRow : OpenClaim := { program := "ytcdpbbkgeeianaa", sum := "71e8e32121e427a44a76736eb9527288a327b25745016533858dbc3e3d3f1789", func := "loop.example/g00990/laws.FnExactWouldJoin", spec := "fnExactWouldJoin", unfollowed := true, recurses := true, apart := false, narrowed := true }
def FnExactWouldJoinUptoSaid : Prop := fnExactWouldJoinUptoRow.holds Try.pinned (OpenSpec.upto fnExactWouldJoinSpec)

/-- 'laws.FnExactIsBridge', WHERE WHAT IT READS IS OF BULK AT MOST 1048576: true; the input reads as it did. -/
def fnExactIsBridgeUptoRow : OpenClaim := { program := "ytcdpbbkgeeianaa", sum := "71e8e32121e427a44a76736eb9527288a327b25745016533858dbc3e3d3f1789", func := "loop.example/g00990/laws.FnExactIsBridge", spec := "fnExactIsBridge", unfollowed := true, recurses := true, apart := false, narrowed := true }
def FnExactIsBridgeUptoSaid : Prop := fnExactIsBridgeUptoRow.holds Try.pinned (OpenSpec.upto fnExactIsBridgeSpec)

/-- 'laws.FnExactWayBetween', WHERE WHAT IT READS IS OF BULK AT MOST 1048576: true; the input reads as it did. -/
def fnExactWayBetweenUptoRow : OpenClaim := { program := "ytcdpbbkgeeianaa", sum := "71e8e32121e427a44a76736eb9527288a327b25745016533858dbc3e3d3f1789", func := "loop.example/g00990/laws.FnExactWayBetween", spec := "fnExactWayBetween", unfollowed := true, recurses := true, apart := false, narrowed := true }
def FnExactWayBetweenUptoSaid : Prop := fnExactWayBetweenUptoRow.holds Try.pinned (OpenSpec.upto fnExactWayBetweenSpec)

/-- 'laws.FnExactWayText', WHERE WHAT IT READS IS OF BULK AT MOST 1048576: true; the input reads as it did. -/
def fnExactWayTextUptoRow : OpenClaim := { program := "ytcdpbbkgeeianaa", sum := "71e8e32121e427a44a76736eb9527288a327b25745016533858dbc3e3d3f1789", func := "loop.example/g00990/laws.FnExactWayText", spec := "fnExactWayText", unfollowed := true, recurses := true, apart := false, narrowed := true }
def FnExactWayTextUptoSaid : Prop := fnExactWayTextUptoRow.holds Try.pinned (OpenSpec.upto fnExactWayTextSpec)

/-- 'laws.FnExactReverseWay', WHERE WHAT IT READS IS OF BULK AT MOST 1048576: true; the input reads as it did. -/
def fnExactReverseWayUptoRow : OpenClaim := { program := "ytcdpbbkgeeianaa", sum := "71e8e32121e427a44a76736eb9527288a327b25745016533858dbc3e3d3f1789", func := "loop.example/g00990/laws.FnExactReverseWay", spec := "fnExactReverseWay", unfollowed := true, recurses := true, apart := false, narrowed := true }
def FnExactReverseWayUptoSaid : Prop := fnExactReverseWayUptoRow.holds Try.pinned (OpenSpec.upto fnExactReverseWaySpec)

end Rows
end Go.Proofs.Ytcdpbbkgeeianaa
