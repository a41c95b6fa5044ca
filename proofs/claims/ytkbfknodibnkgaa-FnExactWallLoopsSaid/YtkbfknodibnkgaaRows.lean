/-
  No cell of these rows narrows 'for every input' (looked for: loops, veiled, ifaces, maps, wideKeys, modest, calm, conditions, laid).
  DERIVED. THE GIVEN ROWS OF THIS SEAT. 7 by the template 'for every input the law returns true; each argument reads behind the call as it read before'; 0 by the template 'total and deterministic' (their statements: YtkbfknodibnkgaaTotals.lean).
  GIVEN WITH THE SEED: the statements are not yours to turn. If you find one false, say at which input.
  Laid BY PROGRAM, IN A SANDBOX (cutbox-rows.mjs): the forced cells as the released guide's own fill.sh prints them over the translation 9b461b7784f29884… (all of the seat's roots in one cut). By AI agents, Wed Nov 11 2026. No macro, syntax, notation, axiom, sorry.
-/
import Derived.Test.YtkbfknodibnkgaaChecked
import GoSem.Claim
import GoSem.ClaimJoined
import GoSem.ClaimMapViews
import Derived.JoinedTies
import Derived.KernelRfl
namespace Go.Proofs.Ytkbfknodibnkgaa
/- THE CELL 'sum', in the pinned program and in every row, IS THE sha256 OF THE DUMP (.gsa) THAT YtkbfknodibnkgaaProg.lean LOADS. Nothing in Lean hashes anything: it is a label: what it is worth is what the hold of that sum in a sandbox is worth. -/
noncomputable def Try.pinned : Pinned := { name := "ytkbfknodibnkgaa", sum := "9b461b7784f298840c1397d1873925616e925b6a781a7b29bf2df38ab176adcf", checked := Try.checked }
namespace Rows
def none {H : Type} : Left H := { results := [], args := [] }

/-- 'laws.FnExactWalkWay': WHATEVER THE INPUT: true; the input reads as it did. -/
def fnExactWalkWaySpec : ChangeSpec := { name := "fnExactWalkWay", fn := fun _ => fun
  | [d1, d2, d3] => { results := [.lit (.bool true)], args := [d1, d2, d3] }
  | _ => none }
def fnExactWalkWayRow : OpenClaim := { program := "ytkbfknodibnkgaa", sum := "9b461b7784f298840c1397d1873925616e925b6a781a7b29bf2df38ab176adcf", func := "loop.example/g00990/laws.FnExactWalkWay", spec := "fnExactWalkWay", unfollowed := true, recurses := true, apart := false }
def FnExactWalkWaySaid : Prop := fnExactWalkWayRow.holds Try.pinned (OpenSpec.ofChange fnExactWalkWaySpec)

/-- ITS FALSE NEIGHBOUR: 'it returns false'. Refute it at one input. -/
def fnExactWalkWayWrong : ChangeSpec := { name := "fnExactWalkWay", fn := fun _ => fun
  | [d1, d2, d3] => { results := [.lit (.bool false)], args := [d1, d2, d3] }
  | _ => none }
def FnExactWalkWayWrongFalsely : Prop := fnExactWalkWayRow.holds Try.pinned (OpenSpec.ofChange fnExactWalkWayWrong)

/-- 'laws.FnExactReached': WHATEVER THE INPUT: true; the input reads as it did. -/
def fnExactReachedSpec : ChangeSpec := { name := "fnExactReached", fn := fun _ => fun
  | [d1, d2] => { results := [.lit (.bool true)], args := [d1, d2] }
  | _ => none }
def fnExactReachedRow : OpenClaim := { program := "ytkbfknodibnkgaa", sum := "9b461b7784f298840c1397d1873925616e925b6a781a7b29bf2df38ab176adcf", func := "loop.example/g00990/laws.FnExactReached", spec := "fnExactReached", unfollowed := true, recurses := true, apart := false }
def FnExactReachedSaid : Prop := fnExactReachedRow.holds Try.pinned (OpenSpec.ofChange fnExactReachedSpec)

/-- ITS FALSE NEIGHBOUR: 'it returns false'. Refute it at one input. -/
def fnExactReachedWrong : ChangeSpec := { name := "fnExactReached", fn := fun _ => fun
  | [d1, d2] => { results := [.lit (.bool false)], args := [d1, d2] }
  | _ => none }
def FnExactReachedWrongFalsely : Prop := fnExactReachedRow.holds Try.pinned (OpenSpec.ofChange fnExactReachedWrong)

/-- 'laws.FnExactCountParts': WHATEVER THE INPUT: true; the input reads as it did. -/
def fnExactCountPartsSpec : ChangeSpec := { name := "fnExactCountParts", fn := fun _ => fun
  | [d] => { results := [.lit (.bool true)], args := [d] }
  | _ => none }
def fnExactCountPartsRow : OpenClaim := { program := "ytkbfknodibnkgaa", sum := "9b461b7784f298840c1397d1873925616e925b6a781a7b29bf2df38ab176adcf", func := "loop.example/g00990/laws.FnExactCountParts", spec := "fnExactCountParts", unfollowed := true, recurses := true, apart := false }
def FnExactCountPartsSaid : Prop := fnExactCountPartsRow.holds Try.pinned (OpenSpec.ofChange fnExactCountPartsSpec)

/-- ITS FALSE NEIGHBOUR: 'it returns false'. Refute it at one input. -/
def fnExactCountPartsWrong : ChangeSpec := { name := "fnExactCountParts", fn := fun _ => fun
  | [d] => { results := [.lit (.bool false)], args := [d] }
  | _ => none }
def FnExactCountPartsWrongFalsely : Prop := fnExactCountPartsRow.holds Try.pinned (OpenSpec.ofChange fnExactCountPartsWrong)

/-- 'laws.FnExactIsConnected': WHATEVER THE INPUT: true; the input reads as it did. -/
def fnExactIsConnectedSpec : ChangeSpec := { name := "fnExactIsConnected", fn := fun _ => fun
  | [d] => { results := [.lit (.bool true)], args := [d] }
  | _ => none }
def fnExactIsConnectedRow : OpenClaim := { program := "ytkbfknodibnkgaa", sum := "9b461b7784f298840c1397d1873925616e925b6a781a7b29bf2df38ab176adcf", func := "loop.example/g00990/laws.FnExactIsConnected", spec := "fnExactIsConnected", unfollowed := true, recurses := true, apart := false }
def FnExactIsConnectedSaid : Prop := fnExactIsConnectedRow.holds Try.pinned (OpenSpec.ofChange fnExactIsConnectedSpec)

/-- ITS FALSE NEIGHBOUR: 'it returns false'. Refute it at one input. -/
def fnExactIsConnectedWrong : ChangeSpec := { name := "fnExactIsConnected", fn := fun _ => fun
  | [d] => { results := [.lit (.bool false)], args := [d] }
  | _ => none }
def FnExactIsConnectedWrongFalsely : Prop := fnExactIsConnectedRow.holds Try.pinned (OpenSpec.ofChange fnExactIsConnectedWrong)

/-- 'laws.FnExactWallParts': WHATEVER THE INPUT: true; the input reads as it did. -/
def fnExactWallPartsSpec : ChangeSpec := { name := "fnExactWallParts", fn := fun _ => fun
  | [d] => { results := [.lit (.bool true)], args := [d] }
  | _ => none }
def fnExactWallPartsRow : OpenClaim := { program := "ytkbfknodibnkgaa", sum := "9b461b7784f298840c1397d1873925616e925b6a781a7b29bf2df38ab176adcf", func := "loop.example/g00990/laws.FnExactWallParts", spec := "fnExactWallParts", unfollowed := true, recurses := true, apart := false }
def FnExactWallPartsSaid : Prop := fnExactWallPartsRow.holds Try.pinned (OpenSpec.ofChange fnExactWallPartsSpec)

/-- ITS FALSE NEIGHBOUR: 'it returns false'. Refute it at one input. -/
def fnExactWallPartsWrong : ChangeSpec := { name := "fnExactWallParts", fn := fun _ => fun
  | [d] => { results := [.lit (.bool false)], args := [d] }
  | _ => none }
def FnExactWallPartsWrongFalsely : Prop := fnExactWallPartsRow.holds Try.pinned (OpenSpec.ofChange fnExactWallPartsWrong)

/-- 'laws.FnExactWallLoops': WHATEVER THE INPUT: true; the input reads as it did. -/
def fnExactWallLoopsSpec : ChangeSpec := { name := "fnExactWallLoops", fn := fun _ => fun
  | [d] => { results := [.lit (.bool true)], args := [d] }
  | _ => none }
def fnExactWallLoopsRow : OpenClaim := { program := "ytkbfknodibnkgaa", sum := "9b461b7784f298840c1397d1873925616e925b6a781a7b29bf2df38ab176adcf", func := "loop.example/g00990/laws.FnExactWallLoops", spec := "fnExactWallLoops", unfollowed := true, recurses := true, apart := false }
def FnExactWallLoopsSaid : Prop := fnExactWallLoopsRow.holds Try.pinned (OpenSpec.ofChange fnExactWallLoopsSpec)

/-- ITS FALSE NEIGHBOUR: 'it returns false'. Refute it at one input. -/
def fnExactWallLoopsWrong : ChangeSpec := { name := "fnExactWallLoops", fn := fun _ => fun
  | [d] => { results := [.lit (.bool false)], args := [d] }
  | _ => none }
def FnExactWallLoopsWrongFalsely : Prop := fnExactWallLoopsRow.holds Try.pinned (OpenSpec.ofChange fnExactWallLoopsWrong)

/-- 'laws.FnExactParseWay': WHATEVER THE INPUT: true; the input reads as it did. -/
def fnExactParseWaySpec : ChangeSpec := { name := "fnExactParseWay", fn := fun _ => fun
  | [d] => { results := [.lit (.bool true)], args := [d] }
  | _ => none }
def fnExactParseWayRow : OpenClaim := { program := "ytkbfknodibnkgaa", sum := "9b461b7784f298840c1397d1873925616e925b6a781a7b29bf2df38ab176adcf", func := "loop.example/g00990/laws.FnExactParseWay", spec := "fnExactParseWay", apart := false }
def FnExactParseWaySaid : Prop := fnExactParseWayRow.holds Try.pinned (OpenSpec.ofChange fnExactParseWaySpec)

/-- ITS FALSE NEIGHBOUR: 'it returns false'. Refute it at one input. -/
def fnExactParseWayWrong : ChangeSpec := { name := "fnExactParseWay", fn := fun _ => fun
  | [d] => { results := [.lit (.bool false)], args := [d] }
  | _ => none }
def FnExactParseWayWrongFalsely : Prop := fnExactParseWayRow.holds Try.pinned (OpenSpec.ofChange fnExactParseWayWrong)

/- THE SECOND FORM. 'bulk': how many values and letters a reading holds, each counted each time it is reached (what is shared counts as often as it is met; a slice's spare places count too). A statement '..UptoSaid' is the law's where the arguments, and the package variables that the reading takes, are together of bulk at most 1048576: NARROWER than '..Said'. Prove '..Said' where nothing that the law and all that it calls make is longer than what came in: it says more and counts as full. Else prove '..UptoSaid'. A law counts once. -/
mutual
def uptoBulk {H : Type} : DataW H → Nat
  | .lit (.string bytes) => bytes.length + 1
  | .lit _ => 1
  | .nil => 1
  | .ptr d => uptoBulk d + 1
  | .slice elems spare => uptoBulkAll elems + uptoBulkAll spare + 1
  | .agg parts => uptoBulkAll parts + 1
  | .iface _ d => uptoBulk d + 1
  | .map entries => uptoBulkEntries entries + 1
  | .held _ => 1
def uptoBulkAll {H : Type} : List (DataW H) → Nat
  | [] => 0
  | d :: r => uptoBulk d + uptoBulkAll r
def uptoBulkEntries {H : Type} : List (Lit × DataW H) → Nat
  | [] => 0
  | x :: r => uptoBulkEntry x + uptoBulkEntries r
def uptoBulkEntry {H : Type} : Lit × DataW H → Nat
  | (.string bytes, d) => bytes.length + uptoBulk d + 1
  | (_, d) => uptoBulk d + 1
 end
def uptoSmall : (H : Type) → List (DataW H) → Bool := fun _ ds => decide (uptoBulkAll ds ≤ 1048576)
def OpenSpec.upto (s : _root_.Go.ChangeSpec) : _root_.Go.OpenSpec := { _root_.Go.OpenSpec.ofChange s with cond := some uptoSmall }

/-- 'laws.FnExactWalkWay', WHERE WHAT IT READS IS OF BULK AT MOST 1048576: true; the input reads as it did. -/
def fnExactWalkWayUptoRow : OpenClaim := { program := "ytkbfknodibnkgaa", sum := "9b461b7784f298840c1397d1873925616e925b6a781a7b29bf2df38ab176adcf", func := "loop.example/g00990/laws.FnExactWalkWay", spec := "fnExactWalkWay", unfollowed := true, recurses := true, apart := false, narrowed := true }
def FnExactWalkWayUptoSaid : Prop := fnExactWalkWayUptoRow.holds Try.pinned (OpenSpec.upto fnExactWalkWaySpec)

/-- 'laws.FnExactReached', WHERE WHAT IT READS IS OF BULK AT MOST 1048576: true; the input reads as it did. -/
def fnExactReachedUptoRow : OpenClaim := { program := "ytkbfknodibnkgaa", sum := "9b461b7784f298840c1397d1873925616e925b6a781a7b29bf2df38ab176adcf", func := "loop.example/g00990/laws.FnExactReached", spec := "fnExactReached", unfollowed := true, recurses := true, apart := false, narrowed := true }
def FnExactReachedUptoSaid : Prop := fnExactReachedUptoRow.holds Try.pinned (OpenSpec.upto fnExactReachedSpec)

/-- 'laws.FnExactCountParts', WHERE WHAT IT READS IS OF BULK AT MOST 1048576: true; the input reads as it did. -/
def fnExactCountPartsUptoRow : OpenClaim := { program := "ytkbfknodibnkgaa", sum := "9b461b7784f298840c1397d1873925616e925b6a781a7b29bf2df38ab176adcf", func := "loop.example/g00990/laws.FnExactCountParts", spec := "fnExactCountParts", unfollowed := true, recurses := true, apart := false, narrowed := true }
def FnExactCountPartsUptoSaid : Prop := fnExactCountPartsUptoRow.holds Try.pinned (OpenSpec.upto fnExactCountPartsSpec)

/-- 'laws.FnExactIsConnected', WHERE WHAT IT READS IS OF BULK AT MOST 1048576: true; the input reads as it did. -/
def fnExactIsConnectedUptoRow : OpenClaim := { program := "ytkbfknodibnkgaa", sum := "9b461b7784f298840c1397d1873925616e925b6a781a7b29bf2df38ab176adcf", func := "loop.example/g00990/laws.FnExactIsConnected", spec := "fnExactIsConnected", unfollowed := true, recurses := true, apart := false, narrowed := true }
def FnExactIsConnectedUptoSaid : Prop := fnExactIsConnectedUptoRow.holds Try.pinned (OpenSpec.upto fnExactIsConnectedSpec)

/-- 'laws.FnExactWallParts', WHERE WHAT IT READS IS OF BULK AT MOST 1048576: true; the input reads as it did. -/
def fnExactWallPartsUptoRow : OpenClaim := { program := "ytkbfknodibnkgaa", sum := "9b461b7784f298840c1397d1873925616e925b6a781a7b29bf2df38ab176adcf", func := "loop.example/g00990/laws.FnExactWallParts", spec := "fnExactWallParts", unfollowed := true, recurses := true, apart := false, narrowed := true }
def FnExactWallPartsUptoSaid : Prop := fnExactWallPartsUptoRow.holds Try.pinned (OpenSpec.upto fnExactWallPartsSpec)

/-- 'laws.FnExactWallLoops', WHERE WHAT IT READS IS OF BULK AT MOST 1048576: true; the input reads as it did. -/
def fnExactWallLoopsUptoRow : OpenClaim := { program := "ytkbfknodibnkgaa", sum := "9b461b7784f298840c1397d1873925616e925b6a781a7b29bf2df38ab176adcf", func := "loop.example/g00990/laws.FnExactWallLoops", spec := "fnExactWallLoops", unfollowed := true, recurses := true, apart := false, narrowed := true }
def FnExactWallLoopsUptoSaid : Prop := fnExactWallLoopsUptoRow.holds Try.pinned (OpenSpec.upto fnExactWallLoopsSpec)

/-- 'laws.FnExactParseWay', WHERE WHAT IT READS IS OF BULK AT MOST 1048576: true; the input reads as it did. -/
def fnExactParseWayUptoRow : OpenClaim := { program := "ytkbfknodibnkgaa", sum := "9b461b7784f298840c1397d1873925616e925b6a781a7b29bf2df38ab176adcf", func := "loop.example/g00990/laws.FnExactParseWay", spec := "fnExactParseWay", apart := false, narrowed := true }
def FnExactParseWayUptoSaid : Prop := fnExactParseWayUptoRow.holds Try.pinned (OpenSpec.upto fnExactParseWaySpec)

end Rows
end Go.Proofs.Ytkbfknodibnkgaa
