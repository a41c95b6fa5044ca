/-
  No cell of these rows narrows 'for every input' (looked for: loops, veiled, ifaces, maps, wideKeys, modest, calm, conditions, laid).
  DERIVED. THE GIVEN ROWS OF THIS SEAT. 4 by the template 'for every input the law returns true; each argument reads behind the call as it read before'; 0 by the template 'total and deterministic' (their statements: YthhpdehpancdaaaTotals.lean).
  GIVEN WITH THE SEED: the statements are not yours to turn. If you find one false, say at which input.
  Laid BY PROGRAM, IN A SANDBOX (cutbox-rows.mjs): the forced cells as the released guide's own fill.sh prints them over the translation 03d94c11833ab18b… (all of the seat's roots in one cut). By AI agents, Wed Nov 11 2026. No macro, syntax, notation, axiom, sorry.
-/
import Derived.Test.YthhpdehpancdaaaChecked
import GoSem.Claim
import GoSem.ClaimJoined
import GoSem.ClaimMapViews
import Derived.JoinedTies
import Derived.KernelRfl
namespace Go.Proofs.Ythhpdehpancdaaa
/- THE CELL 'sum', in the pinned program and in every row, IS THE sha256 OF THE DUMP (.gsa) THAT YthhpdehpancdaaaProg.lean LOADS. Nothing in Lean hashes anything: it is a label: what it is worth is what the hold of that sum in a sandbox is worth. -/
noncomputable def Try.pinned : Pinned := { name := "ythhpdehpancdaaa", sum := "03d94c11833ab18b6a309ffa8028a2c6c3703391709ae5a541eb9d7c0158d32e", checked := Try.checked }
namespace Rows
def none {H : Type} : Left H := { results := [], args := [] }

/-- 'laws.FnExactWallParts': WHATEVER THE INPUT: true; the input reads as it did. -/
def fnExactWallPartsSpec : ChangeSpec := { name := "fnExactWallParts", fn := fun _ => fun
  | [d] => { results := [.lit (.bool true)], args := [d] }
  | _ => none }
def fnExactWallPartsRow : OpenClaim := { program := "ythhpdehpancdaaa", sum := "03d94c11833ab18b6a309ffa8028a2c6c3703391709ae5a541eb9d7c0158d32e", func := "loop.example/g00990/laws.FnExactWallParts", spec := "fnExactWallParts", unfollowed := true, recurses := true, apart := false }
def FnExactWallPartsSaid : Prop := fnExactWallPartsRow.holds Try.pinned (OpenSpec.ofChange fnExactWallPartsSpec)

/-- ITS FALSE NEIGHBOUR: 'it returns false'. Refute it at one input. -/
def fnExactWallPartsWrong : ChangeSpec := { name := "fnExactWallParts", fn := fun _ => fun
  | [d] => { results := [.lit (.bool false)], args := [d] }
  | _ => none }
def FnExactWallPartsWrongFalsely : Prop := fnExactWallPartsRow.holds Try.pinned (OpenSpec.ofChange fnExactWallPartsWrong)

/-- 'laws.FnExactWallLoops': WHATEVER THE INPUT: true; the input reads as it did. -/
def fnExactWallLoopsSpec : ChangeSpec := { name := "fnExactWallLoops", fn := fun _ => fun
  | [d] => { results := [.lit (.bool true)], args := [d] }
  | _ => none }
def fnExactWallLoopsRow : OpenClaim := { program := "ythhpdehpancdaaa", sum := "03d94c11833ab18b6a309ffa8028a2c6c3703391709ae5a541eb9d7c0158d32e", func := "loop.example/g00990/laws.FnExactWallLoops", spec := "fnExactWallLoops", unfollowed := true, recurses := true, apart := false }
def FnExactWallLoopsSaid : Prop := fnExactWallLoopsRow.holds Try.pinned (OpenSpec.ofChange fnExactWallLoopsSpec)

/-- ITS FALSE NEIGHBOUR: 'it returns false'. Refute it at one input. -/
def fnExactWallLoopsWrong : ChangeSpec := { name := "fnExactWallLoops", fn := fun _ => fun
  | [d] => { results := [.lit (.bool false)], args := [d] }
  | _ => none }
def FnExactWallLoopsWrongFalsely : Prop := fnExactWallLoopsRow.holds Try.pinned (OpenSpec.ofChange fnExactWallLoopsWrong)

/-- 'laws.FnExactSplitFields': WHATEVER THE INPUT: true; the input reads as it did. -/
def fnExactSplitFieldsSpec : ChangeSpec := { name := "fnExactSplitFields", fn := fun _ => fun
  | [d] => { results := [.lit (.bool true)], args := [d] }
  | _ => none }
def fnExactSplitFieldsRow : OpenClaim := { program := "ythhpdehpancdaaa", sum := "03d94c11833ab18b6a309ffa8028a2c6c3703391709ae5a541eb9d7c0158d32e", func := "loop.example/g00990/laws.FnExactSplitFields", spec := "fnExactSplitFields", apart := false }
def FnExactSplitFieldsSaid : Prop := fnExactSplitFieldsRow.holds Try.pinned (OpenSpec.ofChange fnExactSplitFieldsSpec)

/-- ITS FALSE NEIGHBOUR: 'it returns false'. Refute it at one input. -/
def fnExactSplitFieldsWrong : ChangeSpec := { name := "fnExactSplitFields", fn := fun _ => fun
  | [d] => { results := [.lit (.bool false)], args := [d] }
  | _ => none }
def FnExactSplitFieldsWrongFalsely : Prop := fnExactSplitFieldsRow.holds Try.pinned (OpenSpec.ofChange fnExactSplitFieldsWrong)

/-- 'laws.FnExactParseWay': WHATEVER THE INPUT: true; the input reads as it did. -/
def fnExactParseWaySpec : ChangeSpec := { name := "fnExactParseWay", fn := fun _ => fun
  | [d] => { results := [.lit (.bool true)], args := [d] }
  | _ => none }
def fnExactParseWayRow : OpenClaim := { program := "ythhpdehpancdaaa", sum := "03d94c11833ab18b6a309ffa8028a2c6c3703391709ae5a541eb9d7c0158d32e", func := "loop.example/g00990/laws.FnExactParseWay", spec := "fnExactParseWay", apart := false }
def FnExactParseWaySaid : Prop := fnExactParseWayRow.holds Try.pinned (OpenSpec.ofChange fnExactParseWaySpec)

/-- ITS FALSE NEIGHBOUR: 'it returns false'. Refute it at one input. -/
def fnExactParseWayWrong : ChangeSpec := { name := "fnExactParseWay", fn := fun _ => fun
  | [d] => { results := [.lit (.bool false)], args := [d] }
  | _ => none }
def FnExactParseWayWrongFalsely : Prop := fnExactParseWayRow.holds Try.pinned (OpenSpec.ofChange fnExactParseWayWrong)

/- THE SECOND FORM. 'bulk': how many values and letters a reading holds, each counted each time it is reached (what is shared counts as often as it is met; a slice's spare places count too). A statement '..UptoSaid' is the law's where the arguments, and the package variables that the reading takes, are together of bulk at most 1048576: NARROWER than '..Said'. Prove '..Said' where nothing that the law and all that it calls make is longer than what came in: it says more and counts as full. Else prove '..UptoSaid'. A law counts once. -/
mutual
def uptoBulk {H : Type} : DataW H → Nat
  | .lit (.string bytes) => bytes.length + 1
  | .lit _ => 1
  | .nil => 1
  | .ptr d => uptoBulk d + 1
  | .slice elems spare => uptoBulkAll elems + uptoBulkAll spare + 1
  | .agg parts => uptoBulkAll parts + 1
  | .iface _ d => uptoBulk d + 1
  | .map entries => uptoBulkEntries entries + 1
  | .held _ => 1
def uptoBulkAll {H : Type} : List (DataW H) → Nat
  | [] => 0
  | d :: r => uptoBulk d + uptoBulkAll r
def uptoBulkEntries {H : Type} : List (Lit × DataW H) → Nat
  | [] => 0
  | x :: r => uptoBulkEntry x + uptoBulkEntries r
def uptoBulkEntry {H : Type} : Lit × DataW H → Nat
  | (.string bytes, d) => bytes.length + uptoBulk d + 1
  | (_, d) => uptoBulk d + 1
 end
def uptoSmall : (H : Type) → List (DataW H) → Bool := fun _ ds => decide (uptoBulkAll ds ≤ 1048576)
def OpenSpec.upto (s : _root_.Go.ChangeSpec) : _root_.Go.OpenSpec := { _root_.Go.OpenSpec.ofChange s with cond := some uptoSmall }

/-- 'laws.FnExactWallParts', WHERE WHAT IT READS IS OF BULK AT MOST 1048576: true; the input reads as it did. -/
def fnExactWallPartsUptoRow : OpenClaim := { program := "ythhpdehpancdaaa", sum := "03d94c11833ab18b6a309ffa8028a2c6c3703391709ae5a541eb9d7c0158d32e", func := "loop.example/g00990/laws.FnExactWallParts", spec := "fnExactWallParts", unfollowed := true, recurses := true, apart := false, narrowed := true }
def FnExactWallPartsUptoSaid : Prop := fnExactWallPartsUptoRow.holds Try.pinned (OpenSpec.upto fnExactWallPartsSpec)

/-- 'laws.FnExactWallLoops', WHERE WHAT IT READS IS OF BULK AT MOST 1048576: true; the input reads as it did. -/
def fnExactWallLoopsUptoRow : OpenClaim := { program := "ythhpdehpancdaaa", sum := "03d94c11833ab18b6a309ffa8028a2c6c3703391709ae5a541eb9d7c0158d32e", func := "loop.example/g00990/laws.FnExactWallLoops", spec := "fnExactWallLoops", unfollowed := true, recurses := true, apart := false, narrowed := true }
def FnExactWallLoopsUptoSaid : Prop := fnExactWallLoopsUptoRow.holds Try.pinned (OpenSpec.upto fnExactWallLoopsSpec)

/-- 'laws.FnExactSplitFields', WHERE WHAT IT READS IS OF BULK AT MOST 1048576: true; the input reads as it did. -/
def fnExactSplitFieldsUptoRow : OpenClaim := { program := "ythhpdehpancdaaa", sum := "03d94c11833ab18b6a309ffa8028a2c6c3703391709ae5a541eb9d7c0158d32e", func := "loop.example/g00990/laws.FnExactSplitFields", spec := "fnExactSplitFields", apart := false, narrowed := true }
def FnExactSplitFieldsUptoSaid : Prop := fnExactSplitFieldsUptoRow.holds Try.pinned (OpenSpec.upto fnExactSplitFieldsSpec)

/-- 'laws.FnExactParseWay', WHERE WHAT IT READS IS OF BULK AT MOST 1048576: true; the input reads as it did. -/
def fnExactParseWayUptoRow : OpenClaim := { program := "ythhpdehpancdaaa", sum := "03d94c11833ab18b6a309ffa8028a2c6c3703391709ae5a541eb9d7c0158d32e", func := "loop.example/g00990/laws.FnExactParseWay", spec := "fnExactParseWay", apart := false, narrowed := true }
def FnExactParseWayUptoSaid : Prop := fnExactParseWayUptoRow.holds Try.pinned (OpenSpec.upto fnExactParseWaySpec)

end Rows
end Go.Proofs.Ythhpdehpancdaaa
