/-
  No cell of these rows narrows 'for every input' (looked for: loops, veiled, ifaces, maps, wideKeys, modest, calm, conditions, laid).
  DERIVED. THE GIVEN ROWS OF THIS SEAT. 12 by the template 'for every input the law returns true; each argument reads behind the call as it read before'; 0 by the template 'total and deterministic' (their statements: YtalobhnjecefpaaTotals.lean).
  GIVEN WITH THE SEED: the statements are not yours to turn. If you find one false, say at which input.
  Laid BY PROGRAM, IN A SANDBOX (cutbox-rows.mjs): the forced cells as the released guide's own fill.sh prints them over the translation 84ef11ef9a705f7e… (all of the seat's roots in one cut). By AI agents, Wed Nov 11 2026. No macro, syntax, notation, axiom, sorry.
-/
import Derived.Test.YtalobhnjecefpaaChecked
import GoSem.Claim
import GoSem.ClaimJoined
import GoSem.ClaimMapViews
import Derived.JoinedTies
import Derived.KernelRfl
namespace Go.Proofs.Ytalobhnjecefpaa
/- THE CELL 'sum', in the pinned program and in every row, IS THE sha256 OF THE DUMP (.gsa) THAT YtalobhnjecefpaaProg.lean LOADS. Nothing in Lean hashes anything: it is a label: what it is worth is what the hold of that sum in a sandbox is worth. -/
noncomputable def Try.pinned : Pinned := { name := "ytalobhnjecefpaa", sum := "84ef11ef9a705f7ed894f9395057a1a223155dcaa6967f9a7553dfa03677a40b", checked := Try.checked }
namespace Rows
def none {H : Type} : Left H := { results := [], args := [] }

/-- 'laws.FnExactNeighbor': WHATEVER THE INPUT: true; the input reads as it did. -/
def fnExactNeighborSpec : ChangeSpec := { name := "fnExactNeighbor", fn := fun _ => fun
  | [d1, d2, d3] => { results := [.lit (.bool true)], args := [d1, d2, d3] }
  | _ => none }
def fnExactNeighborRow : OpenClaim := { program := "ytalobhnjecefpaa", sum := "84ef11ef9a705f7ed894f9395057a1a223155dcaa6967f9a7553dfa03677a40b", func := "loop.example/g00990/laws.FnExactNeighbor", spec := "fnExactNeighbor", apart := false }
def FnExactNeighborSaid : Prop := fnExactNeighborRow.holds Try.pinned (OpenSpec.ofChange fnExactNeighborSpec)

/-- ITS FALSE NEIGHBOUR: 'it returns false'. Refute it at one input. -/
def fnExactNeighborWrong : ChangeSpec := { name := "fnExactNeighbor", fn := fun _ => fun
  | [d1, d2, d3] => { results := [.lit (.bool false)], args := [d1, d2, d3] }
  | _ => none }
def FnExactNeighborWrongFalsely : Prop := fnExactNeighborRow.holds Try.pinned (OpenSpec.ofChange fnExactNeighborWrong)

/-- 'laws.FnExactCornersOf': WHATEVER THE INPUT: true; the input reads as it did. -/
def fnExactCornersOfSpec : ChangeSpec := { name := "fnExactCornersOf", fn := fun _ => fun
  | [d1, d2] => { results := [.lit (.bool true)], args := [d1, d2] }
  | _ => none }
def fnExactCornersOfRow : OpenClaim := { program := "ytalobhnjecefpaa", sum := "84ef11ef9a705f7ed894f9395057a1a223155dcaa6967f9a7553dfa03677a40b", func := "loop.example/g00990/laws.FnExactCornersOf", spec := "fnExactCornersOf", apart := false }
def FnExactCornersOfSaid : Prop := fnExactCornersOfRow.holds Try.pinned (OpenSpec.ofChange fnExactCornersOfSpec)

/-- ITS FALSE NEIGHBOUR: 'it returns false'. Refute it at one input. -/
def fnExactCornersOfWrong : ChangeSpec := { name := "fnExactCornersOf", fn := fun _ => fun
  | [d1, d2] => { results := [.lit (.bool false)], args := [d1, d2] }
  | _ => none }
def FnExactCornersOfWrongFalsely : Prop := fnExactCornersOfRow.holds Try.pinned (OpenSpec.ofChange fnExactCornersOfWrong)

/-- 'laws.FnExactSetGap': WHATEVER THE INPUT: true; the input reads as it did. -/
def fnExactSetGapSpec : ChangeSpec := { name := "fnExactSetGap", fn := fun _ => fun
  | [d1, d2, d3] => { results := [.lit (.bool true)], args := [d1, d2, d3] }
  | _ => none }
def fnExactSetGapRow : OpenClaim := { program := "ytalobhnjecefpaa", sum := "84ef11ef9a705f7ed894f9395057a1a223155dcaa6967f9a7553dfa03677a40b", func := "loop.example/g00990/laws.FnExactSetGap", spec := "fnExactSetGap", apart := false }
def FnExactSetGapSaid : Prop := fnExactSetGapRow.holds Try.pinned (OpenSpec.ofChange fnExactSetGapSpec)

/-- ITS FALSE NEIGHBOUR: 'it returns false'. Refute it at one input. -/
def fnExactSetGapWrong : ChangeSpec := { name := "fnExactSetGap", fn := fun _ => fun
  | [d1, d2, d3] => { results := [.lit (.bool false)], args := [d1, d2, d3] }
  | _ => none }
def FnExactSetGapWrongFalsely : Prop := fnExactSetGapRow.holds Try.pinned (OpenSpec.ofChange fnExactSetGapWrong)

/-- 'laws.FnExactGapAt': WHATEVER THE INPUT: true; the input reads as it did. -/
def fnExactGapAtSpec : ChangeSpec := { name := "fnExactGapAt", fn := fun _ => fun
  | [d1, d2, d3] => { results := [.lit (.bool true)], args := [d1, d2, d3] }
  | _ => none }
def fnExactGapAtRow : OpenClaim := { program := "ytalobhnjecefpaa", sum := "84ef11ef9a705f7ed894f9395057a1a223155dcaa6967f9a7553dfa03677a40b", func := "loop.example/g00990/laws.FnExactGapAt", spec := "fnExactGapAt", apart := false }
def FnExactGapAtSaid : Prop := fnExactGapAtRow.holds Try.pinned (OpenSpec.ofChange fnExactGapAtSpec)

/-- ITS FALSE NEIGHBOUR: 'it returns false'. Refute it at one input. -/
def fnExactGapAtWrong : ChangeSpec := { name := "fnExactGapAt", fn := fun _ => fun
  | [d1, d2, d3] => { results := [.lit (.bool false)], args := [d1, d2, d3] }
  | _ => none }
def FnExactGapAtWrongFalsely : Prop := fnExactGapAtRow.holds Try.pinned (OpenSpec.ofChange fnExactGapAtWrong)

/-- 'laws.FnExactStep': WHATEVER THE INPUT: true; the input reads as it did. -/
def fnExactStepSpec : ChangeSpec := { name := "fnExactStep", fn := fun _ => fun
  | [d1, d2, d3] => { results := [.lit (.bool true)], args := [d1, d2, d3] }
  | _ => none }
def fnExactStepRow : OpenClaim := { program := "ytalobhnjecefpaa", sum := "84ef11ef9a705f7ed894f9395057a1a223155dcaa6967f9a7553dfa03677a40b", func := "loop.example/g00990/laws.FnExactStep", spec := "fnExactStep", apart := false }
def FnExactStepSaid : Prop := fnExactStepRow.holds Try.pinned (OpenSpec.ofChange fnExactStepSpec)

/-- ITS FALSE NEIGHBOUR: 'it returns false'. Refute it at one input. -/
def fnExactStepWrong : ChangeSpec := { name := "fnExactStep", fn := fun _ => fun
  | [d1, d2, d3] => { results := [.lit (.bool false)], args := [d1, d2, d3] }
  | _ => none }
def FnExactStepWrongFalsely : Prop := fnExactStepRow.holds Try.pinned (OpenSpec.ofChange fnExactStepWrong)

/-- 'laws.FnExactWaysFrom': WHATEVER THE INPUT: true; the input reads as it did. -/
def fnExactWaysFromSpec : ChangeSpec := { name := "fnExactWaysFrom", fn := fun _ => fun
  | [d1, d2] => { results := [.lit (.bool true)], args := [d1, d2] }
  | _ => none }
def fnExactWaysFromRow : OpenClaim := { program := "ytalobhnjecefpaa", sum := "84ef11ef9a705f7ed894f9395057a1a223155dcaa6967f9a7553dfa03677a40b", func := "loop.example/g00990/laws.FnExactWaysFrom", spec := "fnExactWaysFrom", apart := false }
def FnExactWaysFromSaid : Prop := fnExactWaysFromRow.holds Try.pinned (OpenSpec.ofChange fnExactWaysFromSpec)

/-- ITS FALSE NEIGHBOUR: 'it returns false'. Refute it at one input. -/
def fnExactWaysFromWrong : ChangeSpec := { name := "fnExactWaysFrom", fn := fun _ => fun
  | [d1, d2] => { results := [.lit (.bool false)], args := [d1, d2] }
  | _ => none }
def FnExactWaysFromWrongFalsely : Prop := fnExactWaysFromRow.holds Try.pinned (OpenSpec.ofChange fnExactWaysFromWrong)

/-- 'laws.FnClamped': WHATEVER THE INPUT: true; the input reads as it did. -/
def fnClampedSpec : ChangeSpec := { name := "fnClamped", fn := fun _ => fun
  | [d] => { results := [.lit (.bool true)], args := [d] }
  | _ => none }
def fnClampedRow : OpenClaim := { program := "ytalobhnjecefpaa", sum := "84ef11ef9a705f7ed894f9395057a1a223155dcaa6967f9a7553dfa03677a40b", func := "loop.example/g00990/laws.FnClamped", spec := "fnClamped", apart := false }
def FnClampedSaid : Prop := fnClampedRow.holds Try.pinned (OpenSpec.ofChange fnClampedSpec)

/-- ITS FALSE NEIGHBOUR: 'it returns false'. Refute it at one input. -/
def fnClampedWrong : ChangeSpec := { name := "fnClamped", fn := fun _ => fun
  | [d] => { results := [.lit (.bool false)], args := [d] }
  | _ => none }
def FnClampedWrongFalsely : Prop := fnClampedRow.holds Try.pinned (OpenSpec.ofChange fnClampedWrong)

/-- 'laws.FnCorners': WHATEVER THE INPUT: true; the input reads as it did. -/
def fnCornersSpec : ChangeSpec := { name := "fnCorners", fn := fun _ => fun
  | [d] => { results := [.lit (.bool true)], args := [d] }
  | _ => none }
def fnCornersRow : OpenClaim := { program := "ytalobhnjecefpaa", sum := "84ef11ef9a705f7ed894f9395057a1a223155dcaa6967f9a7553dfa03677a40b", func := "loop.example/g00990/laws.FnCorners", spec := "fnCorners", apart := false }
def FnCornersSaid : Prop := fnCornersRow.holds Try.pinned (OpenSpec.ofChange fnCornersSpec)

/-- ITS FALSE NEIGHBOUR: 'it returns false'. Refute it at one input. -/
def fnCornersWrong : ChangeSpec := { name := "fnCorners", fn := fun _ => fun
  | [d] => { results := [.lit (.bool false)], args := [d] }
  | _ => none }
def FnCornersWrongFalsely : Prop := fnCornersRow.holds Try.pinned (OpenSpec.ofChange fnCornersWrong)

/-- 'laws.FnGrids': WHATEVER THE INPUT: true; the input reads as it did. -/
def fnGridsSpec : ChangeSpec := { name := "fnGrids", fn := fun _ => fun
  | [d] => { results := [.lit (.bool true)], args := [d] }
  | _ => none }
def fnGridsRow : OpenClaim := { program := "ytalobhnjecefpaa", sum := "84ef11ef9a705f7ed894f9395057a1a223155dcaa6967f9a7553dfa03677a40b", func := "loop.example/g00990/laws.FnGrids", spec := "fnGrids", apart := false }
def FnGridsSaid : Prop := fnGridsRow.holds Try.pinned (OpenSpec.ofChange fnGridsSpec)

/-- ITS FALSE NEIGHBOUR: 'it returns false'. Refute it at one input. -/
def fnGridsWrong : ChangeSpec := { name := "fnGrids", fn := fun _ => fun
  | [d] => { results := [.lit (.bool false)], args := [d] }
  | _ => none }
def FnGridsWrongFalsely : Prop := fnGridsRow.holds Try.pinned (OpenSpec.ofChange fnGridsWrong)

/-- 'laws.FnExactEncodeHex': WHATEVER THE INPUT: true; the input reads as it did. -/
def fnExactEncodeHexSpec : ChangeSpec := { name := "fnExactEncodeHex", fn := fun _ => fun
  | [d] => { results := [.lit (.bool true)], args := [d] }
  | _ => none }
def fnExactEncodeHexRow : OpenClaim := { program := "ytalobhnjecefpaa", sum := "84ef11ef9a705f7ed894f9395057a1a223155dcaa6967f9a7553dfa03677a40b", func := "loop.example/g00990/laws.FnExactEncodeHex", spec := "fnExactEncodeHex", apart := false }
def FnExactEncodeHexSaid : Prop := fnExactEncodeHexRow.holds Try.pinned (OpenSpec.ofChange fnExactEncodeHexSpec)

/-- ITS FALSE NEIGHBOUR: 'it returns false'. Refute it at one input. -/
def fnExactEncodeHexWrong : ChangeSpec := { name := "fnExactEncodeHex", fn := fun _ => fun
  | [d] => { results := [.lit (.bool false)], args := [d] }
  | _ => none }
def FnExactEncodeHexWrongFalsely : Prop := fnExactEncodeHexRow.holds Try.pinned (OpenSpec.ofChange fnExactEncodeHexWrong)

/-- 'laws.FnExactDecodeHex': WHATEVER THE INPUT: true; the input reads as it did. -/
def fnExactDecodeHexSpec : ChangeSpec := { name := "fnExactDecodeHex", fn := fun _ => fun
  | [d] => { results := [.lit (.bool true)], args := [d] }
  | _ => none }
def fnExactDecodeHexRow : OpenClaim := { program := "ytalobhnjecefpaa", sum := "84ef11ef9a705f7ed894f9395057a1a223155dcaa6967f9a7553dfa03677a40b", func := "loop.example/g00990/laws.FnExactDecodeHex", spec := "fnExactDecodeHex", apart := false }
def FnExactDecodeHexSaid : Prop := fnExactDecodeHexRow.holds Try.pinned (OpenSpec.ofChange fnExactDecodeHexSpec)

/-- ITS FALSE NEIGHBOUR: 'it returns false'. Refute it at one input. -/
def fnExactDecodeHexWrong : ChangeSpec := { name := "fnExactDecodeHex", fn := fun _ => fun
  | [d] => { results := [.lit (.bool false)], args := [d] }
  | _ => none }
def FnExactDecodeHexWrongFalsely : Prop := fnExactDecodeHexRow.holds Try.pinned (OpenSpec.ofChange fnExactDecodeHexWrong)

/-- 'laws.FnExactCountPassages': WHATEVER THE INPUT: true; the input reads as it did. -/
def fnExactCountPassagesSpec : ChangeSpec := { name := "fnExactCountPassages", fn := fun _ => fun
  | [d] => { results := [.lit (.bool true)], args := [d] }
  | _ => none }
def fnExactCountPassagesRow : OpenClaim := { program := "ytalobhnjecefpaa", sum := "84ef11ef9a705f7ed894f9395057a1a223155dcaa6967f9a7553dfa03677a40b", func := "loop.example/g00990/laws.FnExactCountPassages", spec := "fnExactCountPassages", apart := false }
def FnExactCountPassagesSaid : Prop := fnExactCountPassagesRow.holds Try.pinned (OpenSpec.ofChange fnExactCountPassagesSpec)

/-- ITS FALSE NEIGHBOUR: 'it returns false'. Refute it at one input. -/
def fnExactCountPassagesWrong : ChangeSpec := { name := "fnExactCountPassages", fn := fun _ => fun
  | [d] => { results := [.lit (.bool false)], args := [d] }
  | _ => none }
def FnExactCountPassagesWrongFalsely : Prop := fnExactCountPassagesRow.holds Try.pinned (OpenSpec.ofChange fnExactCountPassagesWrong)

/- THE SECOND FORM. 'bulk': how many values and letters a reading holds, each counted each time it is reached (what is shared counts as often as it is met; a slice's spare places count too). A statement '..UptoSaid' is the law's where the arguments, and the package variables that the reading takes, are together of bulk at most 1048576: NARROWER than '..Said'. Prove '..Said' where nothing that the law and all that it calls make is longer than what came in: it says more and counts as full. Else prove '..UptoSaid'. A law counts once. -/
mutual
def uptoBulk {H : Type} : DataW H → Nat
  | .lit (.string bytes) => bytes.length + 1
  | .lit _ => 1
  | .nil => 1
  | .ptr d => uptoBulk d + 1
  | .slice elems spare => uptoBulkAll elems + uptoBulkAll spare + 1
  | .agg parts => uptoBulkAll parts + 1
  | .iface _ d => uptoBulk d + 1
  | .map entries => uptoBulkEntries entries + 1
  | .held _ => 1
def uptoBulkAll {H : Type} : List (DataW H) → Nat
  | [] => 0
  | d :: r => uptoBulk d + uptoBulkAll r
def uptoBulkEntries {H : Type} : List (Lit × DataW H) → Nat
  | [] => 0
  | x :: r => uptoBulkEntry x + uptoBulkEntries r
def uptoBulkEntry {H : Type} : Lit × DataW H → Nat
  | (.string bytes, d) => bytes.length + uptoBulk d + 1
  | (_, d) => uptoBulk d + 1
 end
def uptoSmall : (H : Type) → List (DataW H) → Bool := fun _ ds => decide (uptoBulkAll ds ≤ 1048576)
def OpenSpec.upto (s : _root_.Go.ChangeSpec) : _root_.Go.OpenSpec := { _root_.Go.OpenSpec.ofChange s with cond := some uptoSmall }

/-- 'laws.FnExactNeighbor', WHERE WHAT IT READS IS OF BULK AT MOST 1048576: true; the input reads as it did. -/
def fnExactNeighborUptoRow : OpenClaim := { program := "ytalobhnjecefpaa", sum := "84ef11ef9a705f7ed894f9395057a1a223155dcaa6967f9a7553dfa03677a40b", func := "loop.example/g00990/laws.FnExactNeighbor", spec := "fnExactNeighbor", apart := false, narrowed := true }
def FnExactNeighborUptoSaid : Prop := fnExactNeighborUptoRow.holds Try.pinned (OpenSpec.upto fnExactNeighborSpec)

/-- 'laws.FnExactCornersOf', WHERE WHAT IT READS IS OF BULK AT MOST 1048576: true; the input reads as it did. -/
def fnExactCornersOfUptoRow : OpenClaim := { program := "ytalobhnjecefpaa", sum := "84ef11ef9a705f7ed894f9395057a1a223155dcaa6967f9a7553dfa03677a40b", func := "loop.example/g00990/laws.FnExactCornersOf", spec := "fnExactCornersOf", apart := false, narrowed := true }
def FnExactCornersOfUptoSaid : Prop := fnExactCornersOfUptoRow.holds Try.pinned (OpenSpec.upto fnExactCornersOfSpec)

/-- 'laws.FnExactSetGap', WHERE WHAT IT READS IS OF BULK AT MOST 1048576: true; the input reads as it did. -/
def fnExactSetGapUptoRow : OpenClaim := { program := "ytalobhnjecefpaa", sum := "84ef11ef9a705f7ed894f9395057a1a223155dcaa6967f9a7553dfa03677a40b", func := "loop.example/g00990/laws.FnExactSetGap", spec := "fnExactSetGap", apart := false, narrowed := true }
def FnExactSetGapUptoSaid : Prop := fnExactSetGapUptoRow.holds Try.pinned (OpenSpec.upto fnExactSetGapSpec)

/-- 'laws.FnExactGapAt', WHERE WHAT IT READS IS OF BULK AT MOST 1048576: true; the input reads as it did. -/
def fnExactGapAtUptoRow : OpenClaim := { program := "ytalobhnjecefpaa", sum := "84ef11ef9a705f7ed894f9395057a1a223155dcaa6967f9a7553dfa03677a40b", func := "loop.example/g00990/laws.FnExactGapAt", spec := "fnExactGapAt", apart := false, narrowed := true }
def FnExactGapAtUptoSaid : Prop := fnExactGapAtUptoRow.holds Try.pinned (OpenSpec.upto fnExactGapAtSpec)

/-- 'laws.FnExactStep', WHERE WHAT IT READS IS OF BULK AT MOST 1048576: true; the input reads as it did. -/
def fnExactStepUptoRow : OpenClaim := { program := "ytalobhnjecefpaa", sum := "84ef11ef9a705f7ed894f9395057a1a223155dcaa6967f9a7553dfa03677a40b", func := "loop.example/g00990/laws.FnExactStep", spec := "fnExactStep", apart := false, narrowed := true }
def FnExactStepUptoSaid : Prop := fnExactStepUptoRow.holds Try.pinned (OpenSpec.upto fnExactStepSpec)

/-- 'laws.FnExactWaysFrom', WHERE WHAT IT READS IS OF BULK AT MOST 1048576: true; the input reads as it did. -/
def fnExactWaysFromUptoRow : OpenClaim := { program := "ytalobhnjecefpaa", sum := "84ef11ef9a705f7ed894f9395057a1a223155dcaa6967f9a7553dfa03677a40b", func := "loop.example/g00990/laws.FnExactWaysFrom", spec := "fnExactWaysFrom", apart := false, narrowed := true }
def FnExactWaysFromUptoSaid : Prop := fnExactWaysFromUptoRow.holds Try.pinned (OpenSpec.upto fnExactWaysFromSpec)

/-- 'laws.FnClamped', WHERE WHAT IT READS IS OF BULK AT MOST 1048576: true; the input reads as it did. -/
def fnClampedUptoRow : OpenClaim := { program := "ytalobhnjecefpaa", sum := "84ef11ef9a705f7ed894f9395057a1a223155dcaa6967f9a7553dfa03677a40b", func := "loop.example/g00990/laws.FnClamped", spec := "fnClamped", apart := false, narrowed := true }
def FnClampedUptoSaid : Prop := fnClampedUptoRow.holds Try.pinned (OpenSpec.upto fnClampedSpec)

/-- 'laws.FnCorners', WHERE WHAT IT READS IS OF BULK AT MOST 1048576: true; the input reads as it did. -/
def fnCornersUptoRow : OpenClaim := { program := "ytalobhnjecefpaa", sum := "84ef11ef9a705f7ed894f9395057a1a223155dcaa6967f9a7553dfa03677a40b", func := "loop.example/g00990/laws.FnCorners", spec := "fnCorners", apart := false, narrowed := true }
def FnCornersUptoSaid : Prop := fnCornersUptoRow.holds Try.pinned (OpenSpec.upto fnCornersSpec)

/-- 'laws.FnGrids', WHERE WHAT IT READS IS OF BULK AT MOST 1048576: true; the input reads as it did. -/
def fnGridsUptoRow : OpenClaim := { program := "ytalobhnjecefpaa", sum := "84ef11ef9a705f7ed894f9395057a1a223155dcaa6967f9a7553dfa03677a40b", func := "loop.example/g00990/laws.FnGrids", spec := "fnGrids", apart := false, narrowed := true }
def FnGridsUptoSaid : Prop := fnGridsUptoRow.holds Try.pinned (OpenSpec.upto fnGridsSpec)

/-- 'laws.FnExactEncodeHex', WHERE WHAT IT READS IS OF BULK AT MOST 1048576: true; the input reads as it did. -/
def fnExactEncodeHexUptoRow : OpenClaim := { program := "ytalobhnjecefpaa", sum := "84ef11ef9a705f7ed894f9395057a1a223155dcaa6967f9a7553dfa03677a40b", func := "loop.example/g00990/laws.FnExactEncodeHex", spec := "fnExactEncodeHex", apart := false, narrowed := true }
def FnExactEncodeHexUptoSaid : Prop := fnExactEncodeHexUptoRow.holds Try.pinned (OpenSpec.upto fnExactEncodeHexSpec)

/-- 'laws.FnExactDecodeHex', WHERE WHAT IT READS IS OF BULK AT MOST 1048576: true; the input reads as it did. -/
def fnExactDecodeHexUptoRow : OpenClaim := { program := "ytalobhnjecefpaa", sum := "84ef11ef9a705f7ed894f9395057a1a223155dcaa6967f9a7553dfa03677a40b", func := "loop.example/g00990/laws.FnExactDecodeHex", spec := "fnExactDecodeHex", apart := false, narrowed := true }
def FnExactDecodeHexUptoSaid : Prop := fnExactDecodeHexUptoRow.holds Try.pinned (OpenSpec.upto fnExactDecodeHexSpec)

/-- 'laws.FnExactCountPassages', WHERE WHAT IT READS IS OF BULK AT MOST 1048576: true; the input reads as it did. -/
def fnExactCountPassagesUptoRow : OpenClaim := { program := "ytalobhnjecefpaa", sum := "84ef11ef9a705f7ed894f9395057a1a223155dcaa6967f9a7553dfa03677a40b", func := "loop.example/g00990/laws.FnExactCountPassages", spec := "fnExactCountPassages", apart := false, narrowed := true }
def FnExactCountPassagesUptoSaid : Prop := fnExactCountPassagesUptoRow.holds Try.pinned (OpenSpec.upto fnExactCountPassagesSpec)

end Rows
end Go.Proofs.Ytalobhnjecefpaa
