/- Plain Lean functions of the Go functions that this seat's laws reach, and for each the proof that a call of it comes to just that function's answer; laid by a program of this session over the kit's print. Conditions: those in each theorem's own statement. -/
import Derived.Test.YthhpdehpancdaaaProg
import Derived.Below
import Derived.Deep.Draws
import Derived.Deep.AppendLies
import Derived.Maps.AppendAt
import Derived.OwnWalk
import Derived.Laws.BytesArg
import Derived.Laws.MakeOwn
import Derived.Laws.OwnMore
import Derived.Deep.OwnRows
import Derived.Tactics
import Derived.Lib.ConvBytes
import Derived.Laws.Slices
import Derived.WalkKit
import Derived.KernelRfl
import Derived.RowKit3
import Derived.Deep.LoopGhost
import Derived.Deep.QuietTactic
import Derived.BigQuiet
import Derived.WideLaws
import Derived.Deep.DeepCutAuto
import Derived.Deep.CutBlock
import Derived.Deep.RegionHeld3
import Derived.Laws.Rows
import Derived.Lib.AppendStr
import Derived.ArgAppend
import Derived.Laws.IdiomCopy
import Derived.OrdersHeld
import Derived.Laws.BitsLemmas
import Derived.RowKit
import Derived.Shelf.Abstract
import Derived.Laws.CopyOwn
import Derived.Deep.RegionLaw
import Derived.Lib.SliceRun
import Derived.Test.YthhpdehpancdaaaWWords
import Derived.Test.YthhpdehpancdaaaWLast
import Derived.Test.YthhpdehpancdaaaWTab
import Derived.Test.YthhpdehpancdaaaWFour
import Derived.Test.YthhpdehpancdaaaWQPut
import Derived.Test.YthhpdehpancdaaaWApart
import Derived.Test.YthhpdehpancdaaaWArr
import Derived.Test.YthhpdehpancdaaaWZeros
import Derived.Test.YthhpdehpancdaaaWFoot
import Derived.Test.YthhpdehpancdaaaWKept
import Derived.Test.YthhpdehpancdaaaWShare
import Derived.Test.YthhpdehpancdaaaWN
import Derived.Test.YthhpdehpancdaaaWFootNe
import Derived.Test.YthhpdehpancdaaaWAt
import Derived.Test.YthhpdehpancdaaaWEqStruct
import Derived.Test.YthhpdehpancdaaaWRepsOne
import Derived.Test.YthhpdehpancdaaaWInv
import Derived.Test.YthhpdehpancdaaaWInvWords
import Derived.Test.YthhpdehpancdaaaWGuard
import Derived.Test.YthhpdehpancdaaaWNEv
import Derived.Test.YthhpdehpancdaaaWMore
namespace Go.Proofs.Ythhpdehpancdaaa.Q
open Go.RowKit Go.Proofs.YthhpdehpancdaaaW.PrintWords Go.Proofs.YthhpdehpancdaaaW.PrintLast Go.Proofs.YthhpdehpancdaaaW.PrintMore
attribute [local go_sem] max2_int min2_int max_two min_two max_three min_three max_four min_four   -- for this text's walks alone
set_option linter.unusedVariables false
set_option linter.unusedSimpArgs false



def errW : Option Int → Value
  | none => .nilIface
  | some c => .iface 0 (.int .i64 c)
theorem errW_none : errW none = .nilIface := rfl
theorem errW_some (c : Int) : errW (some c) = .iface 0 (.int .i64 c) := rfl

theorem info3 : (Try.prog.info? 3).map (fun i => (i.zero, i.size, i.bytes)) = some (some (.int .i64 0), 1, 8) := by kernel_rfl
theorem info5 : (Try.prog.info? 5).map (fun i => (i.zero, i.size, i.bytes)) = some (some (.int .u8 0), 1, 1) := by kernel_rfl
theorem info9 : (Try.prog.info? 9).map (fun i => (i.zero, i.size, i.bytes)) = some (some (.string ⟨#[]⟩), 1, 16) := by kernel_rfl
-- the values' own types

end Go.Proofs.Ythhpdehpancdaaa.Q
