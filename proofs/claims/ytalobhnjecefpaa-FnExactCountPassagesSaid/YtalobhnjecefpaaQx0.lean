/- Plain Lean functions of the Go functions that this seat's laws reach, and for each the proof that a call of it comes to just that function's answer; laid by a program of this session over the kit's print. Conditions: those in each theorem's own statement. -/
import Derived.Test.YtalobhnjecefpaaProg
import Derived.Below
import Derived.Deep.Draws
import Derived.Deep.AppendLies
import Derived.Maps.AppendAt
import Derived.OwnWalk
import Derived.Laws.BytesArg
import Derived.Laws.MakeOwn
import Derived.Laws.OwnMore
import Derived.Deep.OwnRows
import Derived.Tactics
import Derived.Lib.ConvBytes
import Derived.Laws.Slices
import Derived.WalkKit
import Derived.KernelRfl
import Derived.RowKit3
import Derived.Deep.LoopGhost
import Derived.Deep.QuietTactic
import Derived.BigQuiet
import Derived.WideLaws
import Derived.Deep.DeepCutAuto
import Derived.Deep.CutBlock
import Derived.Deep.RegionHeld3
import Derived.Laws.Rows
import Derived.Lib.AppendStr
import Derived.ArgAppend
import Derived.Laws.IdiomCopy
import Derived.OrdersHeld
import Derived.Laws.BitsLemmas
import Derived.RowKit
import Derived.Test.YtalobhnjecefpaaWWords
import Derived.Test.YtalobhnjecefpaaWLast
import Derived.Test.YtalobhnjecefpaaWTab
import Derived.Test.YtalobhnjecefpaaWFour
import Derived.Test.YtalobhnjecefpaaWQPut
import Derived.Test.YtalobhnjecefpaaWApart
import Derived.Test.YtalobhnjecefpaaWArr
import Derived.Test.YtalobhnjecefpaaWZeros
import Derived.Test.YtalobhnjecefpaaWFoot
import Derived.Test.YtalobhnjecefpaaWKept
import Derived.Test.YtalobhnjecefpaaWShare
import Derived.Test.YtalobhnjecefpaaWN
import Derived.Test.YtalobhnjecefpaaWFootNe
import Derived.Test.YtalobhnjecefpaaWAt
import Derived.Test.YtalobhnjecefpaaWEqStruct
import Derived.Test.YtalobhnjecefpaaWRepsOne
import Derived.Test.YtalobhnjecefpaaWInv
import Derived.Test.YtalobhnjecefpaaWInvWords
import Derived.Test.YtalobhnjecefpaaWGuard
import Derived.Test.YtalobhnjecefpaaWNEv
import Derived.Test.YtalobhnjecefpaaWMore
namespace Go.Proofs.Ytalobhnjecefpaa.Q
open Go.RowKit Go.Proofs.YtalobhnjecefpaaW.PrintWords Go.Proofs.YtalobhnjecefpaaW.PrintLast Go.Proofs.YtalobhnjecefpaaW.PrintMore
attribute [local go_sem] max2_int min2_int max_two min_two max_three min_three max_four min_four   -- for this text's walks alone
set_option linter.unusedVariables false
set_option linter.unusedSimpArgs false



def errW : Option Int → Value
  | none => .nilIface
  | some c => .iface 0 (.int .i64 c)
theorem errW_none : errW none = .nilIface := rfl
theorem errW_some (c : Int) : errW (some c) = .iface 0 (.int .i64 c) := rfl

theorem info3 : (Try.prog.info? 3).map (fun i => (i.zero, i.size, i.bytes)) = some (some (.int .i64 0), 1, 8) := by kernel_rfl
theorem info5 : (Try.prog.info? 5).map (fun i => (i.zero, i.size, i.bytes)) = some (some (.int .u8 0), 1, 1) := by kernel_rfl
-- the values' own types

end Go.Proofs.Ytalobhnjecefpaa.Q
