/- Plain Lean functions of the Go functions that this seat's laws reach, and for each the proof that a call of it comes to just that function's answer; laid by a program of this session over the kit's print. Conditions: those in each theorem's own statement. -/
import Derived.Test.YtkglnlaefokpaaaProg
import Derived.Below
import Derived.Deep.Draws
import Derived.Deep.AppendLies
import Derived.Maps.AppendAt
import Derived.OwnWalk
import Derived.Laws.BytesArg
import Derived.Laws.MakeOwn
import Derived.Laws.OwnMore
import Derived.Deep.OwnRows
import Derived.Tactics
import Derived.Lib.ConvBytes
import Derived.Laws.Slices
import Derived.WalkKit
import Derived.KernelRfl
import Derived.RowKit3
import Derived.Deep.LoopGhost
import Derived.Deep.QuietTactic
import Derived.BigQuiet
import Derived.WideLaws
import Derived.Deep.DeepCutAuto
import Derived.Deep.CutBlock
import Derived.Deep.RegionHeld3
import Derived.Laws.Rows
import Derived.Lib.AppendStr
import Derived.ArgAppend
import Derived.Laws.IdiomCopy
import Derived.OrdersHeld
import Derived.Laws.BitsLemmas
import Derived.RowKit
import Derived.Test.YtkglnlaefokpaaaWWords
import Derived.Test.YtkglnlaefokpaaaWLast
import Derived.Test.YtkglnlaefokpaaaWTab
import Derived.Test.YtkglnlaefokpaaaWFour
import Derived.Test.YtkglnlaefokpaaaWQPut
import Derived.Test.YtkglnlaefokpaaaWApart
import Derived.Test.YtkglnlaefokpaaaWArr
import Derived.Test.YtkglnlaefokpaaaWZeros
import Derived.Test.YtkglnlaefokpaaaWFoot
import Derived.Test.YtkglnlaefokpaaaWKept
import Derived.Test.YtkglnlaefokpaaaWShare
import Derived.Test.YtkglnlaefokpaaaWN
import Derived.Test.YtkglnlaefokpaaaWFootNe
import Derived.Test.YtkglnlaefokpaaaWAt
import Derived.Test.YtkglnlaefokpaaaWEqStruct
import Derived.Test.YtkglnlaefokpaaaWRepsOne
import Derived.Test.YtkglnlaefokpaaaWInv
import Derived.Test.YtkglnlaefokpaaaWInvWords
import Derived.Test.YtkglnlaefokpaaaWGuard
import Derived.Test.YtkglnlaefokpaaaWNEv
import Derived.Test.YtkglnlaefokpaaaWMore
namespace Go.Proofs.Ytkglnlaefokpaaa.Q
open Go.RowKit Go.Proofs.YtkglnlaefokpaaaW.PrintWords Go.Proofs.YtkglnlaefokpaaaW.PrintLast Go.Proofs.YtkglnlaefokpaaaW.PrintMore
attribute [local go_sem] max2_int min2_int max_two min_two max_three min_three max_four min_four   -- for this text's walks alone
set_option linter.unusedVariables false
set_option linter.unusedSimpArgs false



def errW : Option Int → Value
  | none => .nilIface
  | some c => .iface 0 (.int .i64 c)
theorem errW_none : errW none = .nilIface := rfl
theorem errW_some (c : Int) : errW (some c) = .iface 0 (.int .i64 c) := rfl

-- the values' own types

end Go.Proofs.Ytkglnlaefokpaaa.Q
