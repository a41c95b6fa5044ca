/- The plain law FnExactConstants: for every input that its Go types allow, the printed functions of the program and of the reference answer so that the law's own function says true. No further condition. -/
import Derived.Test.YtkglnlaefokpaaaQx0
import Derived.Test.YtkglnlaefokpaaaQx1
namespace Go.Proofs.Ytkglnlaefokpaaa.Pure
open Go.RowKit Go.Proofs.Ytkglnlaefokpaaa.Q Go.Proofs.YtkglnlaefokpaaaW.PrintWords Go.Proofs.YtkglnlaefokpaaaW.PrintLast Go.Proofs.YtkglnlaefokpaaaW.PrintMore
set_option linter.unusedVariables false
set_option linter.unusedSimpArgs false

theorem FnExactConstants : laws_FnExactConstants.Pure := rfl

end Go.Proofs.Ytkglnlaefokpaaa.Pure
