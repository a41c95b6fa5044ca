/- The plain law FnExactTurnRight: for every input that its Go types allow, the printed functions of the program and of the reference answer so that the law's own function says true. No further condition. -/
import Derived.Test.YtkglnlaefokpaaaQx0
import Derived.Test.YtkglnlaefokpaaaQx1
import Derived.Test.YtkglnlaefokpaaaQx2
namespace Go.Proofs.Ytkglnlaefokpaaa.Pure
open Go.RowKit Go.Proofs.Ytkglnlaefokpaaa.Q Go.Proofs.YtkglnlaefokpaaaW.PrintWords Go.Proofs.YtkglnlaefokpaaaW.PrintLast Go.Proofs.YtkglnlaefokpaaaW.PrintMore
set_option linter.unusedVariables false
set_option linter.unusedSimpArgs false

theorem l01In_eq (a b c : Int) : spec_l01In.f a b c = some (decide (b ≤ a) && decide (a ≤ c)) := by
  unfold spec_l01In.f
  by_cases h : a ≥ b
  · rw [if_pos h]; simp [show b ≤ a from h]
  · rw [if_neg h]; simp [show ¬ b ≤ a from h]
theorem FnExactTurnRight : laws_FnExactTurnRight.Pure := by
  intro d _
  have e : impl_isDirection.f d = spec_l01In.f d 0 3 := rfl
  unfold laws_FnExactTurnRight.f impl_TurnRight.f spec_TurnRight.f
  rw [e, l01In_eq]; simp only [Option.bind_some]
  split <;> simp

end Go.Proofs.Ytkglnlaefokpaaa.Pure
