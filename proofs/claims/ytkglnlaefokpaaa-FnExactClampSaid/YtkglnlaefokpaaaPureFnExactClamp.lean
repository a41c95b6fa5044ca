/- The plain law FnExactClamp: for every input that its Go types allow, the printed functions of the program and of the reference answer so that the law's own function says true. No further condition. -/
import Derived.Test.YtkglnlaefokpaaaQx0
import Derived.Test.YtkglnlaefokpaaaQx1
namespace Go.Proofs.Ytkglnlaefokpaaa.Pure
open Go.RowKit Go.Proofs.Ytkglnlaefokpaaa.Q Go.Proofs.YtkglnlaefokpaaaW.PrintWords Go.Proofs.YtkglnlaefokpaaaW.PrintLast Go.Proofs.YtkglnlaefokpaaaW.PrintMore
set_option linter.unusedVariables false
set_option linter.unusedSimpArgs false

theorem spec_Clamp_eq (n a b : Int) : spec_Clamp.f 1 n a b = some (if b < a then a else if n < a then a else if n > b then b else n) := by
  unfold spec_Clamp.f
  by_cases h1 : b < a
  · rw [if_pos h1, if_pos h1]; rfl
  · rw [if_neg h1, if_neg h1]
    simp only [spec_Clamp.j0, decide_eq_true_eq]
    by_cases h2 : n < a
    · rw [if_pos h2, if_pos h2]
    · rw [if_neg h2, if_neg h2]
      by_cases h3 : n > b
      · rw [if_pos h3, if_pos h3]
      · rw [if_neg h3, if_neg h3]
theorem impl_Clamp_eq (n a b : Int) : impl_Clamp.f n a b = some (if b < a then a else if n < a then a else if n > b then b else n) := by
  unfold impl_Clamp.f mx mn
  congr 1
  split <;> split <;> split <;> (try split) <;> omega
theorem FnExactClamp : laws_FnExactClamp.Pure := by
  intro n a b _ _ _
  refine ⟨1, ?_⟩
  unfold laws_FnExactClamp.f
  rw [spec_Clamp_eq, impl_Clamp_eq]; simp

end Go.Proofs.Ytkglnlaefokpaaa.Pure
