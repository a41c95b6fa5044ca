/- The plain law FnExactGridOk: for every input that its Go types allow, the printed functions of the program and of the reference answer so that the law's own function says true. No further condition. -/
import Derived.Test.YtkglnlaefokpaaaQx0
import Derived.Test.YtkglnlaefokpaaaQx1
import Derived.Test.YtkglnlaefokpaaaQx2
namespace Go.Proofs.Ytkglnlaefokpaaa.Pure
open Go.RowKit Go.Proofs.Ytkglnlaefokpaaa.Q Go.Proofs.YtkglnlaefokpaaaW.PrintWords Go.Proofs.YtkglnlaefokpaaaW.PrintLast Go.Proofs.YtkglnlaefokpaaaW.PrintMore
set_option linter.unusedVariables false
set_option linter.unusedSimpArgs false

def gOk (w h : Int) : Bool := decide (1 ≤ w) && decide (w ≤ 4) && decide (1 ≤ h) && decide (h ≤ 4)
theorem l01In_eq (a b c : Int) : spec_l01In.f a b c = some (decide (b ≤ a) && decide (a ≤ c)) := by
  unfold spec_l01In.f
  by_cases h : a ≥ b
  · rw [if_pos h]; simp [show b ≤ a from h]
  · rw [if_neg h]; simp [show ¬ b ≤ a from h]
theorem spec_GridOk_eq (w h : Int) : spec_GridOk.f w h = some (gOk w h) := by
  unfold spec_GridOk.f gOk
  simp only [l01In_eq, Option.bind_some]
  by_cases h1 : 1 ≤ w <;> by_cases h2 : w ≤ 4 <;> simp [h1, h2]
theorem impl_GridOk_eq (w h : Int) : impl_GridOk.f w h = some (gOk w h) := by
  unfold impl_GridOk.f gOk
  by_cases h1 : 1 ≤ w <;> by_cases h2 : w ≤ 4 <;> by_cases h3 : 1 ≤ h <;> simp [h1, h2, h3]
theorem toGrid_eq (w h : Int) : laws_toGrid.f w h = some (w, h) := rfl
theorem FnExactGridOk : laws_FnExactGridOk.Pure := by
  intro w h _ _
  unfold laws_FnExactGridOk.f
  simp only [toGrid_eq, spec_GridOk_eq, impl_GridOk_eq, Option.bind_some]
  simp

end Go.Proofs.Ytkglnlaefokpaaa.Pure
