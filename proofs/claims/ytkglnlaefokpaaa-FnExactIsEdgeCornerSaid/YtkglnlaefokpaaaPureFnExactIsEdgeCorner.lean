/- The plain law FnExactIsEdgeCorner: for every input that its Go types allow, the printed functions of the program and of the reference answer so that the law's own function says true. No further condition. -/
import Derived.Test.YtkglnlaefokpaaaQx0
import Derived.Test.YtkglnlaefokpaaaQx1
import Derived.Test.YtkglnlaefokpaaaQx2
import Derived.Test.YtkglnlaefokpaaaQx6
namespace Go.Proofs.Ytkglnlaefokpaaa.Pure
open Go.RowKit Go.Proofs.Ytkglnlaefokpaaa.Q Go.Proofs.YtkglnlaefokpaaaW.PrintWords Go.Proofs.YtkglnlaefokpaaaW.PrintLast Go.Proofs.YtkglnlaefokpaaaW.PrintMore
set_option linter.unusedVariables false
set_option linter.unusedSimpArgs false

theorem w64_id {x : Int} (h0 : -9223372036854775808 ≤ x) (h1 : x ≤ 9223372036854775807) : wrap64 x = x := by
  unfold wrap64; omega
def gOk (w h : Int) : Bool := decide (1 ≤ w) && decide (w ≤ 4) && decide (1 ≤ h) && decide (h ≤ 4)
theorem gOk_iff {w h : Int} : gOk w h = true ↔ 1 ≤ w ∧ w ≤ 4 ∧ 1 ≤ h ∧ h ≤ 4 := by
  unfold gOk; simp only [Bool.and_eq_true, decide_eq_true_eq]; omega
theorem gOk_cases {w h : Int} (hg : gOk w h = true) : (w = 1 ∨ w = 2 ∨ w = 3 ∨ w = 4) ∧ (h = 1 ∨ h = 2 ∨ h = 3 ∨ h = 4) := by
  have := gOk_iff.1 hg; omega
def nCells (w h : Int) : Int := if gOk w h = true then w * h else 0
def nGaps (w h : Int) : Int := if gOk w h = true then (w - 1) * h + w * (h - 1) else 0
def nCorn (w h : Int) : Int := if gOk w h = true then (w + 1) * (h + 1) else 0
def nEast (w h : Int) : Int := (w - 1) * h
theorem nCorn_bd (w h : Int) : 0 ≤ nCorn w h ∧ nCorn w h ≤ 25 := by
  unfold nCorn
  split
  · rename_i hg; rcases gOk_cases hg with ⟨rfl | rfl | rfl | rfl, rfl | rfl | rfl | rfl⟩ <;> decide +kernel
  · omega
theorem l01In_eq (a b c : Int) : spec_l01In.f a b c = some (decide (b ≤ a) && decide (a ≤ c)) := by
  unfold spec_l01In.f
  by_cases h : a ≥ b
  · rw [if_pos h]; simp [show b ≤ a from h]
  · rw [if_neg h]; simp [show ¬ b ≤ a from h]
theorem spec_GridOk_eq (w h : Int) : spec_GridOk.f w h = some (gOk w h) := by
  unfold spec_GridOk.f gOk
  simp only [l01In_eq, Option.bind_some]
  by_cases h1 : 1 ≤ w <;> by_cases h2 : w ≤ 4 <;> simp [h1, h2]
theorem impl_GridOk_eq (w h : Int) : impl_GridOk.f w h = some (gOk w h) := by
  unfold impl_GridOk.f gOk
  by_cases h1 : 1 ≤ w <;> by_cases h2 : w ≤ 4 <;> by_cases h3 : 1 ≤ h <;> simp [h1, h2, h3]
theorem toGrid_eq (w h : Int) : laws_toGrid.f w h = some (w, h) := rfl
theorem spec_CountCorners_eq (w h : Int) : spec_CountCorners.f w h = some (nCorn w h) := by
  unfold spec_CountCorners.f nCorn
  rw [spec_GridOk_eq]; simp only [Option.bind_some]
  by_cases hg : gOk w h = true
  · rw [if_pos hg, if_pos hg]
    rcases gOk_cases hg with ⟨rfl | rfl | rfl | rfl, rfl | rfl | rfl | rfl⟩ <;> decide +kernel
  · rw [if_neg hg, if_neg hg]
theorem impl_CountCorners_eq (w h : Int) : impl_CountCorners.f w h = some (nCorn w h) := by
  unfold impl_CountCorners.f nCorn
  rw [impl_GridOk_eq]; simp only [Option.bind_some]
  by_cases hg : gOk w h = true
  · rw [if_pos hg, if_pos hg]
    rcases gOk_cases hg with ⟨rfl | rfl | rfl | rfl, rfl | rfl | rfl | rfl⟩ <;> decide +kernel
  · rw [if_neg hg, if_neg hg]
def edgeC (w h c : Int) : Bool :=
  (decide (0 ≤ c) && decide (c < nCorn w h)) && (decide (c % (w + 1) = 0) || (decide (c % (w + 1) = w) || (decide (c / (w + 1) = 0) || decide (c / (w + 1) = h))))
theorem ok_of_corn {w h c : Int} (h0 : 0 ≤ c) (h1 : c < nCorn w h) : gOk w h = true := by
  by_cases hk : gOk w h = true
  · exact hk
  · unfold nCorn at h1; rw [if_neg hk] at h1; omega
theorem edge_tests {w h c : Int} (h0 : 0 ≤ c) (h1 : c < nCorn w h) :
    (if (wrap64 (w + 1)) = 0 then (none : Option Bool) else (if (Int.tmod c (wrap64 (w + 1))) = 0 then (some true) else (if (Int.tmod c (wrap64 (w + 1))) = w then (some true) else (if (wrap64 (Int.tdiv c (wrap64 (w + 1)))) = 0 then (some true) else (some ((wrap64 (Int.tdiv c (wrap64 (w + 1)))) == h)))))) = some (edgeC w h c) := by
  have hk := ok_of_corn h0 h1
  have hw := gOk_iff.1 hk
  have hb := nCorn_bd w h
  have e1 : wrap64 (w + 1) = w + 1 := w64_id (by omega) (by omega)
  rw [e1, if_neg (by omega), Int.tdiv_eq_ediv_of_nonneg h0, Int.tmod_eq_emod_of_nonneg h0]
  have e2 : wrap64 (c / (w + 1)) = c / (w + 1) := by
    have a1 : 0 ≤ c / (w + 1) := Int.ediv_nonneg h0 (by omega)
    have a2 : c / (w + 1) ≤ c := Int.ediv_le_self _ h0
    exact w64_id (by omega) (by omega)
  rw [e2]
  unfold edgeC
  by_cases a1 : c % (w + 1) = 0
  · rw [if_pos a1]; simp [a1, h0, h1]
  · rw [if_neg a1]
    by_cases a2 : c % (w + 1) = w
    · rw [if_pos a2]; simp [a2, h0, h1]
    · rw [if_neg a2]
      by_cases a3 : c / (w + 1) = 0
      · rw [if_pos a3]; simp [a3, h0, h1]
      · rw [if_neg a3]; simp only [a1, a2, a3, h0, h1, decide_true, decide_false, Bool.true_and, Bool.false_or]; congr 1
theorem spec_IsEdgeCorner_eq (w h c : Int) : spec_IsEdgeCorner.f w h c = some (edgeC w h c) := by
  unfold spec_IsEdgeCorner.f
  have hb := nCorn_bd w h
  simp only [spec_CountCorners_eq, l01In_eq, Option.bind_some]
  rw [w64_id (x := nCorn w h - 1) (by omega) (by omega)]
  by_cases hc : (decide (0 ≤ c) && decide (c ≤ nCorn w h - 1)) = true
  · rw [if_pos hc]
    simp only [Bool.and_eq_true, decide_eq_true_eq] at hc
    exact edge_tests hc.1 (by omega)
  · rw [if_neg hc]
    unfold edgeC
    simp only [Bool.and_eq_true, decide_eq_true_eq] at hc
    have : (decide (0 ≤ c) && decide (c < nCorn w h)) = false := by rw [Bool.eq_false_iff]; simp only [ne_eq, Bool.and_eq_true, decide_eq_true_eq]; omega
    rw [this]; rfl
theorem impl_IsEdgeCorner_eq (w h c : Int) : impl_IsEdgeCorner.f w h c = some (edgeC w h c) := by
  unfold impl_IsEdgeCorner.f
  have hb := nCorn_bd w h
  simp only [impl_CountCorners_eq, Option.bind_some]
  by_cases h0 : c < 0
  · rw [if_pos h0]; unfold edgeC; simp [show ¬ 0 ≤ c by omega]
  · rw [if_neg h0]
    by_cases h1 : c ≥ nCorn w h
    · rw [if_pos h1]; unfold edgeC; simp [show ¬ c < nCorn w h by omega]
    · rw [if_neg h1]; exact edge_tests (by omega) (by omega)
theorem FnExactIsEdgeCorner : laws_FnExactIsEdgeCorner.Pure := by
  intro w h c _ _ _
  unfold laws_FnExactIsEdgeCorner.f
  simp only [toGrid_eq, spec_IsEdgeCorner_eq, impl_IsEdgeCorner_eq, Option.bind_some]
  simp

end Go.Proofs.Ytkglnlaefokpaaa.Pure
