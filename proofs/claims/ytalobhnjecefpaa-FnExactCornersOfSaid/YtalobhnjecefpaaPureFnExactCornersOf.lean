/- The plain law FnExactCornersOf: for every input that its Go types allow, the printed functions of the program and of the reference answer so that the law's own function says true. No further condition. -/
import Derived.Test.YtalobhnjecefpaaQx0
import Derived.Test.YtalobhnjecefpaaQx1
import Derived.Test.YtalobhnjecefpaaQx2
import Derived.Test.YtalobhnjecefpaaQx4
import Derived.Test.YtalobhnjecefpaaQx5
namespace Go.Proofs.Ytalobhnjecefpaa.Pure
open Go.RowKit Go.Proofs.Ytalobhnjecefpaa.Q Go.Proofs.YtalobhnjecefpaaW.PrintWords Go.Proofs.YtalobhnjecefpaaW.PrintLast Go.Proofs.YtalobhnjecefpaaW.PrintMore
set_option linter.unusedVariables false
set_option linter.unusedSimpArgs false

theorem w64_id {x : Int} (h0 : -9223372036854775808 ≤ x) (h1 : x ≤ 9223372036854775807) : wrap64 x = x := by
  unfold wrap64; omega
def gOk (w h : Int) : Bool := decide (1 ≤ w) && decide (w ≤ 4) && decide (1 ≤ h) && decide (h ≤ 4)
theorem gOk_iff {w h : Int} : gOk w h = true ↔ 1 ≤ w ∧ w ≤ 4 ∧ 1 ≤ h ∧ h ≤ 4 := by
  unfold gOk; simp only [Bool.and_eq_true, decide_eq_true_eq]; omega
theorem gOk_cases {w h : Int} (hg : gOk w h = true) : (w = 1 ∨ w = 2 ∨ w = 3 ∨ w = 4) ∧ (h = 1 ∨ h = 2 ∨ h = 3 ∨ h = 4) := by
  have := gOk_iff.1 hg; omega
def nCells (w h : Int) : Int := if gOk w h = true then w * h else 0
def nGaps (w h : Int) : Int := if gOk w h = true then (w - 1) * h + w * (h - 1) else 0
def nCorn (w h : Int) : Int := if gOk w h = true then (w + 1) * (h + 1) else 0
def nEast (w h : Int) : Int := (w - 1) * h
theorem nCells_bd (w h : Int) : 0 ≤ nCells w h ∧ nCells w h ≤ 16 ∧ (gOk w h = true → 1 ≤ nCells w h) := by
  unfold nCells
  split
  · rename_i hg; rcases gOk_cases hg with ⟨rfl | rfl | rfl | rfl, rfl | rfl | rfl | rfl⟩ <;> decide +kernel
  · rename_i hg; exact ⟨by omega, by omega, fun h => absurd h hg⟩
theorem nGaps_bd (w h : Int) : 0 ≤ nGaps w h ∧ nGaps w h ≤ 24 := by
  unfold nGaps
  split
  · rename_i hg; rcases gOk_cases hg with ⟨rfl | rfl | rfl | rfl, rfl | rfl | rfl | rfl⟩ <;> decide +kernel
  · omega
theorem l01In_eq (a b c : Int) : spec_l01In.f a b c = some (decide (b ≤ a) && decide (a ≤ c)) := by
  unfold spec_l01In.f
  by_cases h : a ≥ b
  · rw [if_pos h]; simp [show b ≤ a from h]
  · rw [if_neg h]; simp [show ¬ b ≤ a from h]
theorem spec_GridOk_eq (w h : Int) : spec_GridOk.f w h = some (gOk w h) := by
  unfold spec_GridOk.f gOk
  simp only [l01In_eq, Option.bind_some]
  by_cases h1 : 1 ≤ w <;> by_cases h2 : w ≤ 4 <;> simp [h1, h2]
theorem impl_GridOk_eq (w h : Int) : impl_GridOk.f w h = some (gOk w h) := by
  unfold impl_GridOk.f gOk
  by_cases h1 : 1 ≤ w <;> by_cases h2 : w ≤ 4 <;> by_cases h3 : 1 ≤ h <;> simp [h1, h2, h3]
theorem toGrid_eq (w h : Int) : laws_toGrid.f w h = some (w, h) := rfl
theorem l02East_eq {w h : Int} (hg : gOk w h = true) : spec_l02East.f w h = some (nEast w h) := by
  unfold spec_l02East.f nEast
  rcases gOk_cases hg with ⟨rfl | rfl | rfl | rfl, rfl | rfl | rfl | rfl⟩ <;> decide +kernel
theorem spec_CountGaps_eq (w h : Int) : spec_CountGaps.f w h = some (nGaps w h) := by
  unfold spec_CountGaps.f nGaps
  rw [spec_GridOk_eq]; simp only [Option.bind_some]
  by_cases hg : gOk w h = true
  · rw [if_pos hg, if_pos hg, l02East_eq hg]
    rcases gOk_cases hg with ⟨rfl | rfl | rfl | rfl, rfl | rfl | rfl | rfl⟩ <;> decide +kernel
  · rw [if_neg hg, if_neg hg]
theorem impl_CountGaps_eq (w h : Int) : impl_CountGaps.f w h = some (nGaps w h) := by
  unfold impl_CountGaps.f nGaps
  rw [impl_GridOk_eq]; simp only [Option.bind_some]
  by_cases hg : gOk w h = true
  · rw [if_pos hg, if_pos hg]
    rcases gOk_cases hg with ⟨rfl | rfl | rfl | rfl, rfl | rfl | rfl | rfl⟩ <;> decide +kernel
  · rw [if_neg hg, if_neg hg]
def gapIn (w h g : Int) : Bool := decide (0 ≤ g) && decide (g < nGaps w h)
theorem gapIn_iff {w h g : Int} : gapIn w h g = true ↔ 0 ≤ g ∧ g < nGaps w h := by unfold gapIn; simp
theorem gapIn_spec (w h g : Int) : (decide (0 ≤ g) && decide (g ≤ wrap64 (nGaps w h - 1))) = gapIn w h g := by
  have hb := nGaps_bd w h
  rw [w64_id (by omega) (by omega)]
  unfold gapIn; rw [Bool.eq_iff_iff]; simp; omega
theorem isGap_eq (w h g : Int) : impl_isGap.f w h g = some (gapIn w h g) := by
  unfold impl_isGap.f gapIn
  rw [impl_CountGaps_eq]
  by_cases h0 : 0 ≤ g
  · rw [if_pos h0]; simp [h0]
  · rw [if_neg h0]; simp [h0]
def ends (w h g : Int) : Int × Int :=
  if gapIn w h g = true then (if g < nEast w h then (g / (w - 1) * w + g % (w - 1), g / (w - 1) * w + g % (w - 1) + 1) else (g - nEast w h, g - nEast w h + w)) else (-1, -1)
theorem spec_EndsOf_eq (w h g : Int) : spec_EndsOf.f w h g = some (ends w h g) := by
  unfold spec_EndsOf.f ends
  simp only [spec_CountGaps_eq, l01In_eq, Option.bind_some, gapIn_spec]
  by_cases hg : gapIn w h g = true
  · rw [if_pos hg, if_pos hg]
    have h1 := gapIn_iff.1 hg
    have hk : gOk w h = true := by
      by_cases hk : gOk w h = true
      · exact hk
      · have := h1.2; unfold nGaps at this; rw [if_neg hk] at this; omega
    have h2 : nGaps w h = (w - 1) * h + w * (h - 1) := by unfold nGaps; rw [if_pos hk]
    rw [h2] at h1
    rw [l02East_eq hk]
    simp only [Option.bind_some]
    have e1 : wrap64 (w - 1) = w - 1 := by have := gOk_iff.1 hk; exact w64_id (by omega) (by omega)
    rw [e1]
    by_cases he : g < nEast w h
    · rw [if_pos he, if_pos he]
      unfold nEast at he
      rcases gOk_cases hk with ⟨rfl | rfl | rfl | rfl, rfl | rfl | rfl | rfl⟩ <;> first | omega | (simp only [Int.reduceSub, Int.tdiv_eq_ediv_of_nonneg h1.1, Int.tmod_eq_emod_of_nonneg h1.1]; rw [if_neg (by decide), w64_id (x := g / _) (by omega) (by omega), w64_id (x := g / _ * _) (by omega) (by omega), w64_id (x := g / _ * _ + g % _) (by omega) (by omega), w64_id (by omega) (by omega)])
    · rw [if_neg he, if_neg he]
      unfold nEast at he ⊢
      rcases gOk_cases hk with ⟨rfl | rfl | rfl | rfl, rfl | rfl | rfl | rfl⟩ <;> (rw [w64_id (x := g - _) (by omega) (by omega), w64_id (by omega) (by omega)])
  · rw [if_neg hg, if_neg hg]
theorem impl_EndsOf_eq (w h g : Int) : impl_EndsOf.f w h g = some (ends w h g) := by
  unfold impl_EndsOf.f ends
  simp only [isGap_eq, Option.bind_some]
  by_cases hg : gapIn w h g = true
  · rw [if_pos hg, if_pos hg]
    have h1 := gapIn_iff.1 hg
    have hk : gOk w h = true := by
      by_cases hk : gOk w h = true
      · exact hk
      · have := h1.2; unfold nGaps at this; rw [if_neg hk] at this; omega
    have h2 : nGaps w h = (w - 1) * h + w * (h - 1) := by unfold nGaps; rw [if_pos hk]
    rw [h2] at h1
    have h3 : wrap64 ((wrap64 (w - 1)) * h) = nEast w h := by
      unfold nEast
      rcases gOk_cases hk with ⟨rfl | rfl | rfl | rfl, rfl | rfl | rfl | rfl⟩ <;> decide +kernel
    rw [h3]
    have e1 : wrap64 (w - 1) = w - 1 := by have := gOk_iff.1 hk; exact w64_id (by omega) (by omega)
    rw [e1]
    by_cases he : g < nEast w h
    · rw [if_neg (by omega), if_pos he]
      unfold nEast at he
      rcases gOk_cases hk with ⟨rfl | rfl | rfl | rfl, rfl | rfl | rfl | rfl⟩ <;> first | omega | (simp only [Int.reduceSub, Int.tdiv_eq_ediv_of_nonneg h1.1, Int.tmod_eq_emod_of_nonneg h1.1]; rw [if_neg (by decide), w64_id (x := g / _) (by omega) (by omega), w64_id (x := g / _ * _) (by omega) (by omega), w64_id (x := g / _ * _ + g % _) (by omega) (by omega), w64_id (by omega) (by omega)])
    · rw [if_pos (by omega), if_neg he]
      unfold nEast at he ⊢
      rcases gOk_cases hk with ⟨rfl | rfl | rfl | rfl, rfl | rfl | rfl | rfl⟩ <;> (rw [w64_id (x := g - _) (by omega) (by omega), w64_id (by omega) (by omega)])
  · rw [if_neg hg, if_neg hg]
theorem ok_of_cell {w h c : Int} (h0 : 0 ≤ c) (h1 : c < nCells w h) : gOk w h = true := by
  by_cases hk : gOk w h = true
  · exact hk
  · unfold nCells at h1; rw [if_neg hk] at h1; omega
theorem nCells_ok {w h : Int} (hk : gOk w h = true) : nCells w h = w * h := by unfold nCells; rw [if_pos hk]
theorem nGaps_ok {w h : Int} (hk : gOk w h = true) : nGaps w h = (w - 1) * h + w * (h - 1) := by unfold nGaps; rw [if_pos hk]
theorem cell_xy {w h c : Int} (h0 : 0 ≤ c) (h1 : c < nCells w h) : (0 ≤ c % w ∧ c % w ≤ w - 1) ∧ (0 ≤ c / w ∧ c / w ≤ h - 1) ∧ c = c / w * w + c % w := by
  have hk := ok_of_cell h0 h1
  rw [nCells_ok hk] at h1
  rcases gOk_cases hk with ⟨rfl | rfl | rfl | rfl, rfl | rfl | rfl | rfl⟩ <;> omega
theorem cell_w64 {w h c : Int} (h0 : 0 ≤ c) (h1 : c < nCells w h) : wrap64 (Int.tdiv c w) = c / w ∧ Int.tmod c w = c % w := by
  have := cell_xy h0 h1
  have hw := gOk_iff.1 (ok_of_cell h0 h1)
  rw [Int.tdiv_eq_ediv_of_nonneg h0, Int.tmod_eq_emod_of_nonneg h0]
  exact ⟨w64_id (by omega) (by omega), rfl⟩
def corners (w h g : Int) : Int × Int :=
  if gapIn w h g = true then (if g < nEast w h then ((ends w h g).2 / w * (w + 1) + (ends w h g).2 % w, (ends w h g).2 / w * (w + 1) + (ends w h g).2 % w + w + 1) else ((ends w h g).2 / w * (w + 1) + (ends w h g).2 % w, (ends w h g).2 / w * (w + 1) + (ends w h g).2 % w + 1)) else (-1, -1)
theorem ok_of_gap {w h g : Int} (hg : gapIn w h g = true) : gOk w h = true := by
  have h1 := gapIn_iff.1 hg
  by_cases hk : gOk w h = true
  · exact hk
  · have := h1.2; unfold nGaps at this; rw [if_neg hk] at this; omega
theorem ends_bd {w h g : Int} (hg : gapIn w h g = true) : 0 ≤ (ends w h g).1 ∧ (ends w h g).1 < (ends w h g).2 ∧ (ends w h g).2 < nCells w h ∧ (g < nEast w h → (ends w h g).2 = (ends w h g).1 + 1) ∧ (¬ g < nEast w h → (ends w h g).2 = (ends w h g).1 + w) := by
  have hk := ok_of_gap hg
  have h1 := gapIn_iff.1 hg
  rw [nGaps_ok hk] at h1
  rw [nCells_ok hk]
  unfold ends
  by_cases he : g < nEast w h
  · simp only [hg, he, ↓reduceIte, not_true_eq_false, false_imp_iff, and_true, true_imp_iff]
    unfold nEast at he
    rcases gOk_cases hk with ⟨rfl | rfl | rfl | rfl, rfl | rfl | rfl | rfl⟩ <;> omega
  · simp only [hg, he, ↓reduceIte, not_false_eq_true, false_imp_iff, and_true, true_imp_iff, true_and]
    unfold nEast at he ⊢
    rcases gOk_cases hk with ⟨rfl | rfl | rfl | rfl, rfl | rfl | rfl | rfl⟩ <;> omega
theorem corner_w64 {w h g : Int} (hg : gapIn w h g = true) :
    wrap64 ((wrap64 ((wrap64 (Int.tdiv (ends w h g).2 w)) * (wrap64 (w + 1)))) + (Int.tmod (ends w h g).2 w)) = (ends w h g).2 / w * (w + 1) + (ends w h g).2 % w ∧ (0 ≤ (ends w h g).2 / w * (w + 1) + (ends w h g).2 % w ∧ (ends w h g).2 / w * (w + 1) + (ends w h g).2 % w ≤ 30) ∧ (1 ≤ w ∧ w ≤ 4) := by
  obtain ⟨a0, ab, b1, _⟩ := ends_bd hg
  have hk := ok_of_gap hg
  have hw := gOk_iff.1 hk
  have hxy := cell_xy (show 0 ≤ (ends w h g).2 by omega) b1
  obtain ⟨e1, e2⟩ := cell_w64 (show 0 ≤ (ends w h g).2 by omega) b1
  have p1 : (ends w h g).2 / w * (w + 1) = (ends w h g).2 / w * w + (ends w h g).2 / w := by rw [Int.mul_add, Int.mul_one]
  have hb := nCells_bd w h
  have p0 : 0 ≤ (ends w h g).2 / w * w := Int.mul_nonneg hxy.2.1.1 (by omega)
  rw [e1, e2, w64_id (x := w + 1) (by omega) (by omega), w64_id (x := (ends w h g).2 / w * (w + 1)) (by omega) (by omega)]
  exact ⟨w64_id (by omega) (by omega), ⟨by omega, by omega⟩, by omega, by omega⟩
theorem ends_out {w h g : Int} (hg : ¬ gapIn w h g = true) : ends w h g = (-1, -1) := by unfold ends; rw [if_neg hg]
theorem spec_CornersOf_eq (w h g : Int) : spec_CornersOf.f w h g = some (corners w h g) := by
  unfold spec_CornersOf.f corners
  rw [spec_EndsOf_eq]; simp only [Option.bind_some]
  by_cases hg : gapIn w h g = true
  · obtain ⟨a0, ab, b1, _⟩ := ends_bd hg
    obtain ⟨e, hb, hw⟩ := corner_w64 hg
    rw [if_neg (show ¬ (ends w h g).1 < 0 by omega), if_neg (show ¬ w = 0 by omega), if_pos hg, l02East_eq (ok_of_gap hg)]
    simp only [Option.bind_some]
    rw [e]
    by_cases he : g < nEast w h
    · rw [if_pos he, if_pos he, w64_id (x := _ + w) (by omega) (by omega), w64_id (by omega) (by omega)]
    · rw [if_neg he, if_neg he, w64_id (by omega) (by omega)]
  · rw [if_neg hg, ends_out hg, if_pos (by decide)]
theorem impl_CornersOf_eq (w h g : Int) : impl_CornersOf.f w h g = some (corners w h g) := by
  unfold impl_CornersOf.f corners
  rw [impl_EndsOf_eq]; simp only [Option.bind_some]
  by_cases hg : gapIn w h g = true
  · obtain ⟨a0, ab, b1, q1, q2⟩ := ends_bd hg
    obtain ⟨e, hb, hw⟩ := corner_w64 hg
    have hc := nCells_bd w h
    have hk := ok_of_gap hg
    have h3 : wrap64 ((wrap64 (w - 1)) * h) = nEast w h := by
      unfold nEast
      rcases gOk_cases hk with ⟨rfl | rfl | rfl | rfl, rfl | rfl | rfl | rfl⟩ <;> decide +kernel
    rw [if_neg (show ¬ (ends w h g).1 < 0 by omega), if_neg (show ¬ w = 0 by omega), if_pos hg, e, w64_id (x := (ends w h g).1 + 1) (by omega) (by omega), h3, w64_id (x := _ + w) (by omega) (by omega), w64_id (x := _ + w + 1) (by omega) (by omega), w64_id (x := _ + 1) (by omega) (by omega)]
    by_cases he : g < nEast w h
    · rw [if_pos (q1 he), if_pos he, if_pos he]
    · rw [if_neg he, if_neg he]; split <;> rfl
  · rw [if_neg hg, ends_out hg, if_pos (by decide)]
theorem FnExactCornersOf : laws_FnExactCornersOf.Pure := by
  intro w h g _ _ _
  unfold laws_FnExactCornersOf.f
  simp only [toGrid_eq, spec_CornersOf_eq, impl_CornersOf_eq, Option.bind_some]
  simp

end Go.Proofs.Ytalobhnjecefpaa.Pure
