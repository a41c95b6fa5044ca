/- The plain law FnExactFullMaze: for every input that its Go types allow, the printed functions of the program and of the reference answer so that the law's own function says true. No further condition. -/
import Derived.Test.YtkglnlaefokpaaaQx0
import Derived.Test.YtkglnlaefokpaaaQx1
import Derived.Test.YtkglnlaefokpaaaQx3
import Derived.Test.YtkglnlaefokpaaaQx8
import Derived.Test.YtkglnlaefokpaaaQx9
namespace Go.Proofs.Ytkglnlaefokpaaa.Pure
open Go.RowKit Go.Proofs.Ytkglnlaefokpaaa.Q Go.Proofs.YtkglnlaefokpaaaW.PrintWords Go.Proofs.YtkglnlaefokpaaaW.PrintLast Go.Proofs.YtkglnlaefokpaaaW.PrintMore
set_option linter.unusedVariables false
set_option linter.unusedSimpArgs false

theorem w64_id {x : Int} (h0 : -9223372036854775808 ≤ x) (h1 : x ≤ 9223372036854775807) : wrap64 x = x := by
  unfold wrap64; omega
theorem shl_one {g : Int} (h0 : 0 ≤ g) (h1 : g ≤ 62) : shl .i64 1 g = 2 ^ g.toNat := by
  unfold shl
  rw [i64_w, Nat.min_eq_left (by simp only [IntKind.bits]; omega), Int.one_mul]
  have : (2 : Int) ^ g.toNat ≤ 2 ^ 62 := by
    have := Nat.pow_le_pow_right (n := 2) (by omega) (show g.toNat ≤ 62 by omega)
    exact_mod_cast this
  have h3 : (0 : Int) < 2 ^ g.toNat := by exact_mod_cast Nat.pow_pos (by omega)
  exact w64_id (by omega) (by omega)
theorem shl_pos {g : Int} (h0 : 0 ≤ g) (h1 : g ≤ 62) : 0 < shl .i64 1 g ∧ shl .i64 1 g ≤ 4611686018427387904 := by
  rw [shl_one h0 h1]
  have : (2 : Int) ^ g.toNat ≤ 2 ^ 62 := by
    have := Nat.pow_le_pow_right (n := 2) (by omega) (show g.toNat ≤ 62 by omega)
    exact_mod_cast this
  have h3 : (0 : Int) < 2 ^ g.toNat := by exact_mod_cast Nat.pow_pos (by omega)
  exact ⟨h3, by omega⟩
def gOk (w h : Int) : Bool := decide (1 ≤ w) && decide (w ≤ 4) && decide (1 ≤ h) && decide (h ≤ 4)
theorem gOk_iff {w h : Int} : gOk w h = true ↔ 1 ≤ w ∧ w ≤ 4 ∧ 1 ≤ h ∧ h ≤ 4 := by
  unfold gOk; simp only [Bool.and_eq_true, decide_eq_true_eq]; omega
theorem gOk_cases {w h : Int} (hg : gOk w h = true) : (w = 1 ∨ w = 2 ∨ w = 3 ∨ w = 4) ∧ (h = 1 ∨ h = 2 ∨ h = 3 ∨ h = 4) := by
  have := gOk_iff.1 hg; omega
def nCells (w h : Int) : Int := if gOk w h = true then w * h else 0
def nGaps (w h : Int) : Int := if gOk w h = true then (w - 1) * h + w * (h - 1) else 0
def nCorn (w h : Int) : Int := if gOk w h = true then (w + 1) * (h + 1) else 0
def nEast (w h : Int) : Int := (w - 1) * h
theorem nGaps_bd (w h : Int) : 0 ≤ nGaps w h ∧ nGaps w h ≤ 24 := by
  unfold nGaps
  split
  · rename_i hg; rcases gOk_cases hg with ⟨rfl | rfl | rfl | rfl, rfl | rfl | rfl | rfl⟩ <;> decide +kernel
  · omega
theorem l01In_eq (a b c : Int) : spec_l01In.f a b c = some (decide (b ≤ a) && decide (a ≤ c)) := by
  unfold spec_l01In.f
  by_cases h : a ≥ b
  · rw [if_pos h]; simp [show b ≤ a from h]
  · rw [if_neg h]; simp [show ¬ b ≤ a from h]
theorem spec_GridOk_eq (w h : Int) : spec_GridOk.f w h = some (gOk w h) := by
  unfold spec_GridOk.f gOk
  simp only [l01In_eq, Option.bind_some]
  by_cases h1 : 1 ≤ w <;> by_cases h2 : w ≤ 4 <;> simp [h1, h2]
theorem impl_GridOk_eq (w h : Int) : impl_GridOk.f w h = some (gOk w h) := by
  unfold impl_GridOk.f gOk
  by_cases h1 : 1 ≤ w <;> by_cases h2 : w ≤ 4 <;> by_cases h3 : 1 ≤ h <;> simp [h1, h2, h3]
theorem toGrid_eq (w h : Int) : laws_toGrid.f w h = some (w, h) := rfl
theorem l02East_eq {w h : Int} (hg : gOk w h = true) : spec_l02East.f w h = some (nEast w h) := by
  unfold spec_l02East.f nEast
  rcases gOk_cases hg with ⟨rfl | rfl | rfl | rfl, rfl | rfl | rfl | rfl⟩ <;> decide +kernel
theorem spec_CountGaps_eq (w h : Int) : spec_CountGaps.f w h = some (nGaps w h) := by
  unfold spec_CountGaps.f nGaps
  rw [spec_GridOk_eq]; simp only [Option.bind_some]
  by_cases hg : gOk w h = true
  · rw [if_pos hg, if_pos hg, l02East_eq hg]
    rcases gOk_cases hg with ⟨rfl | rfl | rfl | rfl, rfl | rfl | rfl | rfl⟩ <;> decide +kernel
  · rw [if_neg hg, if_neg hg]
theorem impl_CountGaps_eq (w h : Int) : impl_CountGaps.f w h = some (nGaps w h) := by
  unfold impl_CountGaps.f nGaps
  rw [impl_GridOk_eq]; simp only [Option.bind_some]
  by_cases hg : gOk w h = true
  · rw [if_pos hg, if_pos hg]
    rcases gOk_cases hg with ⟨rfl | rfl | rfl | rfl, rfl | rfl | rfl | rfl⟩ <;> decide +kernel
  · rw [if_neg hg, if_neg hg]
theorem eqGrid_self (w h : Int) : laws_eqGrid.f w h w h = some true := by unfold laws_eqGrid.f; simp
theorem eqMaze_self (w h o : Int) : laws_eqMaze.f w h o w h o = some true := by unfold laws_eqMaze.f; rw [eqGrid_self]; simp
theorem full_eq {w h : Int} (hk : gOk w h = true) : wrap64 (shl .i64 1 (nGaps w h) - 1) = 2 ^ (nGaps w h).toNat - 1 := by
  have hb := nGaps_bd w h
  have hs := shl_pos (g := nGaps w h) (by omega) (by omega)
  rw [w64_id (by omega) (by omega), shl_one (by omega) (by omega)]
def fullM (w h : Int) : Int × Int × Int := if gOk w h = true then (w, h, 2 ^ (nGaps w h).toNat - 1) else (0, 0, 0)
theorem spec_FullMaze_eq (w h : Int) : spec_FullMaze.f w h = some (fullM w h) := by
  unfold spec_FullMaze.f fullM
  simp only [spec_GridOk_eq, spec_CountGaps_eq, Option.bind_some]
  by_cases hk : gOk w h = true
  · rw [if_pos hk, if_pos hk, if_pos (nGaps_bd w h).1, full_eq hk]
  · rw [if_neg hk, if_neg hk]
theorem impl_FullMaze_eq (w h : Int) : impl_FullMaze.f w h = some (fullM w h) := by
  unfold impl_FullMaze.f fullM
  simp only [impl_GridOk_eq, impl_CountGaps_eq, Option.bind_some]
  by_cases hk : gOk w h = true
  · rw [if_pos hk, if_pos hk, if_pos (nGaps_bd w h).1, full_eq hk]
  · rw [if_neg hk, if_neg hk]
theorem FnExactFullMaze : laws_FnExactFullMaze.Pure := by
  intro w h _ _
  unfold laws_FnExactFullMaze.f
  simp only [toGrid_eq, spec_FullMaze_eq, impl_FullMaze_eq, Option.bind_some, eqMaze_self]
  rfl

end Go.Proofs.Ytkglnlaefokpaaa.Pure
