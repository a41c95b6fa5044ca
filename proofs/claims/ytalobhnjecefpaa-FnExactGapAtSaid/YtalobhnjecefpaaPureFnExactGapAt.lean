/- The plain law FnExactGapAt: for every input that its Go types allow, the printed functions of the program and of the reference answer so that the law's own function says true. No further condition. -/
import Derived.Test.YtalobhnjecefpaaQx0
import Derived.Test.YtalobhnjecefpaaQx1
import Derived.Test.YtalobhnjecefpaaQx10
import Derived.Test.YtalobhnjecefpaaQx11
import Derived.Test.YtalobhnjecefpaaQx2
import Derived.Test.YtalobhnjecefpaaQx3
import Derived.Test.YtalobhnjecefpaaQx4
namespace Go.Proofs.Ytalobhnjecefpaa.Pure
open Go.RowKit Go.Proofs.Ytalobhnjecefpaa.Q Go.Proofs.YtalobhnjecefpaaW.PrintWords Go.Proofs.YtalobhnjecefpaaW.PrintLast Go.Proofs.YtalobhnjecefpaaW.PrintMore
set_option linter.unusedVariables false
set_option linter.unusedSimpArgs false

theorem w64_id {x : Int} (h0 : -9223372036854775808 ≤ x) (h1 : x ≤ 9223372036854775807) : wrap64 x = x := by
  unfold wrap64; omega
def gOk (w h : Int) : Bool := decide (1 ≤ w) && decide (w ≤ 4) && decide (1 ≤ h) && decide (h ≤ 4)
theorem gOk_iff {w h : Int} : gOk w h = true ↔ 1 ≤ w ∧ w ≤ 4 ∧ 1 ≤ h ∧ h ≤ 4 := by
  unfold gOk; simp only [Bool.and_eq_true, decide_eq_true_eq]; omega
theorem gOk_cases {w h : Int} (hg : gOk w h = true) : (w = 1 ∨ w = 2 ∨ w = 3 ∨ w = 4) ∧ (h = 1 ∨ h = 2 ∨ h = 3 ∨ h = 4) := by
  have := gOk_iff.1 hg; omega
def nCells (w h : Int) : Int := if gOk w h = true then w * h else 0
def nGaps (w h : Int) : Int := if gOk w h = true then (w - 1) * h + w * (h - 1) else 0
def nCorn (w h : Int) : Int := if gOk w h = true then (w + 1) * (h + 1) else 0
def nEast (w h : Int) : Int := (w - 1) * h
theorem nCells_bd (w h : Int) : 0 ≤ nCells w h ∧ nCells w h ≤ 16 ∧ (gOk w h = true → 1 ≤ nCells w h) := by
  unfold nCells
  split
  · rename_i hg; rcases gOk_cases hg with ⟨rfl | rfl | rfl | rfl, rfl | rfl | rfl | rfl⟩ <;> decide +kernel
  · rename_i hg; exact ⟨by omega, by omega, fun h => absurd h hg⟩
theorem l01In_eq (a b c : Int) : spec_l01In.f a b c = some (decide (b ≤ a) && decide (a ≤ c)) := by
  unfold spec_l01In.f
  by_cases h : a ≥ b
  · rw [if_pos h]; simp [show b ≤ a from h]
  · rw [if_neg h]; simp [show ¬ b ≤ a from h]
theorem spec_GridOk_eq (w h : Int) : spec_GridOk.f w h = some (gOk w h) := by
  unfold spec_GridOk.f gOk
  simp only [l01In_eq, Option.bind_some]
  by_cases h1 : 1 ≤ w <;> by_cases h2 : w ≤ 4 <;> simp [h1, h2]
theorem impl_GridOk_eq (w h : Int) : impl_GridOk.f w h = some (gOk w h) := by
  unfold impl_GridOk.f gOk
  by_cases h1 : 1 ≤ w <;> by_cases h2 : w ≤ 4 <;> by_cases h3 : 1 ≤ h <;> simp [h1, h2, h3]
theorem toGrid_eq (w h : Int) : laws_toGrid.f w h = some (w, h) := rfl
theorem spec_CountCells_eq (w h : Int) : spec_CountCells.f w h = some (nCells w h) := by
  unfold spec_CountCells.f nCells
  rw [spec_GridOk_eq]; simp only [Option.bind_some]
  by_cases hg : gOk w h = true
  · rw [if_pos hg, if_pos hg]
    rcases gOk_cases hg with ⟨rfl | rfl | rfl | rfl, rfl | rfl | rfl | rfl⟩ <;> decide +kernel
  · rw [if_neg hg, if_neg hg]
theorem impl_CountCells_eq (w h : Int) : impl_CountCells.f w h = some (nCells w h) := by
  unfold impl_CountCells.f nCells
  rw [impl_GridOk_eq]; simp only [Option.bind_some]
  by_cases hg : gOk w h = true
  · rw [if_pos hg, if_pos hg]
    rcases gOk_cases hg with ⟨rfl | rfl | rfl | rfl, rfl | rfl | rfl | rfl⟩ <;> decide +kernel
  · rw [if_neg hg, if_neg hg]
theorem l02East_eq {w h : Int} (hg : gOk w h = true) : spec_l02East.f w h = some (nEast w h) := by
  unfold spec_l02East.f nEast
  rcases gOk_cases hg with ⟨rfl | rfl | rfl | rfl, rfl | rfl | rfl | rfl⟩ <;> decide +kernel
def nbr (w h c d : Int) : Int :=
  if 0 ≤ c ∧ c < nCells w h then (if d = 0 then (if 0 < c / w then c - w else -1) else if d = 1 then (if c % w < w - 1 then c + 1 else -1) else if d = 2 then (if c / w < h - 1 then c + w else -1) else if d = 3 then (if 0 < c % w then c - 1 else -1) else -1) else -1
theorem ok_of_cell {w h c : Int} (h0 : 0 ≤ c) (h1 : c < nCells w h) : gOk w h = true := by
  by_cases hk : gOk w h = true
  · exact hk
  · unfold nCells at h1; rw [if_neg hk] at h1; omega
theorem nCells_ok {w h : Int} (hk : gOk w h = true) : nCells w h = w * h := by unfold nCells; rw [if_pos hk]
def cellIn (w h c : Int) : Bool := decide (0 ≤ c) && decide (c < nCells w h)
theorem cellIn_iff {w h c : Int} : cellIn w h c = true ↔ 0 ≤ c ∧ c < nCells w h := by unfold cellIn; simp
theorem cellIn_spec (w h c : Int) : (decide (0 ≤ c) && decide (c ≤ wrap64 (nCells w h - 1))) = cellIn w h c := by
  have hb := nCells_bd w h
  rw [w64_id (by omega) (by omega)]
  unfold cellIn; rw [Bool.eq_iff_iff]; simp; omega
theorem isCell_eq (w h c : Int) : impl_isCell.f w h c = some (cellIn w h c) := by
  unfold impl_isCell.f cellIn
  rw [impl_CountCells_eq]
  by_cases h0 : 0 ≤ c
  · rw [if_pos h0]; simp [h0]
  · rw [if_neg h0]; simp [h0]
theorem spec_Nb_j0 {w h : Int} (hk : gOk w h = true) (k : Nat) (x y : Int) (hx : -1 ≤ x ∧ x ≤ 4) (hy : -1 ≤ y ∧ y ≤ 4) :
    spec_Neighbor.j0 (k + 1) x y w h = some (if (0 ≤ x ∧ x ≤ w - 1) ∧ (0 ≤ y ∧ y ≤ h - 1) then y * w + x else -1) := by
  have hw := gOk_iff.1 hk
  have p1 : -20 ≤ y * w ∧ y * w ≤ 20 := by
    rcases gOk_cases hk with ⟨rfl | rfl | rfl | rfl, _⟩ <;> omega
  simp only [spec_Neighbor.j0, l01In_eq, Option.bind_some]
  rw [w64_id (x := w - 1) (by omega) (by omega), w64_id (x := h - 1) (by omega) (by omega), w64_id (x := y * w) (by omega) (by omega), w64_id (x := y * w + x) (by omega) (by omega)]
  by_cases h1 : 0 ≤ x ∧ x ≤ w - 1
  · rw [if_pos (by simp [h1])]
    by_cases h2 : 0 ≤ y ∧ y ≤ h - 1
    · rw [if_pos (by simp [h2]), if_pos ⟨h1, h2⟩]
    · rw [if_neg (by simpa using h2), if_neg (fun hh => h2 hh.2)]
  · rw [if_neg (by simpa using h1), if_neg (fun hh => h1 hh.1)]
theorem cell_xy {w h c : Int} (h0 : 0 ≤ c) (h1 : c < nCells w h) : (0 ≤ c % w ∧ c % w ≤ w - 1) ∧ (0 ≤ c / w ∧ c / w ≤ h - 1) ∧ c = c / w * w + c % w := by
  have hk := ok_of_cell h0 h1
  rw [nCells_ok hk] at h1
  rcases gOk_cases hk with ⟨rfl | rfl | rfl | rfl, rfl | rfl | rfl | rfl⟩ <;> omega
theorem cell_w64 {w h c : Int} (h0 : 0 ≤ c) (h1 : c < nCells w h) : wrap64 (Int.tdiv c w) = c / w ∧ Int.tmod c w = c % w := by
  have := cell_xy h0 h1
  have hw := gOk_iff.1 (ok_of_cell h0 h1)
  rw [Int.tdiv_eq_ediv_of_nonneg h0, Int.tmod_eq_emod_of_nonneg h0]
  exact ⟨w64_id (by omega) (by omega), rfl⟩
theorem spec_Neighbor_eq (k : Nat) (w h c d : Int) : spec_Neighbor.f (k + 1) w h c d = some (nbr w h c d) := by
  unfold spec_Neighbor.f nbr
  simp only [spec_CountCells_eq, l01In_eq, Option.bind_some, cellIn_spec]
  by_cases hc : cellIn w h c = true
  · obtain ⟨h0, h1⟩ := cellIn_iff.1 hc
    have hk := ok_of_cell h0 h1
    have hw := gOk_iff.1 hk
    have hxy := cell_xy h0 h1
    obtain ⟨e1, e2⟩ := cell_w64 h0 h1
    rw [if_pos hc, if_pos (show 0 ≤ c ∧ c < nCells w h from ⟨h0, h1⟩), if_neg (show ¬ w = 0 by omega), e1, e2]
    have q1 : wrap64 (c / w - 1) = c / w - 1 := w64_id (by omega) (by omega)
    have q2 : wrap64 (c / w + 1) = c / w + 1 := w64_id (by omega) (by omega)
    have q3 : wrap64 (c % w - 1) = c % w - 1 := w64_id (by omega) (by omega)
    have q4 : wrap64 (c % w + 1) = c % w + 1 := w64_id (by omega) (by omega)
    rw [q1, q2, q3, q4]
    have t1 : (c / w - 1) * w = c / w * w - w := by rw [Int.sub_mul, Int.one_mul]
    have t2 : (c / w + 1) * w = c / w * w + w := by rw [Int.add_mul, Int.one_mul]
    by_cases d0 : d = 0
    · rw [if_pos d0, if_pos d0, spec_Nb_j0 hk _ _ _ (by omega) (by omega)]
      congr 1; rw [t1]
      by_cases z : 0 < c / w
      · rw [if_pos z, if_pos (by omega)]; omega
      · rw [if_neg z, if_neg (by omega)]
    · rw [if_neg d0, if_neg d0]
      by_cases d1 : d = 1
      · rw [if_pos d1, if_pos d1, spec_Nb_j0 hk _ _ _ (by omega) (by omega)]
        congr 1
        by_cases z : c % w < w - 1
        · rw [if_pos z, if_pos (by omega)]; omega
        · rw [if_neg z, if_neg (by omega)]
      · rw [if_neg d1, if_neg d1]
        by_cases d2 : d = 2
        · rw [if_pos d2, if_pos d2, spec_Nb_j0 hk _ _ _ (by omega) (by omega)]
          congr 1; rw [t2]
          by_cases z : c / w < h - 1
          · rw [if_pos z, if_pos (by omega)]; omega
          · rw [if_neg z, if_neg (by omega)]
        · rw [if_neg d2, if_neg d2]
          by_cases d3 : d = 3
          · rw [if_pos d3, if_pos d3, spec_Nb_j0 hk _ _ _ (by omega) (by omega)]
            congr 1
            by_cases z : 0 < c % w
            · rw [if_pos z, if_pos (by omega)]; omega
            · rw [if_neg z, if_neg (by omega)]
          · rw [if_neg d3, if_neg d3]
  · rw [if_neg hc, if_neg (fun hh => hc (cellIn_iff.2 hh))]
theorem impl_Neighbor_eq (k : Nat) (w h c d : Int) : impl_Neighbor.f (k + 3) w h c d = some (nbr w h c d) := by
  unfold impl_Neighbor.f nbr
  simp only [isCell_eq, Option.bind_some]
  by_cases hc : cellIn w h c = true
  · obtain ⟨h0, h1⟩ := cellIn_iff.1 hc
    have hk := ok_of_cell h0 h1
    have hw := gOk_iff.1 hk
    have hxy := cell_xy h0 h1
    have hb := nCells_bd w h
    obtain ⟨e1, e2⟩ := cell_w64 h0 h1
    rw [if_pos hc, if_pos (show 0 ≤ c ∧ c < nCells w h from ⟨h0, h1⟩), if_neg (show ¬ w = 0 by omega), e1, e2]
    simp only [impl_Neighbor.j0, impl_Neighbor.j1, impl_Neighbor.j2]
    rw [w64_id (x := w - 1) (by omega) (by omega), w64_id (x := h - 1) (by omega) (by omega), w64_id (x := c - w) (by omega) (by omega), w64_id (x := c + w) (by omega) (by omega), w64_id (x := c - 1) (by omega) (by omega), w64_id (x := c + 1) (by omega) (by omega)]
    simp only [decide_eq_true_eq, gt_iff_lt, Bool.false_eq_true, if_false]
    by_cases d0 : d = 0
    · subst d0; simp; split <;> rfl
    · by_cases d1 : d = 1
      · subst d1; simp; split <;> rfl
      · by_cases d2 : d = 2
        · subst d2; simp; split <;> rfl
        · by_cases d3 : d = 3
          · subst d3; simp
            split <;> rfl
          · simp [d0, d1, d2, d3]
  · rw [if_neg hc, if_neg (fun hh => hc (cellIn_iff.2 hh))]
theorem nbr_cases {w h c d : Int} (hn : 0 ≤ nbr w h c d) : (0 ≤ c ∧ c < nCells w h) ∧ ((d = 0 ∧ 0 < c / w ∧ nbr w h c d = c - w) ∨ (d = 1 ∧ c % w < w - 1 ∧ nbr w h c d = c + 1) ∨ (d = 2 ∧ c / w < h - 1 ∧ nbr w h c d = c + w) ∨ (d = 3 ∧ 0 < c % w ∧ nbr w h c d = c - 1)) := by
  unfold nbr at hn ⊢
  by_cases hc : 0 ≤ c ∧ c < nCells w h
  · rw [if_pos hc] at hn ⊢
    refine ⟨hc, ?_⟩
    by_cases d0 : d = 0
    · rw [if_pos d0] at hn ⊢
      by_cases z : 0 < c / w
      · rw [if_pos z]; exact .inl ⟨d0, z, rfl⟩
      · rw [if_neg z] at hn; omega
    · rw [if_neg d0] at hn ⊢
      by_cases d1 : d = 1
      · rw [if_pos d1] at hn ⊢
        by_cases z : c % w < w - 1
        · rw [if_pos z]; exact .inr (.inl ⟨d1, z, rfl⟩)
        · rw [if_neg z] at hn; omega
      · rw [if_neg d1] at hn ⊢
        by_cases d2 : d = 2
        · rw [if_pos d2] at hn ⊢
          by_cases z : c / w < h - 1
          · rw [if_pos z]; exact .inr (.inr (.inl ⟨d2, z, rfl⟩))
          · rw [if_neg z] at hn; omega
        · rw [if_neg d2] at hn ⊢
          by_cases d3 : d = 3
          · rw [if_pos d3] at hn ⊢
            by_cases z : 0 < c % w
            · rw [if_pos z]; exact .inr (.inr (.inr ⟨d3, z, rfl⟩))
            · rw [if_neg z] at hn; omega
          · rw [if_neg d3] at hn; omega
  · rw [if_neg hc] at hn; omega
theorem nbr_bd {w h c d : Int} (hn : 0 ≤ nbr w h c d) : nbr w h c d < nCells w h := by
  obtain ⟨⟨h0, h1⟩, hd⟩ := nbr_cases hn
  have hk := ok_of_cell h0 h1
  rw [nCells_ok hk] at h1 ⊢
  rcases gOk_cases hk with ⟨rfl | rfl | rfl | rfl, rfl | rfl | rfl | rfl⟩ <;> omega
def gapAt (w h c d : Int) : Int :=
  if nbr w h c d < 0 then -1 else if d = 1 ∨ d = 3 then mn c (nbr w h c d) / w * (w - 1) + mn c (nbr w h c d) % w else nEast w h + mn c (nbr w h c d)
theorem mn_bd {w h c d : Int} (hn : 0 ≤ nbr w h c d) : 0 ≤ mn c (nbr w h c d) ∧ mn c (nbr w h c d) < nCells w h := by
  have h1 := nbr_bd hn
  obtain ⟨⟨h2, h3⟩, _⟩ := nbr_cases hn
  unfold mn; split <;> omega
theorem gap_w64 {w h c d : Int} (hn : 0 ≤ nbr w h c d) :
    wrap64 ((wrap64 ((wrap64 (Int.tdiv (mn c (nbr w h c d)) w)) * (wrap64 (w - 1)))) + (Int.tmod (mn c (nbr w h c d)) w)) = mn c (nbr w h c d) / w * (w - 1) + mn c (nbr w h c d) % w ∧ wrap64 (nEast w h + mn c (nbr w h c d)) = nEast w h + mn c (nbr w h c d) ∧ w ≠ 0 ∧ wrap64 ((wrap64 (w - 1)) * h) = nEast w h := by
  obtain ⟨m0, m1⟩ := mn_bd hn
  generalize mn c (nbr w h c d) = m at m0 m1 ⊢
  have hk := ok_of_cell m0 m1
  have hw := gOk_iff.1 hk
  have hxy := cell_xy m0 m1
  have hb := nCells_bd w h
  obtain ⟨e1, e2⟩ := cell_w64 m0 m1
  have e3 : wrap64 (w - 1) = w - 1 := w64_id (by omega) (by omega)
  have p1 : 0 ≤ m / w * (w - 1) ∧ m / w * (w - 1) ≤ 16 := by
    have q0 : 0 ≤ m / w * (w - 1) := Int.mul_nonneg hxy.2.1.1 (by omega)
    have q1 : m / w * (w - 1) = m / w * w - m / w := by rw [Int.mul_sub, Int.mul_one]
    omega
  have p2 : 0 ≤ nEast w h ∧ nEast w h ≤ 12 := by
    unfold nEast
    rcases gOk_cases hk with ⟨rfl | rfl | rfl | rfl, rfl | rfl | rfl | rfl⟩ <;> decide
  rw [e1, e2, e3, w64_id (x := m / w * (w - 1)) (by omega) (by omega)]
  refine ⟨w64_id (by omega) (by omega), w64_id (by omega) (by omega), by omega, ?_⟩
  have : (w - 1) * h = nEast w h := rfl
  rw [this]; exact w64_id (by omega) (by omega)
theorem spec_GapAt_eq (k : Nat) (w h c d : Int) : spec_GapAt.f (k + 1) w h c d = some (gapAt w h c d) := by
  unfold spec_GapAt.f gapAt
  rw [spec_Neighbor_eq]; simp only [Option.bind_some]
  by_cases hn : nbr w h c d < 0
  · rw [if_pos hn, if_pos hn]
  · rw [if_neg hn, if_neg hn]
    obtain ⟨e1, e2, e3, e4⟩ := gap_w64 (w := w) (h := h) (c := c) (d := d) (by omega)
    obtain ⟨m0, m1⟩ := mn_bd (w := w) (h := h) (c := c) (d := d) (by omega)
    rw [if_neg e3, e1, l02East_eq (ok_of_cell m0 m1)]
    simp only [Option.bind_some]
    rw [e2]
    by_cases d1 : d = 1
    · rw [if_pos d1, if_pos (.inl d1)]
    · rw [if_neg d1]
      by_cases d3 : d = 3
      · rw [if_pos d3, if_pos (.inr d3)]
      · rw [if_neg d3, if_neg (by omega)]
theorem impl_GapAt_eq (k : Nat) (w h c d : Int) : impl_GapAt.f (k + 3) w h c d = some (gapAt w h c d) := by
  unfold impl_GapAt.f gapAt
  rw [impl_Neighbor_eq]; simp only [Option.bind_some]
  by_cases hn : nbr w h c d < 0
  · rw [if_pos hn, if_pos hn]
  · rw [if_neg hn, if_neg hn]
    obtain ⟨e1, e2, e3, e4⟩ := gap_w64 (w := w) (h := h) (c := c) (d := d) (by omega)
    rw [if_neg e3, e1, e4, e2]
    by_cases d1 : d = 1
    · rw [if_pos d1, if_pos (.inl d1)]
    · rw [if_neg d1]
      by_cases d3 : d = 3
      · rw [if_pos d3, if_pos (.inr d3)]
      · rw [if_neg d3, if_neg (by omega)]
theorem FnExactGapAt : laws_FnExactGapAt.Pure := by
  intro w h c d _ _ _ _
  refine ⟨3, ?_⟩
  unfold laws_FnExactGapAt.f
  simp only [toGrid_eq, spec_GapAt_eq 2, impl_GapAt_eq 0, Option.bind_some, if_pos]

end Go.Proofs.Ytalobhnjecefpaa.Pure
