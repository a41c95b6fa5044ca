/- The plain law FnGrids: for every input that its Go types allow, the printed functions of the program and of the reference answer so that the law's own function says true. No further condition. -/
import Derived.Test.YtalobhnjecefpaaQx0
import Derived.Test.YtalobhnjecefpaaQx1
import Derived.Test.YtalobhnjecefpaaQx10
import Derived.Test.YtalobhnjecefpaaQx11
import Derived.Test.YtalobhnjecefpaaQx17
import Derived.Test.YtalobhnjecefpaaQx2
import Derived.Test.YtalobhnjecefpaaQx23
import Derived.Test.YtalobhnjecefpaaQx25
import Derived.Test.YtalobhnjecefpaaQx27
import Derived.Test.YtalobhnjecefpaaQx9
namespace Go.Proofs.Ytalobhnjecefpaa.Pure
open Go.RowKit Go.Proofs.Ytalobhnjecefpaa.Q Go.Proofs.YtalobhnjecefpaaW.PrintWords Go.Proofs.YtalobhnjecefpaaW.PrintLast Go.Proofs.YtalobhnjecefpaaW.PrintMore
set_option linter.unusedVariables false
set_option linter.unusedSimpArgs false

theorem w64_id {x : Int} (h0 : -9223372036854775808 ≤ x) (h1 : x ≤ 9223372036854775807) : wrap64 x = x := by
  unfold wrap64; omega
theorem bits_and_255 (y : Int) : 0 ≤ Go.bits .and .i64 y 255 ∧ Go.bits .and .i64 y 255 ≤ 255 := by
  have e : Go.bits .and .i64 y 255 = (((BitVec.ofInt 64 y) &&& (BitVec.ofInt 64 255)).toNat : Int) := by
    show IntKind.i64.wrap (((BitVec.ofInt 64 y) &&& (BitVec.ofInt 64 255)).toNat : Int) = _
    rw [i64_w]
    have h1 : ((BitVec.ofInt 64 y) &&& (BitVec.ofInt 64 255)).toNat ≤ 255 := by rw [BitVec.toNat_and]; exact Nat.and_le_right
    exact w64_id (by omega) (by omega)
  have h1 : ((BitVec.ofInt 64 y) &&& (BitVec.ofInt 64 255)).toNat ≤ 255 := by rw [BitVec.toNat_and]; exact Nat.and_le_right
  omega
def gOk (w h : Int) : Bool := decide (1 ≤ w) && decide (w ≤ 4) && decide (1 ≤ h) && decide (h ≤ 4)
theorem gOk_iff {w h : Int} : gOk w h = true ↔ 1 ≤ w ∧ w ≤ 4 ∧ 1 ≤ h ∧ h ≤ 4 := by
  unfold gOk; simp only [Bool.and_eq_true, decide_eq_true_eq]; omega
theorem gOk_cases {w h : Int} (hg : gOk w h = true) : (w = 1 ∨ w = 2 ∨ w = 3 ∨ w = 4) ∧ (h = 1 ∨ h = 2 ∨ h = 3 ∨ h = 4) := by
  have := gOk_iff.1 hg; omega
def nCells (w h : Int) : Int := if gOk w h = true then w * h else 0
def nGaps (w h : Int) : Int := if gOk w h = true then (w - 1) * h + w * (h - 1) else 0
def nCorn (w h : Int) : Int := if gOk w h = true then (w + 1) * (h + 1) else 0
def nEast (w h : Int) : Int := (w - 1) * h
theorem nCells_bd (w h : Int) : 0 ≤ nCells w h ∧ nCells w h ≤ 16 ∧ (gOk w h = true → 1 ≤ nCells w h) := by
  unfold nCells
  split
  · rename_i hg; rcases gOk_cases hg with ⟨rfl | rfl | rfl | rfl, rfl | rfl | rfl | rfl⟩ <;> decide +kernel
  · rename_i hg; exact ⟨by omega, by omega, fun h => absurd h hg⟩
theorem nGaps_bd (w h : Int) : 0 ≤ nGaps w h ∧ nGaps w h ≤ 24 := by
  unfold nGaps
  split
  · rename_i hg; rcases gOk_cases hg with ⟨rfl | rfl | rfl | rfl, rfl | rfl | rfl | rfl⟩ <;> decide +kernel
  · omega
theorem l01In_eq (a b c : Int) : spec_l01In.f a b c = some (decide (b ≤ a) && decide (a ≤ c)) := by
  unfold spec_l01In.f
  by_cases h : a ≥ b
  · rw [if_pos h]; simp [show b ≤ a from h]
  · rw [if_neg h]; simp [show ¬ b ≤ a from h]
theorem spec_GridOk_eq (w h : Int) : spec_GridOk.f w h = some (gOk w h) := by
  unfold spec_GridOk.f gOk
  simp only [l01In_eq, Option.bind_some]
  by_cases h1 : 1 ≤ w <;> by_cases h2 : w ≤ 4 <;> simp [h1, h2]
theorem impl_GridOk_eq (w h : Int) : impl_GridOk.f w h = some (gOk w h) := by
  unfold impl_GridOk.f gOk
  by_cases h1 : 1 ≤ w <;> by_cases h2 : w ≤ 4 <;> by_cases h3 : 1 ≤ h <;> simp [h1, h2, h3]
theorem spec_CountCells_eq (w h : Int) : spec_CountCells.f w h = some (nCells w h) := by
  unfold spec_CountCells.f nCells
  rw [spec_GridOk_eq]; simp only [Option.bind_some]
  by_cases hg : gOk w h = true
  · rw [if_pos hg, if_pos hg]
    rcases gOk_cases hg with ⟨rfl | rfl | rfl | rfl, rfl | rfl | rfl | rfl⟩ <;> decide +kernel
  · rw [if_neg hg, if_neg hg]
theorem impl_CountCells_eq (w h : Int) : impl_CountCells.f w h = some (nCells w h) := by
  unfold impl_CountCells.f nCells
  rw [impl_GridOk_eq]; simp only [Option.bind_some]
  by_cases hg : gOk w h = true
  · rw [if_pos hg, if_pos hg]
    rcases gOk_cases hg with ⟨rfl | rfl | rfl | rfl, rfl | rfl | rfl | rfl⟩ <;> decide +kernel
  · rw [if_neg hg, if_neg hg]
theorem impl_CountGaps_eq (w h : Int) : impl_CountGaps.f w h = some (nGaps w h) := by
  unfold impl_CountGaps.f nGaps
  rw [impl_GridOk_eq]; simp only [Option.bind_some]
  by_cases hg : gOk w h = true
  · rw [if_pos hg, if_pos hg]
    rcases gOk_cases hg with ⟨rfl | rfl | rfl | rfl, rfl | rfl | rfl | rfl⟩ <;> decide +kernel
  · rw [if_neg hg, if_neg hg]
def gapIn (w h g : Int) : Bool := decide (0 ≤ g) && decide (g < nGaps w h)
theorem gapIn_iff {w h g : Int} : gapIn w h g = true ↔ 0 ≤ g ∧ g < nGaps w h := by unfold gapIn; simp
theorem isGap_eq (w h g : Int) : impl_isGap.f w h g = some (gapIn w h g) := by
  unfold impl_isGap.f gapIn
  rw [impl_CountGaps_eq]
  by_cases h0 : 0 ≤ g
  · rw [if_pos h0]; simp [h0]
  · rw [if_neg h0]; simp [h0]
def ends (w h g : Int) : Int × Int :=
  if gapIn w h g = true then (if g < nEast w h then (g / (w - 1) * w + g % (w - 1), g / (w - 1) * w + g % (w - 1) + 1) else (g - nEast w h, g - nEast w h + w)) else (-1, -1)
theorem impl_EndsOf_eq (w h g : Int) : impl_EndsOf.f w h g = some (ends w h g) := by
  unfold impl_EndsOf.f ends
  simp only [isGap_eq, Option.bind_some]
  by_cases hg : gapIn w h g = true
  · rw [if_pos hg, if_pos hg]
    have h1 := gapIn_iff.1 hg
    have hk : gOk w h = true := by
      by_cases hk : gOk w h = true
      · exact hk
      · have := h1.2; unfold nGaps at this; rw [if_neg hk] at this; omega
    have h2 : nGaps w h = (w - 1) * h + w * (h - 1) := by unfold nGaps; rw [if_pos hk]
    rw [h2] at h1
    have h3 : wrap64 ((wrap64 (w - 1)) * h) = nEast w h := by
      unfold nEast
      rcases gOk_cases hk with ⟨rfl | rfl | rfl | rfl, rfl | rfl | rfl | rfl⟩ <;> decide +kernel
    rw [h3]
    have e1 : wrap64 (w - 1) = w - 1 := by have := gOk_iff.1 hk; exact w64_id (by omega) (by omega)
    rw [e1]
    by_cases he : g < nEast w h
    · rw [if_neg (by omega), if_pos he]
      unfold nEast at he
      rcases gOk_cases hk with ⟨rfl | rfl | rfl | rfl, rfl | rfl | rfl | rfl⟩ <;> first | omega | (simp only [Int.reduceSub, Int.tdiv_eq_ediv_of_nonneg h1.1, Int.tmod_eq_emod_of_nonneg h1.1]; rw [if_neg (by decide), w64_id (x := g / _) (by omega) (by omega), w64_id (x := g / _ * _) (by omega) (by omega), w64_id (x := g / _ * _ + g % _) (by omega) (by omega), w64_id (by omega) (by omega)])
    · rw [if_pos (by omega), if_neg he]
      unfold nEast at he ⊢
      rcases gOk_cases hk with ⟨rfl | rfl | rfl | rfl, rfl | rfl | rfl | rfl⟩ <;> (rw [w64_id (x := g - _) (by omega) (by omega), w64_id (by omega) (by omega)])
  · rw [if_neg hg, if_neg hg]
def nbr (w h c d : Int) : Int :=
  if 0 ≤ c ∧ c < nCells w h then (if d = 0 then (if 0 < c / w then c - w else -1) else if d = 1 then (if c % w < w - 1 then c + 1 else -1) else if d = 2 then (if c / w < h - 1 then c + w else -1) else if d = 3 then (if 0 < c % w then c - 1 else -1) else -1) else -1
theorem ok_of_cell {w h c : Int} (h0 : 0 ≤ c) (h1 : c < nCells w h) : gOk w h = true := by
  by_cases hk : gOk w h = true
  · exact hk
  · unfold nCells at h1; rw [if_neg hk] at h1; omega
theorem nCells_ok {w h : Int} (hk : gOk w h = true) : nCells w h = w * h := by unfold nCells; rw [if_pos hk]
def cellIn (w h c : Int) : Bool := decide (0 ≤ c) && decide (c < nCells w h)
theorem cellIn_iff {w h c : Int} : cellIn w h c = true ↔ 0 ≤ c ∧ c < nCells w h := by unfold cellIn; simp
theorem isCell_eq (w h c : Int) : impl_isCell.f w h c = some (cellIn w h c) := by
  unfold impl_isCell.f cellIn
  rw [impl_CountCells_eq]
  by_cases h0 : 0 ≤ c
  · rw [if_pos h0]; simp [h0]
  · rw [if_neg h0]; simp [h0]
theorem cell_xy {w h c : Int} (h0 : 0 ≤ c) (h1 : c < nCells w h) : (0 ≤ c % w ∧ c % w ≤ w - 1) ∧ (0 ≤ c / w ∧ c / w ≤ h - 1) ∧ c = c / w * w + c % w := by
  have hk := ok_of_cell h0 h1
  rw [nCells_ok hk] at h1
  rcases gOk_cases hk with ⟨rfl | rfl | rfl | rfl, rfl | rfl | rfl | rfl⟩ <;> omega
theorem cell_w64 {w h c : Int} (h0 : 0 ≤ c) (h1 : c < nCells w h) : wrap64 (Int.tdiv c w) = c / w ∧ Int.tmod c w = c % w := by
  have := cell_xy h0 h1
  have hw := gOk_iff.1 (ok_of_cell h0 h1)
  rw [Int.tdiv_eq_ediv_of_nonneg h0, Int.tmod_eq_emod_of_nonneg h0]
  exact ⟨w64_id (by omega) (by omega), rfl⟩
theorem impl_Neighbor_eq (k : Nat) (w h c d : Int) : impl_Neighbor.f (k + 3) w h c d = some (nbr w h c d) := by
  unfold impl_Neighbor.f nbr
  simp only [isCell_eq, Option.bind_some]
  by_cases hc : cellIn w h c = true
  · obtain ⟨h0, h1⟩ := cellIn_iff.1 hc
    have hk := ok_of_cell h0 h1
    have hw := gOk_iff.1 hk
    have hxy := cell_xy h0 h1
    have hb := nCells_bd w h
    obtain ⟨e1, e2⟩ := cell_w64 h0 h1
    rw [if_pos hc, if_pos (show 0 ≤ c ∧ c < nCells w h from ⟨h0, h1⟩), if_neg (show ¬ w = 0 by omega), e1, e2]
    simp only [impl_Neighbor.j0, impl_Neighbor.j1, impl_Neighbor.j2]
    rw [w64_id (x := w - 1) (by omega) (by omega), w64_id (x := h - 1) (by omega) (by omega), w64_id (x := c - w) (by omega) (by omega), w64_id (x := c + w) (by omega) (by omega), w64_id (x := c - 1) (by omega) (by omega), w64_id (x := c + 1) (by omega) (by omega)]
    simp only [decide_eq_true_eq, gt_iff_lt, Bool.false_eq_true, if_false]
    by_cases d0 : d = 0
    · subst d0; simp; split <;> rfl
    · by_cases d1 : d = 1
      · subst d1; simp; split <;> rfl
      · by_cases d2 : d = 2
        · subst d2; simp; split <;> rfl
        · by_cases d3 : d = 3
          · subst d3; simp
            split <;> rfl
          · simp [d0, d1, d2, d3]
  · rw [if_neg hc, if_neg (fun hh => hc (cellIn_iff.2 hh))]
theorem nbr_cases {w h c d : Int} (hn : 0 ≤ nbr w h c d) : (0 ≤ c ∧ c < nCells w h) ∧ ((d = 0 ∧ 0 < c / w ∧ nbr w h c d = c - w) ∨ (d = 1 ∧ c % w < w - 1 ∧ nbr w h c d = c + 1) ∨ (d = 2 ∧ c / w < h - 1 ∧ nbr w h c d = c + w) ∨ (d = 3 ∧ 0 < c % w ∧ nbr w h c d = c - 1)) := by
  unfold nbr at hn ⊢
  by_cases hc : 0 ≤ c ∧ c < nCells w h
  · rw [if_pos hc] at hn ⊢
    refine ⟨hc, ?_⟩
    by_cases d0 : d = 0
    · rw [if_pos d0] at hn ⊢
      by_cases z : 0 < c / w
      · rw [if_pos z]; exact .inl ⟨d0, z, rfl⟩
      · rw [if_neg z] at hn; omega
    · rw [if_neg d0] at hn ⊢
      by_cases d1 : d = 1
      · rw [if_pos d1] at hn ⊢
        by_cases z : c % w < w - 1
        · rw [if_pos z]; exact .inr (.inl ⟨d1, z, rfl⟩)
        · rw [if_neg z] at hn; omega
      · rw [if_neg d1] at hn ⊢
        by_cases d2 : d = 2
        · rw [if_pos d2] at hn ⊢
          by_cases z : c / w < h - 1
          · rw [if_pos z]; exact .inr (.inr (.inl ⟨d2, z, rfl⟩))
          · rw [if_neg z] at hn; omega
        · rw [if_neg d2] at hn ⊢
          by_cases d3 : d = 3
          · rw [if_pos d3] at hn ⊢
            by_cases z : 0 < c % w
            · rw [if_pos z]; exact .inr (.inr (.inr ⟨d3, z, rfl⟩))
            · rw [if_neg z] at hn; omega
          · rw [if_neg d3] at hn; omega
  · rw [if_neg hc] at hn; omega
theorem nbr_bd {w h c d : Int} (hn : 0 ≤ nbr w h c d) : nbr w h c d < nCells w h := by
  obtain ⟨⟨h0, h1⟩, hd⟩ := nbr_cases hn
  have hk := ok_of_cell h0 h1
  rw [nCells_ok hk] at h1 ⊢
  rcases gOk_cases hk with ⟨rfl | rfl | rfl | rfl, rfl | rfl | rfl | rfl⟩ <;> omega
def gapAt (w h c d : Int) : Int :=
  if nbr w h c d < 0 then -1 else if d = 1 ∨ d = 3 then mn c (nbr w h c d) / w * (w - 1) + mn c (nbr w h c d) % w else nEast w h + mn c (nbr w h c d)
theorem mn_bd {w h c d : Int} (hn : 0 ≤ nbr w h c d) : 0 ≤ mn c (nbr w h c d) ∧ mn c (nbr w h c d) < nCells w h := by
  have h1 := nbr_bd hn
  obtain ⟨⟨h2, h3⟩, _⟩ := nbr_cases hn
  unfold mn; split <;> omega
theorem gap_w64 {w h c d : Int} (hn : 0 ≤ nbr w h c d) :
    wrap64 ((wrap64 ((wrap64 (Int.tdiv (mn c (nbr w h c d)) w)) * (wrap64 (w - 1)))) + (Int.tmod (mn c (nbr w h c d)) w)) = mn c (nbr w h c d) / w * (w - 1) + mn c (nbr w h c d) % w ∧ wrap64 (nEast w h + mn c (nbr w h c d)) = nEast w h + mn c (nbr w h c d) ∧ w ≠ 0 ∧ wrap64 ((wrap64 (w - 1)) * h) = nEast w h := by
  obtain ⟨m0, m1⟩ := mn_bd hn
  generalize mn c (nbr w h c d) = m at m0 m1 ⊢
  have hk := ok_of_cell m0 m1
  have hw := gOk_iff.1 hk
  have hxy := cell_xy m0 m1
  have hb := nCells_bd w h
  obtain ⟨e1, e2⟩ := cell_w64 m0 m1
  have e3 : wrap64 (w - 1) = w - 1 := w64_id (by omega) (by omega)
  have p1 : 0 ≤ m / w * (w - 1) ∧ m / w * (w - 1) ≤ 16 := by
    have q0 : 0 ≤ m / w * (w - 1) := Int.mul_nonneg hxy.2.1.1 (by omega)
    have q1 : m / w * (w - 1) = m / w * w - m / w := by rw [Int.mul_sub, Int.mul_one]
    omega
  have p2 : 0 ≤ nEast w h ∧ nEast w h ≤ 12 := by
    unfold nEast
    rcases gOk_cases hk with ⟨rfl | rfl | rfl | rfl, rfl | rfl | rfl | rfl⟩ <;> decide
  rw [e1, e2, e3, w64_id (x := m / w * (w - 1)) (by omega) (by omega)]
  refine ⟨w64_id (by omega) (by omega), w64_id (by omega) (by omega), by omega, ?_⟩
  have : (w - 1) * h = nEast w h := rfl
  rw [this]; exact w64_id (by omega) (by omega)
theorem impl_GapAt_eq (k : Nat) (w h c d : Int) : impl_GapAt.f (k + 3) w h c d = some (gapAt w h c d) := by
  unfold impl_GapAt.f gapAt
  rw [impl_Neighbor_eq]; simp only [Option.bind_some]
  by_cases hn : nbr w h c d < 0
  · rw [if_pos hn, if_pos hn]
  · rw [if_neg hn, if_neg hn]
    obtain ⟨e1, e2, e3, e4⟩ := gap_w64 (w := w) (h := h) (c := c) (d := d) (by omega)
    rw [if_neg e3, e1, e4, e2]
    by_cases d1 : d = 1
    · rw [if_pos d1, if_pos (.inl d1)]
    · rw [if_neg d1]
      by_cases d3 : d = 3
      · rw [if_pos d3, if_pos (.inr d3)]
      · rw [if_neg d3, if_neg (by omega)]
theorem l01New_tot (l : List Int) (hl : l.length ≤ 140737488351232) (d : Nat) : ∀ (k : Nat) (h i : Int), 0 ≤ i → (l.length : Int) - i ≤ d → d < k → ∃ h', spec_l01New.l0 k l h i = some (l, 0, h') := by
  induction d with
  | zero =>
    intro k h i h0 hd hk
    obtain ⟨k, rfl⟩ : ∃ m, k = m + 1 := ⟨k - 1, by omega⟩
    simp only [spec_l01New.l0]; rw [if_neg (by omega)]; exact ⟨_, rfl⟩
  | succ d ih =>
    intro k h i h0 hd hk
    obtain ⟨k, rfl⟩ : ∃ m, k = m + 1 := ⟨k - 1, by omega⟩
    simp only [spec_l01New.l0]
    by_cases h1 : i < (l.length : Int)
    · rw [if_pos h1]
      by_cases h2 : i < 4000
      · rw [if_pos h2, if_pos h0, w64_id (x := i + 1) (by omega) (by omega)]
        exact ih _ _ _ (by omega) (by omega) (by omega)
      · rw [if_neg h2]; exact ⟨_, rfl⟩
    · rw [if_neg h1]; exact ⟨_, rfl⟩
theorem l01New_eq (l : List Int) (hl : l.length ≤ 140737488351232) (k : Nat) (hk : l.length < k) : ∃ h', spec_l01New.f k l = some (l, 0, h') := by
  unfold spec_l01New.f
  exact l01New_tot l hl l.length k _ _ (by omega) (by omega) hk
theorem l01Byte_tot (l : List Int) (hl : l.length ≤ 140737488351232) (i h : Int) (h0 : 0 ≤ i) : ∃ x i' h', spec_l01Byte.f l i h = some (x, i', h') ∧ 0 ≤ x ∧ x ≤ 255 ∧ 0 ≤ i' := by
  unfold spec_l01Byte.f
  by_cases h1 : i < (l.length : Int)
  · rw [if_pos h1, if_pos h0, w64_id (x := i + 1) (by omega) (by omega)]
    exact ⟨_, _, _, rfl, (bits_and_255 _).1, (bits_and_255 _).2, by omega⟩
  · rw [if_neg h1]
    exact ⟨_, _, _, rfl, (bits_and_255 _).1, (bits_and_255 _).2, h0⟩
theorem l01Below_tot (l : List Int) (hl : l.length ≤ 140737488351232) (i h n : Int) (h0 : 0 ≤ i) : ∃ x i' h', spec_l01Below.f l i h n = some (x, i', h') ∧ 0 ≤ x ∧ (0 < n → x < n) ∧ (n ≤ 0 → x = 0) ∧ 0 ≤ i' := by
  unfold spec_l01Below.f
  by_cases h1 : n ≤ 0
  · rw [if_pos h1]; exact ⟨_, _, _, rfl, by omega, by omega, fun _ => rfl, h0⟩
  · rw [if_neg h1]
    by_cases h2 : n ≤ 256
    · rw [if_pos h2]
      obtain ⟨x, i', h', e, x0, x1, i0⟩ := l01Byte_tot l hl i h h0
      rw [e]; simp only [Option.bind_some]
      rw [if_neg (by omega), Int.tmod_eq_emod_of_nonneg x0]
      exact ⟨_, _, _, rfl, Int.emod_nonneg _ (by omega), fun _ => Int.emod_lt_of_pos _ (by omega), fun hh => by omega, i0⟩
    · rw [if_neg h2]
      obtain ⟨x, i1, h1', e, x0, x1, i0⟩ := l01Byte_tot l hl i h h0
      rw [e]; simp only [Option.bind_some]
      obtain ⟨y, i2, h2', e, y0, y1, i0⟩ := l01Byte_tot l hl i1 h1' i0
      rw [e]; simp only [Option.bind_some]
      obtain ⟨z, i3, h3', e, z0, z1, i0⟩ := l01Byte_tot l hl i2 h2' i0
      rw [e]; simp only [Option.bind_some]
      obtain ⟨u, i4, h4', e, u0, u1, i0⟩ := l01Byte_tot l hl i3 h3' i0
      rw [e]; simp only [Option.bind_some]
      rw [if_neg (by omega), w64_id (x := x * 16777216) (by omega) (by omega), w64_id (x := y * 65536) (by omega) (by omega), w64_id (x := z * 256) (by omega) (by omega), w64_id (x := x * 16777216 + y * 65536) (by omega) (by omega), w64_id (x := x * 16777216 + y * 65536 + z * 256) (by omega) (by omega), w64_id (by omega) (by omega), Int.tmod_eq_emod_of_nonneg (by omega)]
      exact ⟨_, _, _, rfl, Int.emod_nonneg _ (by omega), fun _ => Int.emod_lt_of_pos _ (by omega), fun hh => by omega, i0⟩
theorem l01PickInt_tot (l : List Int) (hl : l.length ≤ 140737488351232) (i h : Int) (xs : List Int) (hx : 0 < xs.length) (h0 : 0 ≤ i) : ∃ x i' h', spec_l01PickInt.f l i h xs = some (x, i', h') ∧ x ∈ xs ∧ 0 ≤ i' := by
  unfold spec_l01PickInt.f
  obtain ⟨x, i', h', e, x0, x1, _, i0⟩ := l01Below_tot l hl i h xs.length h0
  rw [e]; simp only [Option.bind_some]
  have hlt := x1 (by omega)
  rw [if_pos x0, if_pos hlt]
  refine ⟨_, _, _, rfl, ?_, i0⟩
  unfold rd
  rw [List.getD_eq_getElem?_getD, List.getElem?_eq_getElem (by omega)]
  exact List.getElem_mem _
theorem l02Grid_tot (l : List Int) (hl : l.length ≤ 140737488351232) (i h : Int) (h0 : 0 ≤ i) : ∃ x y i' h', spec_l02Grid.f l i h = some (x, y, i', h') ∧ gOk x y = true ∧ 0 ≤ i' := by
  unfold spec_l02Grid.f
  obtain ⟨x, i1, h1, e, hx, i0⟩ := l01PickInt_tot l hl i h [1, 2, 3, 3, 4] (by decide) h0
  rw [e]; simp only [Option.bind_some]
  obtain ⟨y, i2, h2, e, hy, i0⟩ := l01PickInt_tot l hl i1 h1 [1, 2, 3, 3, 4] (by decide) i0
  rw [e]; simp only [Option.bind_some]
  refine ⟨_, _, _, _, rfl, ?_, i0⟩
  simp only [List.mem_cons, List.not_mem_nil, or_false] at hx hy
  rw [gOk_iff]; omega
theorem DrawGrid_tot (l : List Int) (hl : l.length ≤ 140737488351232) (k : Nat) (hk : l.length < k) : ∃ x y, spec_DrawGrid.f k l = some (x, y) ∧ gOk x y = true := by
  unfold spec_DrawGrid.f
  obtain ⟨h', e⟩ := l01New_eq l hl k hk
  rw [e]; simp only [Option.bind_some]
  obtain ⟨x, y, i', h2, e, hg, _⟩ := l02Grid_tot l hl 0 h' (by omega)
  rw [e]; simp only [Option.bind_some]
  exact ⟨_, _, rfl, hg⟩
theorem at_tot (l : List Int) (hl : l.length ≤ 140737488351232) (hw : ∀ x ∈ l, (Lit.int .u8 x).wf = true) (i : Int) (i0 : 0 ≤ i) (i1 : i ≤ 1000000) : ∃ x, laws_at.f l i = some x ∧ 0 ≤ x ∧ x ≤ 255 := by
  unfold laws_at.f
  rw [w64_id (x := i * 5) (by omega) (by omega), w64_id (x := i * 5 + 1) (by omega) (by omega), Int.tmod_eq_emod_of_nonneg (by omega)]
  by_cases h0 : (l.length : Int) = 0
  · rw [if_pos h0]; exact ⟨_, rfl, by omega, by omega⟩
  · rw [if_neg h0]
    have q0 := Int.emod_nonneg (i * 5 + 1) h0
    have q1 := Int.emod_lt_of_pos (i * 5 + 1) (show 0 < (l.length : Int) by omega)
    rw [if_pos q0, if_pos q1]
    have hm : rd l ((i * 5 + 1) % (l.length : Int)) ∈ l := by
      unfold rd
      rw [List.getD_eq_getElem?_getD, List.getElem?_eq_getElem (by omega)]
      exact List.getElem_mem _
    have hb := hw _ hm
    simp only [Lit.wf, IntKind.min, IntKind.max, IntKind.signed, IntKind.bits, Bool.and_eq_true, decide_eq_true_eq] at hb
    have b0 : 0 ≤ rd l ((i * 5 + 1) % (l.length : Int)) := by simpa using hb.1
    have b1 : rd l ((i * 5 + 1) % (l.length : Int)) ≤ 255 := by simpa using hb.2
    rw [w64_id (by omega) (by omega)]
    exact ⟨_, rfl, b0, b1⟩
def gridsEnd (l : List Int) (x4 w h : Int) : Option Bool := (laws_at.f l 0).bind fun t420 => ((impl_CountGaps.f w h).bind fun t421 => (if x4 = (wrap64 (2 * t421)) then ((impl_TurnRight.f (Int.tmod t420 4)).bind fun t422 => ((impl_TurnRight.f t422).bind fun t423 => (if t423 = (Int.tmod (wrap64 ((Int.tmod t420 4) + 2)) 4) then ((impl_CountCells.f w h).bind fun t424 => (some (t424 == (wrap64 (w * h))))) else (some false)))) else (some false)))
theorem turn_turn (d : Fin 256) : ((impl_TurnRight.f (Int.tmod (d.val : Int) 4)).bind fun a => (impl_TurnRight.f a).bind fun b => some (decide (b = Int.tmod (wrap64 ((Int.tmod (d.val : Int) 4) + 2)) 4))) = some true := by
  revert d; decide +kernel
theorem gridsEnd_true (l : List Int) (hl : l.length ≤ 140737488351232) (hw : ∀ x ∈ l, (Lit.int .u8 x).wf = true) {w h : Int} (hk : gOk w h = true) : gridsEnd l (2 * nGaps w h) w h = some true := by
  unfold gridsEnd
  obtain ⟨x, e, x0, x1⟩ := at_tot l hl hw 0 (by omega) (by omega)
  have hb := nGaps_bd w h
  rw [e, impl_CountGaps_eq, impl_CountCells_eq]; simp only [Option.bind_some]
  rw [if_pos (w64_id (by omega) (by omega)).symm]
  have ht := turn_turn ⟨x.toNat, by omega⟩
  simp only [Int.toNat_of_nonneg x0] at ht
  obtain ⟨a, ea, ht⟩ := Option.bind_eq_some_iff.1 ht
  obtain ⟨b, eb, ht⟩ := Option.bind_eq_some_iff.1 ht
  have ht := Option.some.inj ht
  rw [ea]; simp only [Option.bind_some]; rw [eb]; simp only [Option.bind_some]
  rw [if_pos (of_decide_eq_true ht), nCells_ok hk]
  have hc := nCells_bd w h
  rw [nCells_ok hk] at hc
  rw [w64_id (by omega) (by omega)]; simp
def gridStep (w h c d : Int) : Bool :=
  (decide (nbr w h c d < 0) == decide (gapAt w h c d < 0)) && (decide (nbr w h c d < 0) || (decide (nbr w h (nbr w h c d) ((d + 2) % 4) = c) && (decide (gapAt w h (nbr w h c d) ((d + 2) % 4) = gapAt w h c d) && (decide ((ends w h (gapAt w h c d)).1 < (ends w h (gapAt w h c d)).2) && ((decide ((ends w h (gapAt w h c d)).1 = c) || decide ((ends w h (gapAt w h c d)).2 = c)) && (decide ((ends w h (gapAt w h c d)).1 = nbr w h c d) || decide ((ends w h (gapAt w h c d)).2 = nbr w h c d)))))))
theorem gridStep_all {w h : Int} (hk : gOk w h = true) (c d : Nat) (hc : c < 16) (hd : d < 4) : gridStep w h c d = true := by
  have key : ∀ c : Fin 16, ∀ d : Fin 4, gridStep w h (c.val : Int) (d.val : Int) = true := by
    rcases gOk_cases hk with ⟨rfl | rfl | rfl | rfl, rfl | rfl | rfl | rfl⟩ <;> decide +kernel
  exact key ⟨c, hc⟩ ⟨d, hd⟩
def cntN (w h : Int) : Nat → Int
  | 0 => 0
  | i + 1 => cntN w h i + (if nbr w h ((i / 4 : Nat) : Int) ((i % 4 : Nat) : Int) < 0 then 0 else 1)
theorem cntN_bd (w h : Int) (i : Nat) : 0 ≤ cntN w h i ∧ cntN w h i ≤ i := by
  induction i with
  | zero => simp [cntN]
  | succ i ih => simp only [cntN]; split <;> omega
theorem cntN_step (w h : Int) (c d : Nat) (hd : d < 4) : cntN w h (4 * c + d + 1) = cntN w h (4 * c + d) + (if nbr w h (c : Int) (d : Int) < 0 then 0 else 1) := by
  simp only [cntN]
  rw [show (4 * c + d) / 4 = c by omega, show (4 * c + d) % 4 = d by omega]
theorem cntN_all {w h : Int} (hk : gOk w h = true) : cntN w h (4 * (nCells w h).toNat) = 2 * nGaps w h := by
  rcases gOk_cases hk with ⟨rfl | rfl | rfl | rfl, rfl | rfl | rfl | rfl⟩ <;> decide +kernel
theorem grid_loop (l : List Int) {w h : Int} (hk : gOk w h = true) (he : gridsEnd l (2 * nGaps w h) w h = some true) (k : Nat) :
    (∀ c : Nat, (c : Int) ≤ nCells w h → 6 * (nCells w h - c) + 1 ≤ k → laws_FnGrids.l0 (k + 3) l (cntN w h (4 * c)) c w h = some true) ∧
    (∀ c d : Nat, (c : Int) < nCells w h → d ≤ 4 → 6 * (nCells w h - c) - d ≤ k → laws_FnGrids.l1 (k + 3) l (cntN w h (4 * c + d)) c d w h = some true) := by
  have hb := nCells_bd w h
  induction k with
  | zero => exact ⟨fun _ _ hh => by omega, fun _ _ _ _ hh => by omega⟩
  | succ k ih =>
    obtain ⟨m, hm⟩ : ∃ m, m = k + 3 := ⟨_, rfl⟩
    constructor
    · intro c c1 hh
      rw [show k + 1 + 3 = m + 1 by omega]
      simp only [laws_FnGrids.l0, spec_CountCells_eq, Option.bind_some]
      subst hm
      by_cases z : (c : Int) < nCells w h
      · rw [if_pos z]
        exact ih.2 c 0 z (by omega) (by omega)
      · rw [if_neg z]
        have e : c = (nCells w h).toNat := by omega
        have e2 := cntN_all hk
        rw [← e] at e2
        rw [e2]
        exact he
    · intro c d c1 d1 hh
      rw [show k + 1 + 3 = m + 1 by omega]
      simp only [laws_FnGrids.l1]
      subst hm
      have hcb := cntN_bd w h (4 * c + d)
      by_cases z0 : (d : Int) < 4
      · rw [if_pos z0]
        have s := gridStep_all hk c d (by omega) (by omega)
        have hgo := ih.2 c (d + 1) c1 (by omega) (by omega)
        rw [← Nat.add_assoc, cntN_step w h c d (by omega), Int.natCast_add] at hgo
        simp only [impl_Neighbor_eq, impl_GapAt_eq, impl_EndsOf_eq, Option.bind_some]
        rw [w64_id (x := (d : Int) + 1) (by omega) (by omega), w64_id (x := cntN w h (4 * c + d) + 1) (by omega) (by omega), w64_id (x := (d : Int) + 2) (by omega) (by omega), Int.tmod_eq_emod_of_nonneg (by omega)]
        unfold gridStep at s
        simp only [Bool.and_eq_true, Bool.or_eq_true, decide_eq_true_eq, beq_iff_eq] at s
        obtain ⟨s1, s2⟩ := s
        rw [if_neg (by rw [s1]; simp)]
        by_cases z : nbr w h c d < 0
        · rw [if_pos z] at hgo ⊢
          simpa using hgo
        · rw [if_neg z] at hgo ⊢
          obtain ⟨s3, s4, s5, s6, s7⟩ := s2.resolve_left z
          rw [if_pos s3, if_pos s4, if_neg (by omega)]
          have hgo : laws_FnGrids.l1 (k + 3) l (cntN w h (4 * c + d) + 1) (c : Int) ((d : Int) + 1) w h = some true := by simpa using hgo
          by_cases z1 : (ends w h (gapAt w h c d)).1 = c
          · rw [if_pos z1]
            by_cases z2 : (ends w h (gapAt w h c d)).1 = nbr w h c d
            · rw [if_pos z2]; exact hgo
            · rw [if_neg z2, if_pos (s7.resolve_left z2)]; exact hgo
          · rw [if_neg z1, if_pos (s6.resolve_left z1)]
            by_cases z2 : (ends w h (gapAt w h c d)).1 = nbr w h c d
            · rw [if_pos z2]; exact hgo
            · rw [if_neg z2, if_pos (s7.resolve_left z2)]; exact hgo
      · rw [if_neg z0]
        obtain rfl : d = 4 := by omega
        rw [w64_id (x := (c : Int) + 1) (by omega) (by omega)]
        have hgo := ih.1 (c + 1) (by omega) (by omega)
        rw [show 4 * (c + 1) = 4 * c + 4 by omega] at hgo
        simpa using hgo
theorem grid_total (l : List Int) (hl : l.length ≤ 140737488351232) (hw : ∀ x ∈ l, (Lit.int .u8 x).wf = true) {w h : Int} (hk : gOk w h = true) (K : Nat) (hK : 200 ≤ K) : laws_FnGrids.l0 (K + 3) l 0 0 w h = some true := by
  have hn := nCells_bd w h
  have k1 := (grid_loop l hk (gridsEnd_true l hl hw hk) K).1 0 (by omega) (by omega)
  simpa [cntN] using k1
theorem FnGrids : laws_FnGrids.Pure := by
  intro l _ hl hw
  obtain ⟨K, hK⟩ : ∃ K, K = l.length + 300 := ⟨_, rfl⟩
  refine ⟨K + 3, ?_⟩
  unfold laws_FnGrids.f laws_big.f
  rw [Option.bind_some]
  by_cases hb : decide ((l.length : Int) > 1048576) = true
  · rw [if_pos hb]
  · rw [if_neg hb]
    obtain ⟨w, h, e, hg⟩ := DrawGrid_tot l (by omega) (K + 3) (by omega)
    rw [e, Option.bind_some]
    exact grid_total l (by omega) hw hg K (by omega)

end Go.Proofs.Ytalobhnjecefpaa.Pure
