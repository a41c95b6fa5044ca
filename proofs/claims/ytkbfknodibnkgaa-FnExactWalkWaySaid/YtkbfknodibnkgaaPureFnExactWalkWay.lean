/- The plain law FnExactWalkWay: for every input that its Go types allow, the printed functions of the program and of the reference answer so that the law's own function says true. No further condition. -/
import Derived.Test.YtkbfknodibnkgaaQx0
import Derived.Test.YtkbfknodibnkgaaQx1
import Derived.Test.YtkbfknodibnkgaaQx10
import Derived.Test.YtkbfknodibnkgaaQx11
import Derived.Test.YtkbfknodibnkgaaQx12
import Derived.Test.YtkbfknodibnkgaaQx13
import Derived.Test.YtkbfknodibnkgaaQx14
import Derived.Test.YtkbfknodibnkgaaQx15
import Derived.Test.YtkbfknodibnkgaaQx16
import Derived.Test.YtkbfknodibnkgaaQx17
import Derived.Test.YtkbfknodibnkgaaQx2
import Derived.Test.YtkbfknodibnkgaaQx3
import Derived.Test.YtkbfknodibnkgaaQx4
import Derived.Test.YtkbfknodibnkgaaQx5
import Derived.Test.YtkbfknodibnkgaaQx6
import Derived.Test.YtkbfknodibnkgaaQx7
import Derived.Test.YtkbfknodibnkgaaQx8
import Derived.Test.YtkbfknodibnkgaaQx9
namespace Go.Proofs.Ytkbfknodibnkgaa.Pure
open Go.RowKit Go.Proofs.Ytkbfknodibnkgaa.Q Go.Proofs.YtkbfknodibnkgaaW.PrintWords Go.Proofs.YtkbfknodibnkgaaW.PrintLast Go.Proofs.YtkbfknodibnkgaaW.PrintMore
set_option linter.unusedVariables false
set_option linter.unusedSimpArgs false

theorem w64_id {x : Int} (h0 : -9223372036854775808 ≤ x) (h1 : x ≤ 9223372036854775807) : wrap64 x = x := by
 unfold wrap64; omega
theorem shl_one {g : Int} (h0 : 0 ≤ g) (h1 : g ≤ 62) : shl .i64 1 g = 2 ^ g.toNat := by
 unfold shl
 rw [i64_w, Nat.min_eq_left (by simp only [IntKind.bits]; omega), Int.one_mul]
 have : (2 : Int) ^ g.toNat ≤ 2 ^ 62 := by
  have := Nat.pow_le_pow_right (n := 2) (by omega) (show g.toNat ≤ 62 by omega)
  exact_mod_cast this
 have h3 : (0 : Int) < 2 ^ g.toNat := by exact_mod_cast Nat.pow_pos (by omega)
 exact w64_id (by omega) (by omega)
theorem shl_pos {g : Int} (h0 : 0 ≤ g) (h1 : g ≤ 62) : 0 < shl .i64 1 g ∧ shl .i64 1 g ≤ 4611686018427387904 := by
 rw [shl_one h0 h1]
 have : (2 : Int) ^ g.toNat ≤ 2 ^ 62 := by
  have := Nat.pow_le_pow_right (n := 2) (by omega) (show g.toNat ≤ 62 by omega)
  exact_mod_cast this
 have h3 : (0 : Int) < 2 ^ g.toNat := by exact_mod_cast Nat.pow_pos (by omega)
 exact ⟨h3, by omega⟩
theorem shr_nat {o g : Int} (ho : 0 ≤ o) (h1 : g ≤ 64) : shr .i64 o g = ((o.toNat >>> g.toNat : Nat) : Int) := by
 unfold shr
 rw [Nat.min_eq_left (by simp only [IntKind.bits]; omega), Nat.shiftRight_eq_div_pow]
 obtain ⟨n, rfl⟩ := Int.eq_ofNat_of_zero_le ho
 simp only [Int.toNat_natCast]
 rw [Int.natCast_ediv, Int.natCast_pow]; rfl
def bitAt (o g : Int) : Bool := o.toNat.testBit g.toNat
theorem ofInt_nat (x : Nat) : BitVec.ofInt 64 (x : Int) = BitVec.ofNat 64 x := by
 apply BitVec.eq_of_toNat_eq; simp
theorem bits_and_nat {x y : Nat} (hx : x < 9223372036854775808) (hy : y < 9223372036854775808) : Go.bits .and .i64 (x : Int) (y : Int) = ((x &&& y : Nat) : Int) := by
 show IntKind.i64.wrap (((BitVec.ofInt 64 (x : Int)) &&& (BitVec.ofInt 64 (y : Int))).toNat : Int) = _
 rw [i64_w, ofInt_nat, ofInt_nat]
 simp only [BitVec.toNat_and, BitVec.toNat_ofNat]
 rw [Nat.mod_eq_of_lt (by omega), Nat.mod_eq_of_lt (by omega)]
 have := Nat.and_le_left (n := x) (m := y)
 exact w64_id (by omega) (by omega)
theorem bits_and_one {x : Nat} (hx : x < 9223372036854775808) : Go.bits .and .i64 (x : Int) 1 = ((x % 2 : Nat) : Int) := by
 rw [show (1 : Int) = ((1 : Nat) : Int) from rfl, bits_and_nat hx (by omega), Nat.and_one_is_mod]
theorem bit_test {o g : Int} (ho : 0 ≤ o) (ho2 : o ≤ 9223372036854775807) (h1 : g ≤ 64) : (Go.bits .and .i64 (shr .i64 o g) 1 == 1) = bitAt o g := by
 rw [shr_nat ho h1, bits_and_one (by rw [Nat.shiftRight_eq_div_pow]; have := Nat.div_le_self o.toNat (2 ^ g.toNat); omega)]
 unfold bitAt
 rw [Nat.testBit, Bool.eq_iff_iff]
 simp only [beq_iff_eq, bne_iff_ne, ne_eq, Nat.and_comm 1, Nat.and_one_is_mod]
 omega
def gOk (w h : Int) : Bool := decide (1 ≤ w) && decide (w ≤ 4) && decide (1 ≤ h) && decide (h ≤ 4)
theorem gOk_iff {w h : Int} : gOk w h = true ↔ 1 ≤ w ∧ w ≤ 4 ∧ 1 ≤ h ∧ h ≤ 4 := by
 unfold gOk; simp only [Bool.and_eq_true, decide_eq_true_eq]; omega
theorem gOk_cases {w h : Int} (hg : gOk w h = true) : (w = 1 ∨ w = 2 ∨ w = 3 ∨ w = 4) ∧ (h = 1 ∨ h = 2 ∨ h = 3 ∨ h = 4) := by
 have := gOk_iff.1 hg; omega
def nCells (w h : Int) : Int := if gOk w h = true then w * h else 0
def nGaps (w h : Int) : Int := if gOk w h = true then (w - 1) * h + w * (h - 1) else 0
def nCorn (w h : Int) : Int := if gOk w h = true then (w + 1) * (h + 1) else 0
def nEast (w h : Int) : Int := (w - 1) * h
theorem nCells_bd (w h : Int) : 0 ≤ nCells w h ∧ nCells w h ≤ 16 ∧ (gOk w h = true → 1 ≤ nCells w h) := by
 unfold nCells
 split
 ·rename_i hg; rcases gOk_cases hg with ⟨rfl | rfl | rfl | rfl, rfl | rfl | rfl | rfl⟩ <;> decide +kernel
 ·rename_i hg; exact ⟨by omega, by omega, fun h => absurd h hg⟩
theorem nGaps_bd (w h : Int) : 0 ≤ nGaps w h ∧ nGaps w h ≤ 24 := by
 unfold nGaps
 split
 ·rename_i hg; rcases gOk_cases hg with ⟨rfl | rfl | rfl | rfl, rfl | rfl | rfl | rfl⟩ <;> decide +kernel
 ·omega
theorem l01In_eq (a b c : Int) : spec_l01In.f a b c = some (decide (b ≤ a) && decide (a ≤ c)) := by
 unfold spec_l01In.f
 by_cases h : a ≥ b
 ·rw [if_pos h]; simp [show b ≤ a from h]
 ·rw [if_neg h]; simp [show ¬ b ≤ a from h]
theorem spec_GridOk_eq (w h : Int) : spec_GridOk.f w h = some (gOk w h) := by
 unfold spec_GridOk.f gOk
 simp only [l01In_eq, Option.bind_some]
 by_cases h1 : 1 ≤ w <;> by_cases h2 : w ≤ 4 <;> simp [h1, h2]
theorem impl_GridOk_eq (w h : Int) : impl_GridOk.f w h = some (gOk w h) := by
 unfold impl_GridOk.f gOk
 by_cases h1 : 1 ≤ w <;> by_cases h2 : w ≤ 4 <;> by_cases h3 : 1 ≤ h <;> simp [h1, h2, h3]
theorem toMaze_eq (w h o : Int) : laws_toMaze.f w h o = some (w, h, o) := rfl
theorem spec_CountCells_eq (w h : Int) : spec_CountCells.f w h = some (nCells w h) := by
 unfold spec_CountCells.f nCells
 rw [spec_GridOk_eq]; simp only [Option.bind_some]
 by_cases hg : gOk w h = true
 ·rw [if_pos hg, if_pos hg]
  rcases gOk_cases hg with ⟨rfl | rfl | rfl | rfl, rfl | rfl | rfl | rfl⟩ <;> decide +kernel
 ·rw [if_neg hg, if_neg hg]
theorem impl_CountCells_eq (w h : Int) : impl_CountCells.f w h = some (nCells w h) := by
 unfold impl_CountCells.f nCells
 rw [impl_GridOk_eq]; simp only [Option.bind_some]
 by_cases hg : gOk w h = true
 ·rw [if_pos hg, if_pos hg]
  rcases gOk_cases hg with ⟨rfl | rfl | rfl | rfl, rfl | rfl | rfl | rfl⟩ <;> decide +kernel
 ·rw [if_neg hg, if_neg hg]
theorem l02East_eq {w h : Int} (hg : gOk w h = true) : spec_l02East.f w h = some (nEast w h) := by
 unfold spec_l02East.f nEast
 rcases gOk_cases hg with ⟨rfl | rfl | rfl | rfl, rfl | rfl | rfl | rfl⟩ <;> decide +kernel
theorem spec_CountGaps_eq (w h : Int) : spec_CountGaps.f w h = some (nGaps w h) := by
 unfold spec_CountGaps.f nGaps
 rw [spec_GridOk_eq]; simp only [Option.bind_some]
 by_cases hg : gOk w h = true
 ·rw [if_pos hg, if_pos hg, l02East_eq hg]
  rcases gOk_cases hg with ⟨rfl | rfl | rfl | rfl, rfl | rfl | rfl | rfl⟩ <;> decide +kernel
 ·rw [if_neg hg, if_neg hg]
theorem impl_CountGaps_eq (w h : Int) : impl_CountGaps.f w h = some (nGaps w h) := by
 unfold impl_CountGaps.f nGaps
 rw [impl_GridOk_eq]; simp only [Option.bind_some]
 by_cases hg : gOk w h = true
 ·rw [if_pos hg, if_pos hg]
  rcases gOk_cases hg with ⟨rfl | rfl | rfl | rfl, rfl | rfl | rfl | rfl⟩ <;> decide +kernel
 ·rw [if_neg hg, if_neg hg]
def mOk (w h o : Int) : Bool := gOk w h && (decide (0 ≤ o) && decide (o < shl .i64 1 (nGaps w h)))
theorem mOk_iff {w h o : Int} : mOk w h o = true ↔ gOk w h = true ∧ 0 ≤ o ∧ o < 2 ^ (nGaps w h).toNat := by
 unfold mOk
 have := nGaps_bd w h
 rw [shl_one (by omega) (by omega)]
 simp only [Bool.and_eq_true, decide_eq_true_eq]
theorem mOk_bd {w h o : Int} (hm : mOk w h o = true) : 0 ≤ o ∧ o < 16777216 := by
 obtain ⟨_, h0, h1⟩ := mOk_iff.1 hm
 have := nGaps_bd w h
 have h2 := Nat.pow_le_pow_right (n := 2) (by omega) (show (nGaps w h).toNat ≤ 24 by omega)
 have h3 : (2 : Int) ^ (nGaps w h).toNat ≤ 2 ^ 24 := by exact_mod_cast h2
 omega
theorem spec_MazeOk_eq (w h o : Int) : spec_MazeOk.f w h o = some (mOk w h o) := by
 unfold spec_MazeOk.f mOk
 have hb := nGaps_bd w h
 have hs := shl_pos (g := nGaps w h) (by omega) (by omega)
 simp only [spec_GridOk_eq, spec_CountGaps_eq, l01In_eq, Option.bind_some]
 rw [if_pos hb.1, w64_id (by omega) (by omega)]
 by_cases hg : gOk w h = true
 ·rw [if_pos hg, hg, Bool.true_and]
  congr 2
  rw [Bool.eq_iff_iff]; simp only [decide_eq_true_eq]; omega
 ·rw [if_neg hg]; simp [hg]
theorem impl_MazeOk_eq (w h o : Int) : impl_MazeOk.f w h o = some (mOk w h o) := by
 unfold impl_MazeOk.f mOk
 have hb := nGaps_bd w h
 simp only [impl_GridOk_eq, impl_CountGaps_eq, Option.bind_some]
 rw [if_pos hb.1]
 by_cases hg : gOk w h = true
 ·rw [if_pos hg, hg, Bool.true_and]
  by_cases h0 : 0 ≤ o
  ·rw [if_pos h0]; simp [h0]
  ·rw [if_neg h0]; simp [h0]
 ·rw [if_neg hg]; simp [hg]
def gapIn (w h g : Int) : Bool := decide (0 ≤ g) && decide (g < nGaps w h)
theorem gapIn_iff {w h g : Int} : gapIn w h g = true ↔ 0 ≤ g ∧ g < nGaps w h := by unfold gapIn; simp
theorem gapIn_spec (w h g : Int) : (decide (0 ≤ g) && decide (g ≤ wrap64 (nGaps w h - 1))) = gapIn w h g := by
 have hb := nGaps_bd w h
 rw [w64_id (by omega) (by omega)]
 unfold gapIn; rw [Bool.eq_iff_iff]; simp; omega
theorem isOpen_eq {w h o g : Int} (hm : mOk w h o = true) (hg : g ≤ 64) : impl_isOpen.f w h o g = some (decide (0 ≤ g) && bitAt o g) := by
 unfold impl_isOpen.f
 have hb := mOk_bd hm
 by_cases h0 : 0 ≤ g
 ·rw [if_pos h0, if_pos h0, bit_test hb.1 (by omega) hg]; simp [h0]
 ·rw [if_neg h0]; simp [h0]
theorem l03Bit_eq {o g : Int} (ho : 0 ≤ o) (ho2 : o ≤ 9223372036854775807) (hg0 : 0 ≤ g) (hg : g ≤ 64) : spec_l03Bit.f o g = some (bitAt o g) := by
 unfold spec_l03Bit.f
 rw [if_pos hg0, bit_test ho ho2 hg]
def isPas (w h o g : Int) : Bool := mOk w h o && (gapIn w h g && bitAt o g)
theorem spec_IsPassage_eq (w h o g : Int) : spec_IsPassage.f w h o g = some (isPas w h o g) := by
 unfold spec_IsPassage.f isPas
 simp only [spec_MazeOk_eq, spec_CountGaps_eq, l01In_eq, Option.bind_some, gapIn_spec]
 by_cases hm : mOk w h o = true
 ·rw [if_pos hm, hm, Bool.true_and]
  by_cases hg : gapIn w h g = true
  ·have hb := mOk_bd hm
   have := gapIn_iff.1 hg
   have := nGaps_bd w h
   rw [if_pos hg, hg, Bool.true_and, l03Bit_eq hb.1 (by omega) (by omega) (by omega)]; rfl
  ·rw [if_neg hg]; simp [hg]
 ·rw [if_neg hm]; simp [hm]
def nbr (w h c d : Int) : Int :=
 if 0 ≤ c ∧ c < nCells w h then (if d = 0 then (if 0 < c / w then c - w else -1) else if d = 1 then (if c % w < w - 1 then c + 1 else -1) else if d = 2 then (if c / w < h - 1 then c + w else -1) else if d = 3 then (if 0 < c % w then c - 1 else -1) else -1) else -1
theorem ok_of_cell {w h c : Int} (h0 : 0 ≤ c) (h1 : c < nCells w h) : gOk w h = true := by
 by_cases hk : gOk w h = true
 ·exact hk
 ·unfold nCells at h1; rw [if_neg hk] at h1; omega
theorem nCells_ok {w h : Int} (hk : gOk w h = true) : nCells w h = w * h := by unfold nCells; rw [if_pos hk]
theorem nGaps_ok {w h : Int} (hk : gOk w h = true) : nGaps w h = (w - 1) * h + w * (h - 1) := by unfold nGaps; rw [if_pos hk]
def cellIn (w h c : Int) : Bool := decide (0 ≤ c) && decide (c < nCells w h)
theorem cellIn_iff {w h c : Int} : cellIn w h c = true ↔ 0 ≤ c ∧ c < nCells w h := by unfold cellIn; simp
theorem cellIn_spec (w h c : Int) : (decide (0 ≤ c) && decide (c ≤ wrap64 (nCells w h - 1))) = cellIn w h c := by
 have hb := nCells_bd w h
 rw [w64_id (by omega) (by omega)]
 unfold cellIn; rw [Bool.eq_iff_iff]; simp; omega
theorem isCell_eq (w h c : Int) : impl_isCell.f w h c = some (cellIn w h c) := by
 unfold impl_isCell.f cellIn
 rw [impl_CountCells_eq]
 by_cases h0 : 0 ≤ c
 ·rw [if_pos h0]; simp [h0]
 ·rw [if_neg h0]; simp [h0]
theorem spec_Nb_j0 {w h : Int} (hk : gOk w h = true) (k : Nat) (x y : Int) (hx : -1 ≤ x ∧ x ≤ 4) (hy : -1 ≤ y ∧ y ≤ 4) :
  spec_Neighbor.j0 (k + 1) x y w h = some (if (0 ≤ x ∧ x ≤ w - 1) ∧ (0 ≤ y ∧ y ≤ h - 1) then y * w + x else -1) := by
 have hw := gOk_iff.1 hk
 have p1 : -20 ≤ y * w ∧ y * w ≤ 20 := by
  rcases gOk_cases hk with ⟨rfl | rfl | rfl | rfl, _⟩ <;> omega
 simp only [spec_Neighbor.j0, l01In_eq, Option.bind_some]
 rw [w64_id (x := w - 1) (by omega) (by omega), w64_id (x := h - 1) (by omega) (by omega), w64_id (x := y * w) (by omega) (by omega), w64_id (x := y * w + x) (by omega) (by omega)]
 by_cases h1 : 0 ≤ x ∧ x ≤ w - 1
 ·rw [if_pos (by simp [h1])]
  by_cases h2 : 0 ≤ y ∧ y ≤ h - 1
  ·rw [if_pos (by simp [h2]), if_pos ⟨h1, h2⟩]
  ·rw [if_neg (by simpa using h2), if_neg (fun hh => h2 hh.2)]
 ·rw [if_neg (by simpa using h1), if_neg (fun hh => h1 hh.1)]
theorem cell_xy {w h c : Int} (h0 : 0 ≤ c) (h1 : c < nCells w h) : (0 ≤ c % w ∧ c % w ≤ w - 1) ∧ (0 ≤ c / w ∧ c / w ≤ h - 1) ∧ c = c / w * w + c % w := by
 have hk := ok_of_cell h0 h1
 rw [nCells_ok hk] at h1
 rcases gOk_cases hk with ⟨rfl | rfl | rfl | rfl, rfl | rfl | rfl | rfl⟩ <;> omega
theorem cell_w64 {w h c : Int} (h0 : 0 ≤ c) (h1 : c < nCells w h) : wrap64 (Int.tdiv c w) = c / w ∧ Int.tmod c w = c % w := by
 have := cell_xy h0 h1
 have hw := gOk_iff.1 (ok_of_cell h0 h1)
 rw [Int.tdiv_eq_ediv_of_nonneg h0, Int.tmod_eq_emod_of_nonneg h0]
 exact ⟨w64_id (by omega) (by omega), rfl⟩
theorem spec_Neighbor_eq (k : Nat) (w h c d : Int) : spec_Neighbor.f (k + 1) w h c d = some (nbr w h c d) := by
 unfold spec_Neighbor.f nbr
 simp only [spec_CountCells_eq, l01In_eq, Option.bind_some, cellIn_spec]
 by_cases hc : cellIn w h c = true
 ·obtain ⟨h0, h1⟩ := cellIn_iff.1 hc
  have hk := ok_of_cell h0 h1
  have hw := gOk_iff.1 hk
  have hxy := cell_xy h0 h1
  obtain ⟨e1, e2⟩ := cell_w64 h0 h1
  rw [if_pos hc, if_pos (show 0 ≤ c ∧ c < nCells w h from ⟨h0, h1⟩), if_neg (show ¬ w = 0 by omega), e1, e2]
  have q1 : wrap64 (c / w - 1) = c / w - 1 := w64_id (by omega) (by omega)
  have q2 : wrap64 (c / w + 1) = c / w + 1 := w64_id (by omega) (by omega)
  have q3 : wrap64 (c % w - 1) = c % w - 1 := w64_id (by omega) (by omega)
  have q4 : wrap64 (c % w + 1) = c % w + 1 := w64_id (by omega) (by omega)
  rw [q1, q2, q3, q4]
  have t1 : (c / w - 1) * w = c / w * w - w := by rw [Int.sub_mul, Int.one_mul]
  have t2 : (c / w + 1) * w = c / w * w + w := by rw [Int.add_mul, Int.one_mul]
  by_cases d0 : d = 0
  ·rw [if_pos d0, if_pos d0, spec_Nb_j0 hk _ _ _ (by omega) (by omega)]
   congr 1; rw [t1]
   by_cases z : 0 < c / w
   ·rw [if_pos z, if_pos (by omega)]; omega
   ·rw [if_neg z, if_neg (by omega)]
  ·rw [if_neg d0, if_neg d0]
   by_cases d1 : d = 1
   ·rw [if_pos d1, if_pos d1, spec_Nb_j0 hk _ _ _ (by omega) (by omega)]
    congr 1
    by_cases z : c % w < w - 1
    ·rw [if_pos z, if_pos (by omega)]; omega
    ·rw [if_neg z, if_neg (by omega)]
   ·rw [if_neg d1, if_neg d1]
    by_cases d2 : d = 2
    ·rw [if_pos d2, if_pos d2, spec_Nb_j0 hk _ _ _ (by omega) (by omega)]
     congr 1; rw [t2]
     by_cases z : c / w < h - 1
     ·rw [if_pos z, if_pos (by omega)]; omega
     ·rw [if_neg z, if_neg (by omega)]
    ·rw [if_neg d2, if_neg d2]
     by_cases d3 : d = 3
     ·rw [if_pos d3, if_pos d3, spec_Nb_j0 hk _ _ _ (by omega) (by omega)]
      congr 1
      by_cases z : 0 < c % w
      ·rw [if_pos z, if_pos (by omega)]; omega
      ·rw [if_neg z, if_neg (by omega)]
     ·rw [if_neg d3, if_neg d3]
 ·rw [if_neg hc, if_neg (fun hh => hc (cellIn_iff.2 hh))]
theorem impl_Neighbor_eq (k : Nat) (w h c d : Int) : impl_Neighbor.f (k + 3) w h c d = some (nbr w h c d) := by
 unfold impl_Neighbor.f nbr
 simp only [isCell_eq, Option.bind_some]
 by_cases hc : cellIn w h c = true
 ·obtain ⟨h0, h1⟩ := cellIn_iff.1 hc
  have hk := ok_of_cell h0 h1
  have hw := gOk_iff.1 hk
  have hxy := cell_xy h0 h1
  have hb := nCells_bd w h
  obtain ⟨e1, e2⟩ := cell_w64 h0 h1
  rw [if_pos hc, if_pos (show 0 ≤ c ∧ c < nCells w h from ⟨h0, h1⟩), if_neg (show ¬ w = 0 by omega), e1, e2]
  simp only [impl_Neighbor.j0, impl_Neighbor.j1, impl_Neighbor.j2]
  rw [w64_id (x := w - 1) (by omega) (by omega), w64_id (x := h - 1) (by omega) (by omega), w64_id (x := c - w) (by omega) (by omega), w64_id (x := c + w) (by omega) (by omega), w64_id (x := c - 1) (by omega) (by omega), w64_id (x := c + 1) (by omega) (by omega)]
  simp only [decide_eq_true_eq, gt_iff_lt, Bool.false_eq_true, if_false]
  by_cases d0 : d = 0
  ·subst d0; simp; split <;> rfl
  ·by_cases d1 : d = 1
   ·subst d1; simp; split <;> rfl
   ·by_cases d2 : d = 2
    ·subst d2; simp; split <;> rfl
    ·by_cases d3 : d = 3
     ·subst d3; simp
      split <;> rfl
     ·simp [d0, d1, d2, d3]
 ·rw [if_neg hc, if_neg (fun hh => hc (cellIn_iff.2 hh))]
theorem nbr_cases {w h c d : Int} (hn : 0 ≤ nbr w h c d) : (0 ≤ c ∧ c < nCells w h) ∧ ((d = 0 ∧ 0 < c / w ∧ nbr w h c d = c - w) ∨ (d = 1 ∧ c % w < w - 1 ∧ nbr w h c d = c + 1) ∨ (d = 2 ∧ c / w < h - 1 ∧ nbr w h c d = c + w) ∨ (d = 3 ∧ 0 < c % w ∧ nbr w h c d = c - 1)) := by
 unfold nbr at hn ⊢
 by_cases hc : 0 ≤ c ∧ c < nCells w h
 ·rw [if_pos hc] at hn ⊢
  refine ⟨hc, ?_⟩
  by_cases d0 : d = 0
  ·rw [if_pos d0] at hn ⊢
   by_cases z : 0 < c / w
   ·rw [if_pos z]; exact .inl ⟨d0, z, rfl⟩
   ·rw [if_neg z] at hn; omega
  ·rw [if_neg d0] at hn ⊢
   by_cases d1 : d = 1
   ·rw [if_pos d1] at hn ⊢
    by_cases z : c % w < w - 1
    ·rw [if_pos z]; exact .inr (.inl ⟨d1, z, rfl⟩)
    ·rw [if_neg z] at hn; omega
   ·rw [if_neg d1] at hn ⊢
    by_cases d2 : d = 2
    ·rw [if_pos d2] at hn ⊢
     by_cases z : c / w < h - 1
     ·rw [if_pos z]; exact .inr (.inr (.inl ⟨d2, z, rfl⟩))
     ·rw [if_neg z] at hn; omega
    ·rw [if_neg d2] at hn ⊢
     by_cases d3 : d = 3
     ·rw [if_pos d3] at hn ⊢
      by_cases z : 0 < c % w
      ·rw [if_pos z]; exact .inr (.inr (.inr ⟨d3, z, rfl⟩))
      ·rw [if_neg z] at hn; omega
     ·rw [if_neg d3] at hn; omega
 ·rw [if_neg hc] at hn; omega
theorem nbr_bd {w h c d : Int} (hn : 0 ≤ nbr w h c d) : nbr w h c d < nCells w h := by
 obtain ⟨⟨h0, h1⟩, hd⟩ := nbr_cases hn
 have hk := ok_of_cell h0 h1
 rw [nCells_ok hk] at h1 ⊢
 rcases gOk_cases hk with ⟨rfl | rfl | rfl | rfl, rfl | rfl | rfl | rfl⟩ <;> omega
def gapAt (w h c d : Int) : Int :=
 if nbr w h c d < 0 then -1 else if d = 1 ∨ d = 3 then mn c (nbr w h c d) / w * (w - 1) + mn c (nbr w h c d) % w else nEast w h + mn c (nbr w h c d)
theorem mn_bd {w h c d : Int} (hn : 0 ≤ nbr w h c d) : 0 ≤ mn c (nbr w h c d) ∧ mn c (nbr w h c d) < nCells w h := by
 have h1 := nbr_bd hn
 obtain ⟨⟨h2, h3⟩, _⟩ := nbr_cases hn
 unfold mn; split <;> omega
theorem gap_w64 {w h c d : Int} (hn : 0 ≤ nbr w h c d) :
  wrap64 ((wrap64 ((wrap64 (Int.tdiv (mn c (nbr w h c d)) w)) * (wrap64 (w - 1)))) + (Int.tmod (mn c (nbr w h c d)) w)) = mn c (nbr w h c d) / w * (w - 1) + mn c (nbr w h c d) % w ∧ wrap64 (nEast w h + mn c (nbr w h c d)) = nEast w h + mn c (nbr w h c d) ∧ w ≠ 0 ∧ wrap64 ((wrap64 (w - 1)) * h) = nEast w h := by
 obtain ⟨m0, m1⟩ := mn_bd hn
 generalize mn c (nbr w h c d) = m at m0 m1 ⊢
 have hk := ok_of_cell m0 m1
 have hw := gOk_iff.1 hk
 have hxy := cell_xy m0 m1
 have hb := nCells_bd w h
 obtain ⟨e1, e2⟩ := cell_w64 m0 m1
 have e3 : wrap64 (w - 1) = w - 1 := w64_id (by omega) (by omega)
 have p1 : 0 ≤ m / w * (w - 1) ∧ m / w * (w - 1) ≤ 16 := by
  have q0 : 0 ≤ m / w * (w - 1) := Int.mul_nonneg hxy.2.1.1 (by omega)
  have q1 : m / w * (w - 1) = m / w * w - m / w := by rw [Int.mul_sub, Int.mul_one]
  omega
 have p2 : 0 ≤ nEast w h ∧ nEast w h ≤ 12 := by
  unfold nEast
  rcases gOk_cases hk with ⟨rfl | rfl | rfl | rfl, rfl | rfl | rfl | rfl⟩ <;> decide
 rw [e1, e2, e3, w64_id (x := m / w * (w - 1)) (by omega) (by omega)]
 refine ⟨w64_id (by omega) (by omega), w64_id (by omega) (by omega), by omega, ?_⟩
 have : (w - 1) * h = nEast w h := rfl
 rw [this]; exact w64_id (by omega) (by omega)
theorem spec_GapAt_eq (k : Nat) (w h c d : Int) : spec_GapAt.f (k + 1) w h c d = some (gapAt w h c d) := by
 unfold spec_GapAt.f gapAt
 rw [spec_Neighbor_eq]; simp only [Option.bind_some]
 by_cases hn : nbr w h c d < 0
 ·rw [if_pos hn, if_pos hn]
 ·rw [if_neg hn, if_neg hn]
  obtain ⟨e1, e2, e3, e4⟩ := gap_w64 (w := w) (h := h) (c := c) (d := d) (by omega)
  obtain ⟨m0, m1⟩ := mn_bd (w := w) (h := h) (c := c) (d := d) (by omega)
  rw [if_neg e3, e1, l02East_eq (ok_of_cell m0 m1)]
  simp only [Option.bind_some]
  rw [e2]
  by_cases d1 : d = 1
  ·rw [if_pos d1, if_pos (.inl d1)]
  ·rw [if_neg d1]
   by_cases d3 : d = 3
   ·rw [if_pos d3, if_pos (.inr d3)]
   ·rw [if_neg d3, if_neg (by omega)]
theorem impl_GapAt_eq (k : Nat) (w h c d : Int) : impl_GapAt.f (k + 3) w h c d = some (gapAt w h c d) := by
 unfold impl_GapAt.f gapAt
 rw [impl_Neighbor_eq]; simp only [Option.bind_some]
 by_cases hn : nbr w h c d < 0
 ·rw [if_pos hn, if_pos hn]
 ·rw [if_neg hn, if_neg hn]
  obtain ⟨e1, e2, e3, e4⟩ := gap_w64 (w := w) (h := h) (c := c) (d := d) (by omega)
  rw [if_neg e3, e1, e4, e2]
  by_cases d1 : d = 1
  ·rw [if_pos d1, if_pos (.inl d1)]
  ·rw [if_neg d1]
   by_cases d3 : d = 3
   ·rw [if_pos d3, if_pos (.inr d3)]
   ·rw [if_neg d3, if_neg (by omega)]
theorem gapAt_nonneg {w h c d : Int} : 0 ≤ gapAt w h c d ↔ 0 ≤ nbr w h c d := by
 unfold gapAt
 by_cases hn : nbr w h c d < 0
 ·rw [if_pos hn]; omega
 ·rw [if_neg hn]
  have hn' : 0 ≤ nbr w h c d := by omega
  obtain ⟨m0, m1⟩ := mn_bd hn'
  have hk := ok_of_cell m0 m1
  have hw := gOk_iff.1 hk
  have hxy := cell_xy m0 m1
  have q0 : 0 ≤ mn c (nbr w h c d) / w * (w - 1) := Int.mul_nonneg hxy.2.1.1 (by omega)
  have q1 : 0 ≤ nEast w h := Int.mul_nonneg (by omega) (by omega)
  split <;> omega
theorem gapAt_bd {w h c d : Int} (hn : 0 ≤ nbr w h c d) : 0 ≤ gapAt w h c d ∧ gapAt w h c d < nGaps w h := by
 refine ⟨gapAt_nonneg.2 hn, ?_⟩
 obtain ⟨⟨h0, h1⟩, hd⟩ := nbr_cases hn
 have hk := ok_of_cell h0 h1
 unfold gapAt mn nEast
 rw [if_neg (by omega), nGaps_ok hk]
 rw [nCells_ok hk] at h1
 rcases hd with ⟨rfl, z, e⟩ | ⟨rfl, z, e⟩ | ⟨rfl, z, e⟩ | ⟨rfl, z, e⟩ <;> rw [e] <;> simp only [Int.reduceEq, or_false, or_true, false_or, or_self, if_true, if_false] <;>
  rcases gOk_cases hk with ⟨rfl | rfl | rfl | rfl, rfl | rfl | rfl | rfl⟩ <;> split <;> omega
theorem gapAt_in {w h c d : Int} : gapIn w h (gapAt w h c d) = decide (0 ≤ gapAt w h c d) := by
 rw [Bool.eq_iff_iff, gapIn_iff, decide_eq_true_eq]
 exact ⟨fun h => h.1, fun h => gapAt_bd (gapAt_nonneg.1 h)⟩
def stp (w h o c d : Int) : Int :=
 if mOk w h o = true then (if 0 ≤ gapAt w h c d ∧ bitAt o (gapAt w h c d) = true then nbr w h c d else -1) else -1
theorem gapAt_le {w h c d : Int} : gapAt w h c d ≤ 64 := by
 by_cases hn : 0 ≤ nbr w h c d
 ·have := gapAt_bd hn
  have := nGaps_bd w h
  omega
 ·have : ¬ 0 ≤ gapAt w h c d := fun hh => hn (gapAt_nonneg.1 hh)
  omega
theorem spec_Step_eq (k : Nat) (w h o c d : Int) : spec_Step.f (k + 1) w h o c d = some (stp w h o c d) := by
 unfold spec_Step.f stp
 simp only [spec_MazeOk_eq, spec_GapAt_eq, spec_Neighbor_eq, spec_IsPassage_eq, Option.bind_some]
 by_cases hm : mOk w h o = true
 ·rw [if_pos hm, if_pos hm]
  have e : isPas w h o (gapAt w h c d) = true ↔ (0 ≤ gapAt w h c d ∧ bitAt o (gapAt w h c d) = true) := by
   unfold isPas; rw [gapAt_in]; simp [hm]
  by_cases hp : isPas w h o (gapAt w h c d) = true
  ·rw [if_pos hp, if_pos (e.1 hp)]
  ·rw [if_neg hp, if_neg (fun hh => hp (e.2 hh))]
 ·rw [if_neg hm, if_neg hm]
theorem impl_Step_eq (k : Nat) (w h o c d : Int) : impl_Step.f (k + 3) w h o c d = some (stp w h o c d) := by
 unfold impl_Step.f stp
 simp only [impl_MazeOk_eq, impl_GapAt_eq, impl_Neighbor_eq, Option.bind_some]
 by_cases hm : mOk w h o = true
 ·rw [if_pos hm, if_pos hm, isOpen_eq hm gapAt_le]
  simp only [Option.bind_some, Bool.and_eq_true, decide_eq_true_eq]
  split <;> rfl
 ·rw [if_neg hm, if_neg hm]
theorem eqIntS_tot (l : List Int) (hl : l.length ≤ 1000000000000) (d : Nat) : ∀ (k : Nat) (i : Int), 0 ≤ i → (l.length : Int) - i ≤ d → d < k → laws_eqIntS.l0 k l l i = some true := by
 induction d with
 | zero =>
  intro k i h0 hd hk
  obtain ⟨k, rfl⟩ : ∃ m, k = m + 1 := ⟨k - 1, by omega⟩
  simp only [laws_eqIntS.l0]; rw [if_neg (by omega)]
 | succ d ih =>
  intro k i h0 hd hk
  obtain ⟨k, rfl⟩ : ∃ m, k = m + 1 := ⟨k - 1, by omega⟩
  simp only [laws_eqIntS.l0]
  by_cases h1 : i < (l.length : Int)
  ·rw [if_pos h1, if_pos h0, if_pos h1, if_pos trivial, w64_id (x := i + 1) (by omega) (by omega)]
   exact ih _ _ (by omega) (by omega) (by omega)
  ·rw [if_neg h1]
theorem eqIntS_self (l : List Int) (hl : l.length ≤ 1000000000000) (k : Nat) (hk : l.length < k) : laws_eqIntS.f k l l = some true := by
 unfold laws_eqIntS.f
 rw [if_pos rfl]
 exact eqIntS_tot l hl l.length k 0 (by omega) (by omega) hk
theorem rd_mem (l : List Int) (i : Nat) (h1 : i < l.length) : rd l i = l[i] := by
 unfold rd; simp [List.getD_eq_getElem?_getD, h1]
theorem toIntS_tot (l : List Int) (hl : l.length ≤ 1000000000000) (d : Nat) : ∀ (k : Nat) (i : Nat), l.length - i ≤ d → d < k → i ≤ l.length → laws_toIntS.l0 k l (l.take i ++ List.replicate (l.length - i) 0) i = some l := by
 induction d with
 | zero =>
  intro k i hd hk hi
  obtain ⟨k, rfl⟩ : ∃ m, k = m + 1 := ⟨k - 1, by omega⟩
  obtain rfl : i = l.length := by omega
  simp only [laws_toIntS.l0]; rw [if_neg (by omega)]; simp
 | succ d ih =>
  intro k i hd hk hi
  obtain ⟨k, rfl⟩ : ∃ m, k = m + 1 := ⟨k - 1, by omega⟩
  simp only [laws_toIntS.l0]
  by_cases h1 : (i : Int) < (l.length : Int)
  ·have hi' : i < l.length := by omega
   rw [if_pos h1, if_pos (by omega), if_pos (by simp; omega), w64_id (x := (i : Int) + 1) (by omega) (by omega), rd_mem l i hi']
   have := ih k (i + 1) (by omega) (by omega) (by omega)
   have e : (l.take i ++ List.replicate (l.length - i) 0).set (i : Int).toNat l[i] = l.take (i + 1) ++ List.replicate (l.length - (i + 1)) 0 := by
    rw [show l.length - i = (l.length - (i + 1)) + 1 by omega, List.replicate_succ]
    have e3 : (l.take i ++ (0 : Int) :: List.replicate (l.length - (i + 1)) 0).set (i : Int).toNat l[i] = l.take i ++ l[i] :: List.replicate (l.length - (i + 1)) 0 := by
     simp [List.set_append, Nat.min_eq_left hi]
    rw [e3, List.take_succ_eq_append_getElem hi', List.append_assoc]; rfl
   rw [e]; simpa using this
  ·rw [if_neg h1]
   obtain rfl : i = l.length := by omega
   simp
theorem toIntS_eq (l : List Int) (hl : l.length ≤ 1000000000000) (k : Nat) (hk : l.length < k) : laws_toIntS.f k l = some l := by
 unfold laws_toIntS.f
 rw [if_pos (by omega), if_pos (by simp; omega)]
 have := toIntS_tot l hl l.length k 0 (by omega) hk (by omega)
 simpa using this
theorem has_eq (w h o c : Int) : spec_l04Has.f w h o c = some (mOk w h o && cellIn w h c) := by
 unfold spec_l04Has.f
 rw [spec_MazeOk_eq]
 simp only [Option.bind_some]
 by_cases hm : mOk w h o = true
 ·rw [if_pos hm, spec_CountCells_eq, hm]
  simp only [Option.bind_some]
  rw [l01In_eq, cellIn_spec]; simp
 ·rw [if_neg hm, Bool.eq_false_iff.2 hm]; simp
theorem isIn_eq (w h o : Int) (l : List Int) : impl_isIn.f w h o l = some (mOk w h o && l.all (cellIn w h)) := by
 unfold impl_isIn.f
 rw [impl_MazeOk_eq]
 simp only [Option.bind_some]
 rw [show (fun c => !cellB w h c) = fun c => !cellIn w h c from funext fun c => by unfold cellB; rw [isCell_eq]; rfl]
 by_cases hm : mOk w h o = true
 ·rw [if_pos hm, hm]; simp [List.all_eq_not_any_not]
 ·rw [if_neg hm, Bool.eq_false_iff.2 hm]; simp
def goL (w h o : Int) : Int → List Int → Option (List Int)
 | _, [] => some []
 | x, d :: l => if stp w h o x d < 0 then none else (goL w h o (stp w h o x d) l).map fun r => stp w h o x d :: r
theorem goL_len {w h o : Int} : ∀ (l : List Int) (x : Int) {r}, goL w h o x l = some r → r.length = l.length
 | [], _, r, hr => by simp only [goL, Option.some.injEq] at hr; rw [← hr]
 | d :: l, x, r, hr => by
  simp only [goL] at hr
  split at hr
  ·exact absurd hr (by simp)
  ·obtain ⟨s, hs, rfl⟩ := Option.map_eq_some_iff.1 hr
   simp [goL_len l _ hs]
def lastOf (x : Int) (r : List Int) : Int := (x :: r).getLast (by simp)
theorem lastOf_cons (x y : Int) (r : List Int) : lastOf x (y :: r) = lastOf y r := by
 unfold lastOf; rw [List.getLast_cons (by simp)]
theorem goL_drop {w h o x : Int} {l : List Int} {i : Nat} (hi : i < l.length) : goL w h o x (l.drop i) = if stp w h o x (rd l i) < 0 then none else (goL w h o (stp w h o x (rd l i)) (l.drop (i + 1))).map fun r => stp w h o x (rd l i) :: r := by
 rw [List.drop_eq_getElem_cons hi, rd_mem l i hi]; rfl
theorem spec_Walk_loop (w h o : Int) (l : List Int) (hl : l.length ≤ 400) (d : Nat) : ∀ (x : Int) (i k : Nat), i + d = l.length → d < k → spec_WalkWay.l0 (k + 1) x l i w h o = some (match goL w h o x (l.drop i) with | none => (-1, false) | some r => (lastOf x r, true)) := by
 induction d with
 | zero =>
  intro x i k hi _
  simp only [spec_WalkWay.l0]
  rw [if_neg (by omega), List.drop_of_length_le (by omega)]; rfl
 | succ d ih =>
  intro x i k hi hk
  obtain ⟨k, rfl⟩ : ∃ m, k = m + 1 := ⟨k - 1, by omega⟩
  have est := spec_Step_eq k w h o x (rd l i)
  have hgo := ih (stp w h o x (rd l i)) (i + 1) k (by omega) (by omega)
  rw [goL_drop (by omega)]
  generalize k + 1 = m at est hgo ⊢
  simp only [spec_WalkWay.l0]
  rw [if_pos (by omega), if_pos (by omega), est, w64_id (x := (i : Int) + 1) (by omega) (by omega)]
  simp only [Option.bind_some]
  by_cases hneg : stp w h o x (rd l i) < 0
  ·rw [if_pos hneg, if_pos hneg]
  ·rw [if_neg hneg, if_neg hneg]
   rw [show ((i + 1 : Nat) : Int) = (i : Int) + 1 by omega] at hgo
   rw [hgo]
   cases goL w h o (stp w h o x (rd l i)) (l.drop (i + 1)) with
   | none => rfl
   | some r => simp [lastOf_cons]
theorem impl_Cells_loop (w h o : Int) (l : List Int) (hl : l.length ≤ 400) (d : Nat) : ∀ (x : Int) (i k : Nat) (acc : List Int), i + d = l.length → d < k → acc.length + d ≤ 1000 → impl_CellsOn.l0 (k + 3) x acc l (l.length : Int) i w h o = some (match goL w h o x (l.drop i) with | none => [] | some r => acc ++ r) := by
 induction d with
 | zero =>
  intro x i k acc hi _ _
  simp only [impl_CellsOn.l0]
  rw [if_neg (by omega), List.drop_of_length_le (by omega)]; simp [goL]
 | succ d ih =>
  intro x i k acc hi hk ha
  obtain ⟨k, rfl⟩ : ∃ m, k = m + 1 := ⟨k - 1, by omega⟩
  have est := impl_Step_eq k w h o x (rd l i)
  have hgo := ih (stp w h o x (rd l i)) (i + 1) k (acc ++ [stp w h o x (rd l i)]) (by omega) (by omega) (by simp; omega)
  rw [goL_drop (by omega), show k + 1 + 3 = (k + 3) + 1 by omega]
  generalize k + 3 = m at est hgo ⊢
  simp only [impl_CellsOn.l0]
  rw [if_pos (by omega), if_pos (by omega), if_pos (by omega), est, w64_id (x := (i : Int) + 1) (by omega) (by omega)]
  simp only [Option.bind_some]
  by_cases hneg : stp w h o x (rd l i) < 0
  ·rw [if_pos hneg, if_pos hneg]
  ·rw [if_neg hneg, if_neg hneg, if_pos (by omega)]
   rw [show ((i + 1 : Nat) : Int) = (i : Int) + 1 by omega] at hgo
   rw [hgo]
   cases goL w h o (stp w h o x (rd l i)) (l.drop (i + 1)) with
   | none => rfl
   | some r => simp
def wayOk (w h o c : Int) (l : List Int) : Bool := (mOk w h o && cellIn w h c) && decide (l.length ≤ 400)
def cellsV (w h o c : Int) (l : List Int) : List Int := if wayOk w h o c l = true then (match goL w h o c l with | none => [] | some r => c :: r) else []
theorem impl_CellsOn_eq (w h o c : Int) (l : List Int) (hl : l.length ≤ 1048576) (k : Nat) (hk : 1000 ≤ k) : impl_CellsOn.f k w h o c l = some (cellsV w h o c l) := by
 obtain ⟨k, rfl⟩ : ∃ m, k = m + 3 + 1 := ⟨k - 4, by omega⟩
 unfold impl_CellsOn.f cellsV wayOk
 rw [isIn_eq]
 simp only [Option.bind_some, List.all_cons, List.all_nil, Bool.and_true]
 by_cases hm : (mOk w h o && cellIn w h c) = true
 ·rw [if_pos hm, hm, Bool.true_and]
  by_cases hlen : l.length ≤ 400
  ·have hgo := impl_Cells_loop w h o l hlen l.length c 0 k [c] (by omega) (by omega) (by simp; omega)
   rw [show decide ((l.length : Int) > 400) = false by simp; omega]
   generalize k + 3 = m at hgo ⊢
   simp only [impl_CellsOn.j0, Bool.false_eq_true, if_false, decide_eq_true hlen, if_true]
   rw [show ((0 : Nat) : Int) = 0 from rfl] at hgo
   rw [hgo, List.drop_zero]
   cases goL w h o c l <;> rfl
  ·rw [show decide ((l.length : Int) > 400) = true by simp; omega]
   simp [impl_CellsOn.j0, hlen]
 ·rw [if_neg hm]
  simp [impl_CellsOn.j0, hm]
def walkV (w h o c : Int) (l : List Int) : Int × Bool := if wayOk w h o c l = true then (match goL w h o c l with | none => (-1, false) | some r => (lastOf c r, true)) else (-1, false)
theorem spec_WalkWay_eq (w h o c : Int) (l : List Int) (hl : l.length ≤ 1048576) (k : Nat) (hk : 1000 ≤ k) : spec_WalkWay.f k w h o c l = some (walkV w h o c l) := by
 obtain ⟨k, rfl⟩ : ∃ m, k = m + 1 + 1 := ⟨k - 2, by omega⟩
 unfold spec_WalkWay.f walkV wayOk
 rw [has_eq]
 simp only [Option.bind_some]
 by_cases hm : (mOk w h o && cellIn w h c) = true
 ·rw [if_pos hm, hm, Bool.true_and]
  by_cases hlen : l.length ≤ 400
  ·have hgo := spec_Walk_loop w h o l hlen l.length c 0 k (by omega) (by omega)
   rw [show decide ((l.length : Int) > 400) = false by simp; omega]
   generalize k + 1 = m at hgo ⊢
   simp only [spec_WalkWay.j0, Bool.false_eq_true, if_false, decide_eq_true hlen, if_true]
   rw [show ((0 : Nat) : Int) = 0 from rfl] at hgo
   rw [hgo, List.drop_zero]
  ·rw [show decide ((l.length : Int) > 400) = true by simp; omega]
   simp [spec_WalkWay.j0, hlen]
 ·rw [if_neg hm]
  simp [spec_WalkWay.j0, hm]
theorem rd_last (x : Int) (r : List Int) (hr : r.length ≤ 1000) : rd (x :: r) (wrap64 (((x :: r).length : Int) - 1)) = lastOf x r := by
 have : (x :: r).length = r.length + 1 := rfl
 rw [w64_id (by omega) (by omega), show ((x :: r).length : Int) - 1 = (((x :: r).length - 1 : Nat) : Int) by omega, rd_mem _ _ (by omega)]
 unfold lastOf
 rw [List.getLast_eq_getElem]
theorem impl_WalkWay_eq (w h o c : Int) (l : List Int) (hl : l.length ≤ 1048576) (k : Nat) (hk : 1000 ≤ k) : impl_WalkWay.f k w h o c l = some (walkV w h o c l) := by
 unfold impl_WalkWay.f
 rw [impl_CellsOn_eq w h o c l hl k hk]
 simp only [Option.bind_some]
 unfold cellsV walkV
 by_cases hq : wayOk w h o c l = true
 ·rw [if_pos hq, if_pos hq]
  have h4 : l.length ≤ 400 := by unfold wayOk at hq; simp at hq; exact hq.2
  cases hg : goL w h o c l with
  | none => rfl
  | some r =>
   have := goL_len l c hg
   simp only
   rw [if_neg (by simp), rd_last c r (by omega)]
 ·rw [if_neg hq, if_neg hq]; rfl
theorem FnExactWalkWay : laws_FnExactWalkWay.Pure := by
 intro w h o c l _ _ _ _ _ _ _
 obtain ⟨K, hK⟩ : ∃ K, K = 2 * l.length + 2000 := ⟨_, rfl⟩
 refine ⟨K + 1, ?_⟩
 unfold laws_FnExactWalkWay.f
 by_cases hb : (l.length : Int) > 1048576
 ·rw [if_pos hb]
 ·rw [if_neg hb]
  have t0 := toIntS_eq l (by omega) (K + 1) (by omega)
  have t1 := toIntS_eq l (by omega) K (by omega)
  have s0 := spec_WalkWay_eq w h o c l (by omega) (K + 1) (by omega)
  have i0 := impl_WalkWay_eq w h o c l (by omega) (K + 1) (by omega)
  have e1 := eqIntS_self l (by omega) K (by omega)
  simp only [toMaze_eq, t0, s0, i0, Option.bind_some, if_true, bne_self_eq_false, laws_FnExactWalkWay.j0, t1, e1, Bool.false_eq_true, if_false]

end Go.Proofs.Ytkbfknodibnkgaa.Pure
