/- The plain law FnExactFillDeadEnds: for every input that its Go types allow, the printed functions of the program and of the reference answer so that the law's own function says true. No further condition. -/
import Derived.Test.YtkldibidhjonnaaQx0
import Derived.Test.YtkldibidhjonnaaQx1
import Derived.Test.YtkldibidhjonnaaQx10
import Derived.Test.YtkldibidhjonnaaQx11
import Derived.Test.YtkldibidhjonnaaQx12
import Derived.Test.YtkldibidhjonnaaQx13
import Derived.Test.YtkldibidhjonnaaQx14
import Derived.Test.YtkldibidhjonnaaQx15
import Derived.Test.YtkldibidhjonnaaQx16
import Derived.Test.YtkldibidhjonnaaQx17
import Derived.Test.YtkldibidhjonnaaQx18
import Derived.Test.YtkldibidhjonnaaQx19
import Derived.Test.YtkldibidhjonnaaQx2
import Derived.Test.YtkldibidhjonnaaQx20
import Derived.Test.YtkldibidhjonnaaQx21
import Derived.Test.YtkldibidhjonnaaQx3
import Derived.Test.YtkldibidhjonnaaQx4
import Derived.Test.YtkldibidhjonnaaQx5
import Derived.Test.YtkldibidhjonnaaQx6
import Derived.Test.YtkldibidhjonnaaQx7
import Derived.Test.YtkldibidhjonnaaQx8
import Derived.Test.YtkldibidhjonnaaQx9
namespace Go.Proofs.Ytkldibidhjonnaa.Q.P
open Go.RowKit Go.Proofs.Ytkldibidhjonnaa.Q Go.Proofs.YtkldibidhjonnaaW.PrintWords Go.Proofs.YtkldibidhjonnaaW.PrintLast
set_option linter.unusedVariables false
set_option linter.unusedSimpArgs false

theorem w64_id {x : Int} (h0 : -9223372036854775808 ≤ x) (h1 : x ≤ 9223372036854775807) : wrap64 x = x := by
 unfold wrap64; omega
theorem shl_one {g : Int} (h0 : 0 ≤ g) (h1 : g ≤ 62) : shl .i64 1 g = 2 ^ g.toNat := by
 unfold shl
 rw [i64_w, Nat.min_eq_left (by simp only [IntKind.bits]; omega), Int.one_mul]
 have : (2 : Int) ^ g.toNat ≤ 2 ^ 62 := by
  have := Nat.pow_le_pow_right (n := 2) (by omega) (show g.toNat ≤ 62 by omega)
  exact_mod_cast this
 have h3 : (0 : Int) < 2 ^ g.toNat := by exact_mod_cast Nat.pow_pos (by omega)
 exact w64_id (by omega) (by omega)
theorem shl_pos {g : Int} (h0 : 0 ≤ g) (h1 : g ≤ 62) : 0 < shl .i64 1 g ∧ shl .i64 1 g ≤ 4611686018427387904 := by
 rw [shl_one h0 h1]
 have : (2 : Int) ^ g.toNat ≤ 2 ^ 62 := by
  have := Nat.pow_le_pow_right (n := 2) (by omega) (show g.toNat ≤ 62 by omega)
  exact_mod_cast this
 have h3 : (0 : Int) < 2 ^ g.toNat := by exact_mod_cast Nat.pow_pos (by omega)
 exact ⟨h3, by omega⟩
theorem shr_nat {o g : Int} (ho : 0 ≤ o) (h1 : g ≤ 64) : shr .i64 o g = ((o.toNat >>> g.toNat : Nat) : Int) := by
 unfold shr
 rw [Nat.min_eq_left (by simp only [IntKind.bits]; omega), Nat.shiftRight_eq_div_pow]
 obtain ⟨n, rfl⟩ := Int.eq_ofNat_of_zero_le ho
 simp only [Int.toNat_natCast]
 rw [Int.natCast_ediv, Int.natCast_pow]; rfl
def bitAt (o g : Int) : Bool := o.toNat.testBit g.toNat
theorem ofInt_nat (x : Nat) : BitVec.ofInt 64 (x : Int) = BitVec.ofNat 64 x := by
 apply BitVec.eq_of_toNat_eq; simp
theorem bits_and_nat {x y : Nat} (hx : x < 9223372036854775808) (hy : y < 9223372036854775808) : Go.bits .and .i64 (x : Int) (y : Int) = ((x &&& y : Nat) : Int) := by
 show IntKind.i64.wrap (((BitVec.ofInt 64 (x : Int)) &&& (BitVec.ofInt 64 (y : Int))).toNat : Int) = _
 rw [i64_w, ofInt_nat, ofInt_nat]
 simp only [BitVec.toNat_and, BitVec.toNat_ofNat]
 rw [Nat.mod_eq_of_lt (by omega), Nat.mod_eq_of_lt (by omega)]
 have := Nat.and_le_left (n := x) (m := y)
 exact w64_id (by omega) (by omega)
theorem bits_and_one {x : Nat} (hx : x < 9223372036854775808) : Go.bits .and .i64 (x : Int) 1 = ((x % 2 : Nat) : Int) := by
 rw [show (1 : Int) = ((1 : Nat) : Int) from rfl, bits_and_nat hx (by omega), Nat.and_one_is_mod]
theorem bit_test {o g : Int} (ho : 0 ≤ o) (ho2 : o ≤ 9223372036854775807) (h1 : g ≤ 64) : (Go.bits .and .i64 (shr .i64 o g) 1 == 1) = bitAt o g := by
 rw [shr_nat ho h1, bits_and_one (by rw [Nat.shiftRight_eq_div_pow]; have := Nat.div_le_self o.toNat (2 ^ g.toNat); omega)]
 unfold bitAt
 rw [Nat.testBit, Bool.eq_iff_iff]
 simp only [beq_iff_eq, bne_iff_ne, ne_eq, Nat.and_comm 1, Nat.and_one_is_mod]
 omega
theorem bits_xor_nat {x y : Nat} (hx : x < 9223372036854775808) (hy : y < 9223372036854775808) : Go.bits .xor .i64 (x : Int) (y : Int) = ((x ^^^ y : Nat) : Int) := by
 show IntKind.i64.wrap (((BitVec.ofInt 64 (x : Int)) ^^^ (BitVec.ofInt 64 (y : Int))).toNat : Int) = _
 rw [i64_w, ofInt_nat, ofInt_nat]
 simp only [BitVec.toNat_xor, BitVec.toNat_ofNat]
 rw [Nat.mod_eq_of_lt (by omega), Nat.mod_eq_of_lt (by omega)]
 have := Nat.xor_lt_two_pow (n := 63) (show x < 2 ^ 63 by omega) (show y < 2 ^ 63 by omega)
 exact w64_id (by omega) (by omega)
theorem bits_or_nat {x y : Nat} (hx : x < 9223372036854775808) (hy : y < 9223372036854775808) : Go.bits .or .i64 (x : Int) (y : Int) = ((x ||| y : Nat) : Int) := by
 show IntKind.i64.wrap (((BitVec.ofInt 64 (x : Int)) ||| (BitVec.ofInt 64 (y : Int))).toNat : Int) = _
 rw [i64_w, ofInt_nat, ofInt_nat]
 simp only [BitVec.toNat_or, BitVec.toNat_ofNat]
 rw [Nat.mod_eq_of_lt (by omega), Nat.mod_eq_of_lt (by omega)]
 have := Nat.or_lt_two_pow (n := 63) (show x < 2 ^ 63 by omega) (show y < 2 ^ 63 by omega)
 exact w64_id (by omega) (by omega)
theorem bits_andNot_nat {x y : Nat} (hx : x < 9223372036854775808) (hy : y < 9223372036854775808) : ∃ z : Nat, Go.bits .andNot .i64 (x : Int) (y : Int) = (z : Int) ∧ z ≤ x ∧ ∀ i, z.testBit i = (x.testBit i && !y.testBit i) := by
 refine ⟨(BitVec.ofNat 64 x &&& ~~~ BitVec.ofNat 64 y).toNat, ?_, ?_, ?_⟩
 ·show IntKind.i64.wrap (((BitVec.ofInt 64 (x : Int)) &&& ~~~ (BitVec.ofInt 64 (y : Int))).toNat : Int) = _
  rw [i64_w, ofInt_nat, ofInt_nat]
  have h1 : (BitVec.ofNat 64 x &&& ~~~ BitVec.ofNat 64 y).toNat ≤ x := by
   rw [BitVec.toNat_and, BitVec.toNat_ofNat, Nat.mod_eq_of_lt (by omega)]; exact Nat.and_le_left
  exact w64_id (by omega) (by omega)
 ·rw [BitVec.toNat_and, BitVec.toNat_ofNat, Nat.mod_eq_of_lt (by omega)]; exact Nat.and_le_left
 ·intro i
  rw [BitVec.testBit_toNat, BitVec.getLsbD_and, BitVec.getLsbD_not, BitVec.getLsbD_ofNat, BitVec.getLsbD_ofNat]
  by_cases hi : i < 64
  ·simp [hi]
  ·have : x.testBit i = false := Nat.testBit_lt_two_pow (Nat.lt_of_lt_of_le hx (by
    have := Nat.pow_le_pow_right (n := 2) (by omega) (show 64 ≤ i by omega)
    omega))
   simp [hi, this]
def gOk (w h : Int) : Bool := decide (1 ≤ w) && decide (w ≤ 4) && decide (1 ≤ h) && decide (h ≤ 4)
theorem gOk_iff {w h : Int} : gOk w h = true ↔ 1 ≤ w ∧ w ≤ 4 ∧ 1 ≤ h ∧ h ≤ 4 := by
 unfold gOk; simp only [Bool.and_eq_true, decide_eq_true_eq]; omega
theorem gOk_cases {w h : Int} (hg : gOk w h = true) : (w = 1 ∨ w = 2 ∨ w = 3 ∨ w = 4) ∧ (h = 1 ∨ h = 2 ∨ h = 3 ∨ h = 4) := by
 have := gOk_iff.1 hg; omega
def nCells (w h : Int) : Int := if gOk w h = true then w * h else 0
def nGaps (w h : Int) : Int := if gOk w h = true then (w - 1) * h + w * (h - 1) else 0
def nCorn (w h : Int) : Int := if gOk w h = true then (w + 1) * (h + 1) else 0
def nEast (w h : Int) : Int := (w - 1) * h
theorem nCells_bd (w h : Int) : 0 ≤ nCells w h ∧ nCells w h ≤ 16 ∧ (gOk w h = true → 1 ≤ nCells w h) := by
 unfold nCells
 split
 ·rename_i hg; rcases gOk_cases hg with ⟨rfl | rfl | rfl | rfl, rfl | rfl | rfl | rfl⟩ <;> decide +kernel
 ·rename_i hg; exact ⟨by omega, by omega, fun h => absurd h hg⟩
theorem nGaps_bd (w h : Int) : 0 ≤ nGaps w h ∧ nGaps w h ≤ 24 := by
 unfold nGaps
 split
 ·rename_i hg; rcases gOk_cases hg with ⟨rfl | rfl | rfl | rfl, rfl | rfl | rfl | rfl⟩ <;> decide +kernel
 ·omega
theorem l01In_eq (a b c : Int) : spec_l01In.f a b c = some (decide (b ≤ a) && decide (a ≤ c)) := by
 unfold spec_l01In.f
 by_cases h : a ≥ b
 ·rw [if_pos h]; simp [show b ≤ a from h]
 ·rw [if_neg h]; simp [show ¬ b ≤ a from h]
theorem spec_GridOk_eq (w h : Int) : spec_GridOk.f w h = some (gOk w h) := by
 unfold spec_GridOk.f gOk
 simp only [l01In_eq, Option.bind_some]
 by_cases h1 : 1 ≤ w <;> by_cases h2 : w ≤ 4 <;> simp [h1, h2]
theorem impl_GridOk_eq (w h : Int) : impl_GridOk.f w h = some (gOk w h) := by
 unfold impl_GridOk.f gOk
 by_cases h1 : 1 ≤ w <;> by_cases h2 : w ≤ 4 <;> by_cases h3 : 1 ≤ h <;> simp [h1, h2, h3]
theorem toMaze_eq (w h o : Int) : laws_toMaze.f w h o = some (w, h, o) := rfl
theorem spec_CountCells_eq (w h : Int) : spec_CountCells.f w h = some (nCells w h) := by
 unfold spec_CountCells.f nCells
 rw [spec_GridOk_eq]; simp only [Option.bind_some]
 by_cases hg : gOk w h = true
 ·rw [if_pos hg, if_pos hg]
  rcases gOk_cases hg with ⟨rfl | rfl | rfl | rfl, rfl | rfl | rfl | rfl⟩ <;> decide +kernel
 ·rw [if_neg hg, if_neg hg]
theorem impl_CountCells_eq (w h : Int) : impl_CountCells.f w h = some (nCells w h) := by
 unfold impl_CountCells.f nCells
 rw [impl_GridOk_eq]; simp only [Option.bind_some]
 by_cases hg : gOk w h = true
 ·rw [if_pos hg, if_pos hg]
  rcases gOk_cases hg with ⟨rfl | rfl | rfl | rfl, rfl | rfl | rfl | rfl⟩ <;> decide +kernel
 ·rw [if_neg hg, if_neg hg]
theorem l02East_eq {w h : Int} (hg : gOk w h = true) : spec_l02East.f w h = some (nEast w h) := by
 unfold spec_l02East.f nEast
 rcases gOk_cases hg with ⟨rfl | rfl | rfl | rfl, rfl | rfl | rfl | rfl⟩ <;> decide +kernel
theorem spec_CountGaps_eq (w h : Int) : spec_CountGaps.f w h = some (nGaps w h) := by
 unfold spec_CountGaps.f nGaps
 rw [spec_GridOk_eq]; simp only [Option.bind_some]
 by_cases hg : gOk w h = true
 ·rw [if_pos hg, if_pos hg, l02East_eq hg]
  rcases gOk_cases hg with ⟨rfl | rfl | rfl | rfl, rfl | rfl | rfl | rfl⟩ <;> decide +kernel
 ·rw [if_neg hg, if_neg hg]
theorem impl_CountGaps_eq (w h : Int) : impl_CountGaps.f w h = some (nGaps w h) := by
 unfold impl_CountGaps.f nGaps
 rw [impl_GridOk_eq]; simp only [Option.bind_some]
 by_cases hg : gOk w h = true
 ·rw [if_pos hg, if_pos hg]
  rcases gOk_cases hg with ⟨rfl | rfl | rfl | rfl, rfl | rfl | rfl | rfl⟩ <;> decide +kernel
 ·rw [if_neg hg, if_neg hg]
def mOk (w h o : Int) : Bool := gOk w h && (decide (0 ≤ o) && decide (o < shl .i64 1 (nGaps w h)))
theorem mOk_iff {w h o : Int} : mOk w h o = true ↔ gOk w h = true ∧ 0 ≤ o ∧ o < 2 ^ (nGaps w h).toNat := by
 unfold mOk
 have := nGaps_bd w h
 rw [shl_one (by omega) (by omega)]
 simp only [Bool.and_eq_true, decide_eq_true_eq]
theorem mOk_bd {w h o : Int} (hm : mOk w h o = true) : 0 ≤ o ∧ o < 16777216 := by
 obtain ⟨_, h0, h1⟩ := mOk_iff.1 hm
 have := nGaps_bd w h
 have h2 := Nat.pow_le_pow_right (n := 2) (by omega) (show (nGaps w h).toNat ≤ 24 by omega)
 have h3 : (2 : Int) ^ (nGaps w h).toNat ≤ 2 ^ 24 := by exact_mod_cast h2
 omega
theorem spec_MazeOk_eq (w h o : Int) : spec_MazeOk.f w h o = some (mOk w h o) := by
 unfold spec_MazeOk.f mOk
 have hb := nGaps_bd w h
 have hs := shl_pos (g := nGaps w h) (by omega) (by omega)
 simp only [spec_GridOk_eq, spec_CountGaps_eq, l01In_eq, Option.bind_some]
 rw [if_pos hb.1, w64_id (by omega) (by omega)]
 by_cases hg : gOk w h = true
 ·rw [if_pos hg, hg, Bool.true_and]
  congr 2
  rw [Bool.eq_iff_iff]; simp only [decide_eq_true_eq]; omega
 ·rw [if_neg hg]; simp [hg]
theorem impl_MazeOk_eq (w h o : Int) : impl_MazeOk.f w h o = some (mOk w h o) := by
 unfold impl_MazeOk.f mOk
 have hb := nGaps_bd w h
 simp only [impl_GridOk_eq, impl_CountGaps_eq, Option.bind_some]
 rw [if_pos hb.1]
 by_cases hg : gOk w h = true
 ·rw [if_pos hg, hg, Bool.true_and]
  by_cases h0 : 0 ≤ o
  ·rw [if_pos h0]; simp [h0]
  ·rw [if_neg h0]; simp [h0]
 ·rw [if_neg hg]; simp [hg]
def gapIn (w h g : Int) : Bool := decide (0 ≤ g) && decide (g < nGaps w h)
theorem gapIn_iff {w h g : Int} : gapIn w h g = true ↔ 0 ≤ g ∧ g < nGaps w h := by unfold gapIn; simp
theorem gapIn_spec (w h g : Int) : (decide (0 ≤ g) && decide (g ≤ wrap64 (nGaps w h - 1))) = gapIn w h g := by
 have hb := nGaps_bd w h
 rw [w64_id (by omega) (by omega)]
 unfold gapIn; rw [Bool.eq_iff_iff]; simp; omega
theorem isOpen_eq {w h o g : Int} (hm : mOk w h o = true) (hg : g ≤ 64) : impl_isOpen.f w h o g = some (decide (0 ≤ g) && bitAt o g) := by
 unfold impl_isOpen.f
 have hb := mOk_bd hm
 by_cases h0 : 0 ≤ g
 ·rw [if_pos h0, if_pos h0, bit_test hb.1 (by omega) hg]; simp [h0]
 ·rw [if_neg h0]; simp [h0]
theorem l03Bit_eq {o g : Int} (ho : 0 ≤ o) (ho2 : o ≤ 9223372036854775807) (hg0 : 0 ≤ g) (hg : g ≤ 64) : spec_l03Bit.f o g = some (bitAt o g) := by
 unfold spec_l03Bit.f
 rw [if_pos hg0, bit_test ho ho2 hg]
def isPas (w h o g : Int) : Bool := mOk w h o && (gapIn w h g && bitAt o g)
theorem spec_IsPassage_eq (w h o g : Int) : spec_IsPassage.f w h o g = some (isPas w h o g) := by
 unfold spec_IsPassage.f isPas
 simp only [spec_MazeOk_eq, spec_CountGaps_eq, l01In_eq, Option.bind_some, gapIn_spec]
 by_cases hm : mOk w h o = true
 ·rw [if_pos hm, hm, Bool.true_and]
  by_cases hg : gapIn w h g = true
  ·have hb := mOk_bd hm
   have := gapIn_iff.1 hg
   have := nGaps_bd w h
   rw [if_pos hg, hg, Bool.true_and, l03Bit_eq hb.1 (by omega) (by omega) (by omega)]; rfl
  ·rw [if_neg hg]; simp [hg]
 ·rw [if_neg hm]; simp [hm]
def ends (w h g : Int) : Int × Int :=
 if gapIn w h g = true then (if g < nEast w h then (g / (w - 1) * w + g % (w - 1), g / (w - 1) * w + g % (w - 1) + 1) else (g - nEast w h, g - nEast w h + w)) else (-1, -1)
def nbr (w h c d : Int) : Int :=
 if 0 ≤ c ∧ c < nCells w h then (if d = 0 then (if 0 < c / w then c - w else -1) else if d = 1 then (if c % w < w - 1 then c + 1 else -1) else if d = 2 then (if c / w < h - 1 then c + w else -1) else if d = 3 then (if 0 < c % w then c - 1 else -1) else -1) else -1
theorem ok_of_cell {w h c : Int} (h0 : 0 ≤ c) (h1 : c < nCells w h) : gOk w h = true := by
 by_cases hk : gOk w h = true
 ·exact hk
 ·unfold nCells at h1; rw [if_neg hk] at h1; omega
theorem nCells_ok {w h : Int} (hk : gOk w h = true) : nCells w h = w * h := by unfold nCells; rw [if_pos hk]
theorem nGaps_ok {w h : Int} (hk : gOk w h = true) : nGaps w h = (w - 1) * h + w * (h - 1) := by unfold nGaps; rw [if_pos hk]
def cellIn (w h c : Int) : Bool := decide (0 ≤ c) && decide (c < nCells w h)
theorem cellIn_iff {w h c : Int} : cellIn w h c = true ↔ 0 ≤ c ∧ c < nCells w h := by unfold cellIn; simp
theorem cellIn_spec (w h c : Int) : (decide (0 ≤ c) && decide (c ≤ wrap64 (nCells w h - 1))) = cellIn w h c := by
 have hb := nCells_bd w h
 rw [w64_id (by omega) (by omega)]
 unfold cellIn; rw [Bool.eq_iff_iff]; simp; omega
theorem isCell_eq (w h c : Int) : impl_isCell.f w h c = some (cellIn w h c) := by
 unfold impl_isCell.f cellIn
 rw [impl_CountCells_eq]
 by_cases h0 : 0 ≤ c
 ·rw [if_pos h0]; simp [h0]
 ·rw [if_neg h0]; simp [h0]
theorem spec_Nb_j0 {w h : Int} (hk : gOk w h = true) (k : Nat) (x y : Int) (hx : -1 ≤ x ∧ x ≤ 4) (hy : -1 ≤ y ∧ y ≤ 4) :
  spec_Neighbor.j0 (k + 1) x y w h = some (if (0 ≤ x ∧ x ≤ w - 1) ∧ (0 ≤ y ∧ y ≤ h - 1) then y * w + x else -1) := by
 have hw := gOk_iff.1 hk
 have p1 : -20 ≤ y * w ∧ y * w ≤ 20 := by
  rcases gOk_cases hk with ⟨rfl | rfl | rfl | rfl, _⟩ <;> omega
 simp only [spec_Neighbor.j0, l01In_eq, Option.bind_some]
 rw [w64_id (x := w - 1) (by omega) (by omega), w64_id (x := h - 1) (by omega) (by omega), w64_id (x := y * w) (by omega) (by omega), w64_id (x := y * w + x) (by omega) (by omega)]
 by_cases h1 : 0 ≤ x ∧ x ≤ w - 1
 ·rw [if_pos (by simp [h1])]
  by_cases h2 : 0 ≤ y ∧ y ≤ h - 1
  ·rw [if_pos (by simp [h2]), if_pos ⟨h1, h2⟩]
  ·rw [if_neg (by simpa using h2), if_neg (fun hh => h2 hh.2)]
 ·rw [if_neg (by simpa using h1), if_neg (fun hh => h1 hh.1)]
theorem cell_xy {w h c : Int} (h0 : 0 ≤ c) (h1 : c < nCells w h) : (0 ≤ c % w ∧ c % w ≤ w - 1) ∧ (0 ≤ c / w ∧ c / w ≤ h - 1) ∧ c = c / w * w + c % w := by
 have hk := ok_of_cell h0 h1
 rw [nCells_ok hk] at h1
 rcases gOk_cases hk with ⟨rfl | rfl | rfl | rfl, rfl | rfl | rfl | rfl⟩ <;> omega
theorem cell_w64 {w h c : Int} (h0 : 0 ≤ c) (h1 : c < nCells w h) : wrap64 (Int.tdiv c w) = c / w ∧ Int.tmod c w = c % w := by
 have := cell_xy h0 h1
 have hw := gOk_iff.1 (ok_of_cell h0 h1)
 rw [Int.tdiv_eq_ediv_of_nonneg h0, Int.tmod_eq_emod_of_nonneg h0]
 exact ⟨w64_id (by omega) (by omega), rfl⟩
theorem spec_Neighbor_eq (k : Nat) (w h c d : Int) : spec_Neighbor.f (k + 1) w h c d = some (nbr w h c d) := by
 unfold spec_Neighbor.f nbr
 simp only [spec_CountCells_eq, l01In_eq, Option.bind_some, cellIn_spec]
 by_cases hc : cellIn w h c = true
 ·obtain ⟨h0, h1⟩ := cellIn_iff.1 hc
  have hk := ok_of_cell h0 h1
  have hw := gOk_iff.1 hk
  have hxy := cell_xy h0 h1
  obtain ⟨e1, e2⟩ := cell_w64 h0 h1
  rw [if_pos hc, if_pos (show 0 ≤ c ∧ c < nCells w h from ⟨h0, h1⟩), if_neg (show ¬ w = 0 by omega), e1, e2]
  have q1 : wrap64 (c / w - 1) = c / w - 1 := w64_id (by omega) (by omega)
  have q2 : wrap64 (c / w + 1) = c / w + 1 := w64_id (by omega) (by omega)
  have q3 : wrap64 (c % w - 1) = c % w - 1 := w64_id (by omega) (by omega)
  have q4 : wrap64 (c % w + 1) = c % w + 1 := w64_id (by omega) (by omega)
  rw [q1, q2, q3, q4]
  have t1 : (c / w - 1) * w = c / w * w - w := by rw [Int.sub_mul, Int.one_mul]
  have t2 : (c / w + 1) * w = c / w * w + w := by rw [Int.add_mul, Int.one_mul]
  by_cases d0 : d = 0
  ·rw [if_pos d0, if_pos d0, spec_Nb_j0 hk _ _ _ (by omega) (by omega)]
   congr 1; rw [t1]
   by_cases z : 0 < c / w
   ·rw [if_pos z, if_pos (by omega)]; omega
   ·rw [if_neg z, if_neg (by omega)]
  ·rw [if_neg d0, if_neg d0]
   by_cases d1 : d = 1
   ·rw [if_pos d1, if_pos d1, spec_Nb_j0 hk _ _ _ (by omega) (by omega)]
    congr 1
    by_cases z : c % w < w - 1
    ·rw [if_pos z, if_pos (by omega)]; omega
    ·rw [if_neg z, if_neg (by omega)]
   ·rw [if_neg d1, if_neg d1]
    by_cases d2 : d = 2
    ·rw [if_pos d2, if_pos d2, spec_Nb_j0 hk _ _ _ (by omega) (by omega)]
     congr 1; rw [t2]
     by_cases z : c / w < h - 1
     ·rw [if_pos z, if_pos (by omega)]; omega
     ·rw [if_neg z, if_neg (by omega)]
    ·rw [if_neg d2, if_neg d2]
     by_cases d3 : d = 3
     ·rw [if_pos d3, if_pos d3, spec_Nb_j0 hk _ _ _ (by omega) (by omega)]
      congr 1
      by_cases z : 0 < c % w
      ·rw [if_pos z, if_pos (by omega)]; omega
      ·rw [if_neg z, if_neg (by omega)]
     ·rw [if_neg d3, if_neg d3]
 ·rw [if_neg hc, if_neg (fun hh => hc (cellIn_iff.2 hh))]
theorem impl_Neighbor_eq (k : Nat) (w h c d : Int) : impl_Neighbor.f (k + 3) w h c d = some (nbr w h c d) := by
 unfold impl_Neighbor.f nbr
 simp only [isCell_eq, Option.bind_some]
 by_cases hc : cellIn w h c = true
 ·obtain ⟨h0, h1⟩ := cellIn_iff.1 hc
  have hk := ok_of_cell h0 h1
  have hw := gOk_iff.1 hk
  have hxy := cell_xy h0 h1
  have hb := nCells_bd w h
  obtain ⟨e1, e2⟩ := cell_w64 h0 h1
  rw [if_pos hc, if_pos (show 0 ≤ c ∧ c < nCells w h from ⟨h0, h1⟩), if_neg (show ¬ w = 0 by omega), e1, e2]
  simp only [impl_Neighbor.j0, impl_Neighbor.j1, impl_Neighbor.j2]
  rw [w64_id (x := w - 1) (by omega) (by omega), w64_id (x := h - 1) (by omega) (by omega), w64_id (x := c - w) (by omega) (by omega), w64_id (x := c + w) (by omega) (by omega), w64_id (x := c - 1) (by omega) (by omega), w64_id (x := c + 1) (by omega) (by omega)]
  simp only [decide_eq_true_eq, gt_iff_lt, Bool.false_eq_true, if_false]
  by_cases d0 : d = 0
  ·subst d0; simp; split <;> rfl
  ·by_cases d1 : d = 1
   ·subst d1; simp; split <;> rfl
   ·by_cases d2 : d = 2
    ·subst d2; simp; split <;> rfl
    ·by_cases d3 : d = 3
     ·subst d3; simp
      split <;> rfl
     ·simp [d0, d1, d2, d3]
 ·rw [if_neg hc, if_neg (fun hh => hc (cellIn_iff.2 hh))]
theorem nbr_cases {w h c d : Int} (hn : 0 ≤ nbr w h c d) : (0 ≤ c ∧ c < nCells w h) ∧ ((d = 0 ∧ 0 < c / w ∧ nbr w h c d = c - w) ∨ (d = 1 ∧ c % w < w - 1 ∧ nbr w h c d = c + 1) ∨ (d = 2 ∧ c / w < h - 1 ∧ nbr w h c d = c + w) ∨ (d = 3 ∧ 0 < c % w ∧ nbr w h c d = c - 1)) := by
 unfold nbr at hn ⊢
 by_cases hc : 0 ≤ c ∧ c < nCells w h
 ·rw [if_pos hc] at hn ⊢
  refine ⟨hc, ?_⟩
  by_cases d0 : d = 0
  ·rw [if_pos d0] at hn ⊢
   by_cases z : 0 < c / w
   ·rw [if_pos z]; exact .inl ⟨d0, z, rfl⟩
   ·rw [if_neg z] at hn; omega
  ·rw [if_neg d0] at hn ⊢
   by_cases d1 : d = 1
   ·rw [if_pos d1] at hn ⊢
    by_cases z : c % w < w - 1
    ·rw [if_pos z]; exact .inr (.inl ⟨d1, z, rfl⟩)
    ·rw [if_neg z] at hn; omega
   ·rw [if_neg d1] at hn ⊢
    by_cases d2 : d = 2
    ·rw [if_pos d2] at hn ⊢
     by_cases z : c / w < h - 1
     ·rw [if_pos z]; exact .inr (.inr (.inl ⟨d2, z, rfl⟩))
     ·rw [if_neg z] at hn; omega
    ·rw [if_neg d2] at hn ⊢
     by_cases d3 : d = 3
     ·rw [if_pos d3] at hn ⊢
      by_cases z : 0 < c % w
      ·rw [if_pos z]; exact .inr (.inr (.inr ⟨d3, z, rfl⟩))
      ·rw [if_neg z] at hn; omega
     ·rw [if_neg d3] at hn; omega
 ·rw [if_neg hc] at hn; omega
theorem nbr_bd {w h c d : Int} (hn : 0 ≤ nbr w h c d) : nbr w h c d < nCells w h := by
 obtain ⟨⟨h0, h1⟩, hd⟩ := nbr_cases hn
 have hk := ok_of_cell h0 h1
 rw [nCells_ok hk] at h1 ⊢
 rcases gOk_cases hk with ⟨rfl | rfl | rfl | rfl, rfl | rfl | rfl | rfl⟩ <;> omega
def gapAt (w h c d : Int) : Int :=
 if nbr w h c d < 0 then -1 else if d = 1 ∨ d = 3 then mn c (nbr w h c d) / w * (w - 1) + mn c (nbr w h c d) % w else nEast w h + mn c (nbr w h c d)
theorem mn_bd {w h c d : Int} (hn : 0 ≤ nbr w h c d) : 0 ≤ mn c (nbr w h c d) ∧ mn c (nbr w h c d) < nCells w h := by
 have h1 := nbr_bd hn
 obtain ⟨⟨h2, h3⟩, _⟩ := nbr_cases hn
 unfold mn; split <;> omega
theorem gap_w64 {w h c d : Int} (hn : 0 ≤ nbr w h c d) :
  wrap64 ((wrap64 ((wrap64 (Int.tdiv (mn c (nbr w h c d)) w)) * (wrap64 (w - 1)))) + (Int.tmod (mn c (nbr w h c d)) w)) = mn c (nbr w h c d) / w * (w - 1) + mn c (nbr w h c d) % w ∧ wrap64 (nEast w h + mn c (nbr w h c d)) = nEast w h + mn c (nbr w h c d) ∧ w ≠ 0 ∧ wrap64 ((wrap64 (w - 1)) * h) = nEast w h := by
 obtain ⟨m0, m1⟩ := mn_bd hn
 generalize mn c (nbr w h c d) = m at m0 m1 ⊢
 have hk := ok_of_cell m0 m1
 have hw := gOk_iff.1 hk
 have hxy := cell_xy m0 m1
 have hb := nCells_bd w h
 obtain ⟨e1, e2⟩ := cell_w64 m0 m1
 have e3 : wrap64 (w - 1) = w - 1 := w64_id (by omega) (by omega)
 have p1 : 0 ≤ m / w * (w - 1) ∧ m / w * (w - 1) ≤ 16 := by
  have q0 : 0 ≤ m / w * (w - 1) := Int.mul_nonneg hxy.2.1.1 (by omega)
  have q1 : m / w * (w - 1) = m / w * w - m / w := by rw [Int.mul_sub, Int.mul_one]
  omega
 have p2 : 0 ≤ nEast w h ∧ nEast w h ≤ 12 := by
  unfold nEast
  rcases gOk_cases hk with ⟨rfl | rfl | rfl | rfl, rfl | rfl | rfl | rfl⟩ <;> decide
 rw [e1, e2, e3, w64_id (x := m / w * (w - 1)) (by omega) (by omega)]
 refine ⟨w64_id (by omega) (by omega), w64_id (by omega) (by omega), by omega, ?_⟩
 have : (w - 1) * h = nEast w h := rfl
 rw [this]; exact w64_id (by omega) (by omega)
theorem spec_GapAt_eq (k : Nat) (w h c d : Int) : spec_GapAt.f (k + 1) w h c d = some (gapAt w h c d) := by
 unfold spec_GapAt.f gapAt
 rw [spec_Neighbor_eq]; simp only [Option.bind_some]
 by_cases hn : nbr w h c d < 0
 ·rw [if_pos hn, if_pos hn]
 ·rw [if_neg hn, if_neg hn]
  obtain ⟨e1, e2, e3, e4⟩ := gap_w64 (w := w) (h := h) (c := c) (d := d) (by omega)
  obtain ⟨m0, m1⟩ := mn_bd (w := w) (h := h) (c := c) (d := d) (by omega)
  rw [if_neg e3, e1, l02East_eq (ok_of_cell m0 m1)]
  simp only [Option.bind_some]
  rw [e2]
  by_cases d1 : d = 1
  ·rw [if_pos d1, if_pos (.inl d1)]
  ·rw [if_neg d1]
   by_cases d3 : d = 3
   ·rw [if_pos d3, if_pos (.inr d3)]
   ·rw [if_neg d3, if_neg (by omega)]
theorem impl_GapAt_eq (k : Nat) (w h c d : Int) : impl_GapAt.f (k + 3) w h c d = some (gapAt w h c d) := by
 unfold impl_GapAt.f gapAt
 rw [impl_Neighbor_eq]; simp only [Option.bind_some]
 by_cases hn : nbr w h c d < 0
 ·rw [if_pos hn, if_pos hn]
 ·rw [if_neg hn, if_neg hn]
  obtain ⟨e1, e2, e3, e4⟩ := gap_w64 (w := w) (h := h) (c := c) (d := d) (by omega)
  rw [if_neg e3, e1, e4, e2]
  by_cases d1 : d = 1
  ·rw [if_pos d1, if_pos (.inl d1)]
  ·rw [if_neg d1]
   by_cases d3 : d = 3
   ·rw [if_pos d3, if_pos (.inr d3)]
   ·rw [if_neg d3, if_neg (by omega)]
theorem gapAt_nonneg {w h c d : Int} : 0 ≤ gapAt w h c d ↔ 0 ≤ nbr w h c d := by
 unfold gapAt
 by_cases hn : nbr w h c d < 0
 ·rw [if_pos hn]; omega
 ·rw [if_neg hn]
  have hn' : 0 ≤ nbr w h c d := by omega
  obtain ⟨m0, m1⟩ := mn_bd hn'
  have hk := ok_of_cell m0 m1
  have hw := gOk_iff.1 hk
  have hxy := cell_xy m0 m1
  have q0 : 0 ≤ mn c (nbr w h c d) / w * (w - 1) := Int.mul_nonneg hxy.2.1.1 (by omega)
  have q1 : 0 ≤ nEast w h := Int.mul_nonneg (by omega) (by omega)
  split <;> omega
theorem gapAt_bd {w h c d : Int} (hn : 0 ≤ nbr w h c d) : 0 ≤ gapAt w h c d ∧ gapAt w h c d < nGaps w h := by
 refine ⟨gapAt_nonneg.2 hn, ?_⟩
 obtain ⟨⟨h0, h1⟩, hd⟩ := nbr_cases hn
 have hk := ok_of_cell h0 h1
 unfold gapAt mn nEast
 rw [if_neg (by omega), nGaps_ok hk]
 rw [nCells_ok hk] at h1
 rcases hd with ⟨rfl, z, e⟩ | ⟨rfl, z, e⟩ | ⟨rfl, z, e⟩ | ⟨rfl, z, e⟩ <;> rw [e] <;> simp only [Int.reduceEq, or_false, or_true, false_or, or_self, if_true, if_false] <;>
  rcases gOk_cases hk with ⟨rfl | rfl | rfl | rfl, rfl | rfl | rfl | rfl⟩ <;> split <;> omega
theorem gapAt_in {w h c d : Int} : gapIn w h (gapAt w h c d) = decide (0 ≤ gapAt w h c d) := by
 rw [Bool.eq_iff_iff, gapIn_iff, decide_eq_true_eq]
 exact ⟨fun h => h.1, fun h => gapAt_bd (gapAt_nonneg.1 h)⟩
def stp (w h o c d : Int) : Int :=
 if mOk w h o = true then (if 0 ≤ gapAt w h c d ∧ bitAt o (gapAt w h c d) = true then nbr w h c d else -1) else -1
theorem gapAt_le {w h c d : Int} : gapAt w h c d ≤ 64 := by
 by_cases hn : 0 ≤ nbr w h c d
 ·have := gapAt_bd hn
  have := nGaps_bd w h
  omega
 ·have : ¬ 0 ≤ gapAt w h c d := fun hh => hn (gapAt_nonneg.1 hh)
  omega
theorem spec_Step_eq (k : Nat) (w h o c d : Int) : spec_Step.f (k + 1) w h o c d = some (stp w h o c d) := by
 unfold spec_Step.f stp
 simp only [spec_MazeOk_eq, spec_GapAt_eq, spec_Neighbor_eq, spec_IsPassage_eq, Option.bind_some]
 by_cases hm : mOk w h o = true
 ·rw [if_pos hm, if_pos hm]
  have e : isPas w h o (gapAt w h c d) = true ↔ (0 ≤ gapAt w h c d ∧ bitAt o (gapAt w h c d) = true) := by
   unfold isPas; rw [gapAt_in]; simp [hm]
  by_cases hp : isPas w h o (gapAt w h c d) = true
  ·rw [if_pos hp, if_pos (e.1 hp)]
  ·rw [if_neg hp, if_neg (fun hh => hp (e.2 hh))]
 ·rw [if_neg hm, if_neg hm]
theorem impl_Step_eq (k : Nat) (w h o c d : Int) : impl_Step.f (k + 3) w h o c d = some (stp w h o c d) := by
 unfold impl_Step.f stp
 simp only [impl_MazeOk_eq, impl_GapAt_eq, impl_Neighbor_eq, Option.bind_some]
 by_cases hm : mOk w h o = true
 ·rw [if_pos hm, if_pos hm, isOpen_eq hm gapAt_le]
  simp only [Option.bind_some, Bool.and_eq_true, decide_eq_true_eq]
  split <;> rfl
 ·rw [if_neg hm, if_neg hm]
theorem stp_bd {w h o c d : Int} (hs : 0 ≤ stp w h o c d) : mOk w h o = true ∧ (0 ≤ c ∧ c < nCells w h) ∧ (0 ≤ d ∧ d ≤ 3) ∧ stp w h o c d < nCells w h ∧ stp w h o c d = nbr w h c d := by
 unfold stp at hs ⊢
 by_cases hm : mOk w h o = true
 ·rw [if_pos hm] at hs ⊢
  by_cases hp : 0 ≤ gapAt w h c d ∧ bitAt o (gapAt w h c d) = true
  ·rw [if_pos hp] at hs ⊢
   obtain ⟨h1, h2⟩ := nbr_cases hs
   exact ⟨hm, h1, by omega, nbr_bd hs, rfl⟩
  ·rw [if_neg hp] at hs; omega
 ·rw [if_neg hm] at hs; omega
def waysL (w h o c : Int) : List Int := [0, 1, 2, 3].filter fun d => decide (0 ≤ stp w h o c d)
theorem spec_WaysFrom_eq (k : Nat) (w h o c : Int) : spec_WaysFrom.f (k + 6) w h o c = some (waysL w h o c) := by
 unfold spec_WaysFrom.f waysL
 simp only [spec_WaysFrom.l0, spec_Step_eq, Option.bind_some, show wrap64 (0 + 1) = 1 from by decide +kernel, show wrap64 (1 + 1) = 2 from by decide +kernel, show wrap64 (2 + 1) = 3 from by decide +kernel, show wrap64 (3 + 1) = 4 from by decide +kernel]
 by_cases h0 : 0 ≤ stp w h o c 0 <;> by_cases h1 : 0 ≤ stp w h o c 1 <;> by_cases h2 : 0 ≤ stp w h o c 2 <;> by_cases h3 : 0 ≤ stp w h o c 3 <;> simp [h0, h1, h2, h3, List.filter]
theorem impl_WaysFrom_eq (k : Nat) (w h o c : Int) : impl_WaysFrom.f (k + 8) w h o c = some (waysL w h o c) := by
 unfold impl_WaysFrom.f waysL
 simp only [impl_WaysFrom.l0, impl_Step_eq, Option.bind_some, show wrap64 (0 + 1) = 1 from by decide +kernel, show wrap64 (1 + 1) = 2 from by decide +kernel, show wrap64 (2 + 1) = 3 from by decide +kernel, show wrap64 (3 + 1) = 4 from by decide +kernel]
 by_cases h0 : 0 ≤ stp w h o c 0 <;> by_cases h1 : 0 ≤ stp w h o c 1 <;> by_cases h2 : 0 ≤ stp w h o c 2 <;> by_cases h3 : 0 ≤ stp w h o c 3 <;> simp [h0, h1, h2, h3, List.filter]
def setG (o g : Int) (b : Bool) : Int := if bitAt o g = b then o else ((o.toNat ^^^ 2 ^ g.toNat : Nat) : Int)
theorem two_pow_le {g : Int} (h1 : g ≤ 24) : 2 ^ g.toNat ≤ 16777216 := by
 have := Nat.pow_le_pow_right (n := 2) (by omega) (show g.toNat ≤ 24 by omega)
 omega
theorem shl_nat {g : Int} (h0 : 0 ≤ g) (h1 : g ≤ 24) : shl .i64 1 g = ((2 ^ g.toNat : Nat) : Int) := by
 rw [shl_one h0 (by omega)]; simp
theorem bit_setG {o g : Int} {b : Bool} (g2 : Int) (h0 : 0 ≤ g) (h2 : 0 ≤ g2) : bitAt (setG o g b) g2 = if g2 = g then b else bitAt o g2 := by
 unfold setG
 by_cases e : bitAt o g = b
 ·rw [if_pos e]
  by_cases e2 : g2 = g
  ·rw [if_pos e2, e2, e]
  ·rw [if_neg e2]
 ·rw [if_neg e]
  unfold bitAt at e ⊢
  rw [Int.toNat_natCast, Nat.testBit_xor, Nat.testBit_two_pow]
  by_cases e2 : g2 = g
  ·subst e2
   rw [if_pos rfl]
   simp only [decide_true, Bool.xor_true]
   cases b <;> simp_all
  ·rw [if_neg e2]
   have : ¬ g.toNat = g2.toNat := by omega
   simp [this]
theorem setG_bd {o g : Int} {b : Bool} (n : Int) (ho : 0 ≤ o) (hl : o < 2 ^ n.toNat) (h0 : 0 ≤ g) (h1 : g < n) : 0 ≤ setG o g b ∧ setG o g b < 2 ^ n.toNat := by
 unfold setG
 split
 ·exact ⟨ho, hl⟩
 ·refine ⟨by omega, ?_⟩
  have a1 : o.toNat < 2 ^ n.toNat := by
   have : ((o.toNat : Nat) : Int) < ((2 ^ n.toNat : Nat) : Int) := by rw [Int.toNat_of_nonneg ho]; simpa using hl
   exact_mod_cast this
  have a2 : 2 ^ g.toNat < 2 ^ n.toNat := Nat.pow_lt_pow_right (by omega) (by omega)
  have := Nat.xor_lt_two_pow a1 a2
  exact_mod_cast this
theorem mOk_setG {w h o g : Int} {b : Bool} (hm : mOk w h o = true) (hg : gapIn w h g = true) : mOk w h (setG o g b) = true := by
 obtain ⟨hk, h0, h1⟩ := mOk_iff.1 hm
 obtain ⟨g0, g1⟩ := gapIn_iff.1 hg
 obtain ⟨s0, s1⟩ := setG_bd (b := b) (nGaps w h) h0 h1 g0 g1
 exact mOk_iff.2 ⟨hk, s0, s1⟩
theorem xor_setG {o g : Int} (ho : 0 ≤ o) (ho2 : o < 16777216) (h0 : 0 ≤ g) (h1 : g ≤ 24) : Go.bits .xor .i64 o (shl .i64 1 g) = ((o.toNat ^^^ 2 ^ g.toNat : Nat) : Int) := by
 have := two_pow_le h1
 rw [shl_nat h0 h1]
 obtain ⟨n, rfl⟩ := Int.eq_ofNat_of_zero_le ho
 rw [bits_xor_nat (by omega) (by omega)]; simp
theorem clear_setG {o g : Int} (ho : 0 ≤ o) (ho2 : o < 16777216) (h0 : 0 ≤ g) (h1 : g ≤ 24) : Go.bits .andNot .i64 o (shl .i64 1 g) = setG o g false := by
 have h2 := two_pow_le h1
 rw [shl_nat h0 h1]
 obtain ⟨n, rfl⟩ := Int.eq_ofNat_of_zero_le ho
 obtain ⟨z, e, _, hz⟩ := bits_andNot_nat (x := n) (y := 2 ^ g.toNat) (by omega) (by omega)
 rw [e]; unfold setG bitAt
 simp only [Int.toNat_natCast]
 by_cases hb : n.testBit g.toNat = false
 ·rw [if_pos hb]
  congr 1
  apply Nat.eq_of_testBit_eq
  intro i
  rw [hz, Nat.testBit_two_pow]
  by_cases e2 : g.toNat = i
  ·subst e2; simp [hb]
  ·simp [e2]
 ·rw [if_neg hb]
  congr 1
  apply Nat.eq_of_testBit_eq
  intro i
  rw [hz, Nat.testBit_two_pow, Nat.testBit_xor, Nat.testBit_two_pow]
  by_cases e2 : g.toNat = i
  ·subst e2; simp at hb; simp [hb]
  ·simp [e2]
theorem open_setG {o g : Int} (ho : 0 ≤ o) (ho2 : o < 16777216) (h0 : 0 ≤ g) (h1 : g ≤ 24) : Go.bits .or .i64 (Go.bits .andNot .i64 o (shl .i64 1 g)) (shl .i64 1 g) = setG o g true := by
 have h2 := two_pow_le h1
 rw [shl_nat h0 h1]
 obtain ⟨n, rfl⟩ := Int.eq_ofNat_of_zero_le ho
 obtain ⟨z, e, hle, hz⟩ := bits_andNot_nat (x := n) (y := 2 ^ g.toNat) (by omega) (by omega)
 rw [e, bits_or_nat (by omega) (by omega)]; unfold setG bitAt
 simp only [Int.toNat_natCast]
 by_cases hb : n.testBit g.toNat = true
 ·rw [if_pos hb]
  congr 1
  apply Nat.eq_of_testBit_eq
  intro i
  rw [Nat.testBit_or, hz, Nat.testBit_two_pow]
  by_cases e2 : g.toNat = i
  ·subst e2; simp [hb]
  ·simp [e2]
 ·rw [if_neg hb]
  congr 1
  apply Nat.eq_of_testBit_eq
  intro i
  rw [Nat.testBit_or, hz, Nat.testBit_two_pow, Nat.testBit_xor, Nat.testBit_two_pow]
  by_cases e2 : g.toNat = i
  ·subst e2; simp at hb; simp [hb]
  ·simp [e2]
def setM (w h o g : Int) (b : Bool) : Int × Int × Int × Bool := if mOk w h o = true ∧ gapIn w h g = true then (w, h, setG o g b, true) else (w, h, o, false)
theorem impl_with_eq {w h o g : Int} {b : Bool} (hm : mOk w h o = true) (hg : gapIn w h g = true) : impl_with.f w h o g b = some (w, h, setG o g b) := by
 unfold impl_with.f
 have hb := mOk_bd hm
 have hg2 := gapIn_iff.1 hg
 have hn := nGaps_bd w h
 rw [if_pos hg2.1]
 cases b with
 | true => rw [if_pos rfl, open_setG hb.1 hb.2 hg2.1 (by omega)]
 | false => rw [if_neg (by decide), clear_setG hb.1 hb.2 hg2.1 (by omega)]
theorem spec_SetGap_eq (k : Nat) (w h o g : Int) (b : Bool) : spec_SetGap.f (k + 1) w h o g b = some (setM w h o g b) := by
 unfold spec_SetGap.f setM
 simp only [spec_MazeOk_eq, spec_CountGaps_eq, l01In_eq, Option.bind_some, gapIn_spec, spec_SetGap.j0]
 by_cases hm : mOk w h o = true
 ·rw [if_pos hm]
  by_cases hg : gapIn w h g = true
  ·have hb := mOk_bd hm
   have hg2 := gapIn_iff.1 hg
   have hn := nGaps_bd w h
   rw [if_neg (by simp [hg]), if_pos (show mOk w h o = true ∧ gapIn w h g = true from ⟨hm, hg⟩), l03Bit_eq hb.1 (by omega) hg2.1 (by omega)]
   simp only [Option.bind_some]
   unfold setG
   by_cases hc : bitAt o g = b
   ·rw [if_neg (by simp [hc]), if_pos hc]
   ·rw [if_pos (by simpa using hc), if_neg hc, if_pos hg2.1, xor_setG hb.1 hb.2 hg2.1 (by omega)]
  ·rw [if_pos (by simp [hg]), if_neg (show ¬ (mOk w h o = true ∧ gapIn w h g = true) from fun hh => hg hh.2)]
 ·rw [if_neg hm, if_neg (show ¬ (mOk w h o = true ∧ gapIn w h g = true) from fun hh => hm hh.1), if_pos trivial]
theorem eqIntS_tot (l : List Int) (hl : l.length ≤ 1000000000000) (d : Nat) : ∀ (k : Nat) (i : Int), 0 ≤ i → (l.length : Int) - i ≤ d → d < k → laws_eqIntS.l0 k l l i = some true := by
 induction d with
 | zero =>
  intro k i h0 hd hk
  obtain ⟨k, rfl⟩ : ∃ m, k = m + 1 := ⟨k - 1, by omega⟩
  simp only [laws_eqIntS.l0]; rw [if_neg (by omega)]
 | succ d ih =>
  intro k i h0 hd hk
  obtain ⟨k, rfl⟩ : ∃ m, k = m + 1 := ⟨k - 1, by omega⟩
  simp only [laws_eqIntS.l0]
  by_cases h1 : i < (l.length : Int)
  ·rw [if_pos h1, if_pos h0, if_pos h1, if_pos trivial, w64_id (x := i + 1) (by omega) (by omega)]
   exact ih _ _ (by omega) (by omega) (by omega)
  ·rw [if_neg h1]
theorem eqIntS_self (l : List Int) (hl : l.length ≤ 1000000000000) (k : Nat) (hk : l.length < k) : laws_eqIntS.f k l l = some true := by
 unfold laws_eqIntS.f
 rw [if_pos rfl]
 exact eqIntS_tot l hl l.length k 0 (by omega) (by omega) hk
def pcN (o : Nat) : Nat → Nat
 | 0 => 0
 | n + 1 => pcN o n + (if o.testBit n then 1 else 0)
theorem pcN_le (o n : Nat) : pcN o n ≤ n := by
 induction n with
 | zero => simp [pcN]
 | succ n ih => simp only [pcN]; split <;> omega
def pcnt (w h o : Int) : Int := if mOk w h o = true then ((pcN o.toNat (nGaps w h).toNat : Nat) : Int) else 0
theorem rd_mem (l : List Int) (i : Nat) (h1 : i < l.length) : rd l i = l[i] := by
 unfold rd; simp [List.getD_eq_getElem?_getD, h1]
theorem toIntS_tot (l : List Int) (hl : l.length ≤ 1000000000000) (d : Nat) : ∀ (k : Nat) (i : Nat), l.length - i ≤ d → d < k → i ≤ l.length → laws_toIntS.l0 k l (l.take i ++ List.replicate (l.length - i) 0) i = some l := by
 induction d with
 | zero =>
  intro k i hd hk hi
  obtain ⟨k, rfl⟩ : ∃ m, k = m + 1 := ⟨k - 1, by omega⟩
  obtain rfl : i = l.length := by omega
  simp only [laws_toIntS.l0]; rw [if_neg (by omega)]; simp
 | succ d ih =>
  intro k i hd hk hi
  obtain ⟨k, rfl⟩ : ∃ m, k = m + 1 := ⟨k - 1, by omega⟩
  simp only [laws_toIntS.l0]
  by_cases h1 : (i : Int) < (l.length : Int)
  ·have hi' : i < l.length := by omega
   rw [if_pos h1, if_pos (by omega), if_pos (by simp; omega), w64_id (x := (i : Int) + 1) (by omega) (by omega), rd_mem l i hi']
   have := ih k (i + 1) (by omega) (by omega) (by omega)
   have e : (l.take i ++ List.replicate (l.length - i) 0).set (i : Int).toNat l[i] = l.take (i + 1) ++ List.replicate (l.length - (i + 1)) 0 := by
    rw [show l.length - i = (l.length - (i + 1)) + 1 by omega, List.replicate_succ]
    have e3 : (l.take i ++ (0 : Int) :: List.replicate (l.length - (i + 1)) 0).set (i : Int).toNat l[i] = l.take i ++ l[i] :: List.replicate (l.length - (i + 1)) 0 := by
     simp [List.set_append, Nat.min_eq_left hi]
    rw [e3, List.take_succ_eq_append_getElem hi', List.append_assoc]; rfl
   rw [e]; simpa using this
  ·rw [if_neg h1]
   obtain rfl : i = l.length := by omega
   simp
theorem toIntS_eq (l : List Int) (hl : l.length ≤ 1000000000000) (k : Nat) (hk : l.length < k) : laws_toIntS.f k l = some l := by
 unfold laws_toIntS.f
 rw [if_pos (by omega), if_pos (by simp; omega)]
 have := toIntS_tot l hl l.length k 0 (by omega) hk (by omega)
 simpa using this
theorem isIn_eq (w h o : Int) (l : List Int) : impl_isIn.f w h o l = some (mOk w h o && l.all (cellIn w h)) := by
 unfold impl_isIn.f
 rw [impl_MazeOk_eq]
 simp only [Option.bind_some]
 rw [show (fun c => !cellB w h c) = fun c => !cellIn w h c from funext fun c => by unfold cellB; rw [isCell_eq]; rfl]
 by_cases hm : mOk w h o = true
 ·rw [if_pos hm, hm]; simp [List.all_eq_not_any_not]
 ·rw [if_neg hm, Bool.eq_false_iff.2 hm]; simp
theorem stp_iff {w h o c d : Int} : 0 ≤ stp w h o c d ↔ mOk w h o = true ∧ 0 ≤ nbr w h c d ∧ bitAt o (gapAt w h c d) = true := by
 constructor
 ·intro hs
  obtain ⟨hm, _, _, _, he⟩ := stp_bd hs
  have hn : 0 ≤ nbr w h c d := by omega
  refine ⟨hm, hn, ?_⟩
  unfold stp at hs
  rw [if_pos hm] at hs
  split at hs
  ·rename_i hq; exact hq.2
  ·omega
 ·rintro ⟨hm, hn, hb⟩
  have hg := gapAt_bd hn
  unfold stp
  rw [if_pos hm, if_pos ⟨hg.1, hb⟩]
  exact hn
def numsTo : Nat → List Int
 | 0 => []
 | n + 1 => numsTo n ++ [(n : Int)]
def edgeB (w h c d : Int) : Bool := decide (nbr w h c d < 0) || (gapIn w h (gapAt w h c d) && (decide (ends w h (gapAt w h c d) = (c, nbr w h c d)) || decide (ends w h (gapAt w h c d) = (nbr w h c d, c))))
theorem edge_all {w h : Int} (hk : gOk w h = true) (c d : Nat) (hc : c < 16) (hd : d < 4) : edgeB w h c d = true := by
 have h16 : ∀ c : Fin 16, ∀ d : Fin 4, edgeB w h c.val d.val = true := by
  obtain ⟨hw, hh⟩ := gOk_cases hk
  rcases hw with rfl | rfl | rfl | rfl <;> rcases hh with rfl | rfl | rfl | rfl <;> decide +kernel
 exact h16 ⟨c, hc⟩ ⟨d, hd⟩
theorem nbr_ends {w h c d : Int} (hn : 0 ≤ nbr w h c d) : gapIn w h (gapAt w h c d) = true ∧ (ends w h (gapAt w h c d) = (c, nbr w h c d) ∨ ends w h (gapAt w h c d) = (nbr w h c d, c)) := by
 obtain ⟨⟨c0, c1⟩, hd⟩ := nbr_cases hn
 have hk := ok_of_cell c0 c1
 have hb := nCells_bd w h
 have hd' : 0 ≤ d ∧ d ≤ 3 := by rcases hd with h | h | h | h <;> omega
 have := edge_all hk c.toNat d.toNat (by omega) (by omega)
 rw [Int.toNat_of_nonneg c0, Int.toNat_of_nonneg hd'.1] at this
 unfold edgeB at this
 simp only [Bool.or_eq_true, Bool.and_eq_true, decide_eq_true_eq] at this
 rcases this with h | h
 ·omega
 ·exact h
theorem pcN_bits (o o' g : Nat) (h1 : o.testBit g = true) (h0 : o'.testBit g = false) (hs : ∀ i, i ≠ g → o'.testBit i = o.testBit i) : ∀ n, pcN o n = pcN o' n + (if g < n then 1 else 0)
 | 0 => rfl
 | n + 1 => by
  have ih := pcN_bits o o' g h1 h0 hs n
  have e : ∀ x, pcN x (n + 1) = pcN x n + (if x.testBit n then 1 else 0) := fun x => rfl
  rw [e, e, ih]
  by_cases hn : n = g
  ·subst hn; simp [h1, h0]
  ·have h2 := hs n hn
   by_cases hl : g < n
   ·simp [h2, hl, show g < n + 1 by omega]; omega
   ·simp [h2, hl, show ¬ g < n + 1 by omega]
theorem pcnt_off {w h o g : Int} (hm : mOk w h o = true) (hg : gapIn w h g = true) (hb : bitAt o g = true) : pcnt w h o = pcnt w h (setG o g false) + 1 := by
 obtain ⟨g0, g1⟩ := gapIn_iff.1 hg
 have hm' := mOk_setG (b := false) hm hg
 unfold pcnt
 rw [if_pos hm, if_pos hm', pcN_bits o.toNat (setG o g false).toNat g.toNat hb ?_ ?_, if_pos (by omega)]
 ·omega
 ·have := bit_setG (o := o) (b := false) g g0 g0
  rw [if_pos rfl] at this; exact this
 ·intro i hi
  have := bit_setG (o := o) (b := false) (i : Int) g0 (by omega)
  rw [if_neg (by omega)] at this
  unfold bitAt at this
  simpa using this
theorem pcnt_bd (w h o : Int) : 0 ≤ pcnt w h o ∧ pcnt w h o ≤ 24 := by
 unfold pcnt
 have := nGaps_bd w h
 split
 ·have := pcN_le o.toNat (nGaps w h).toNat; omega
 ·omega
theorem numsTo_len : ∀ n, (numsTo n).length = n
 | 0 => rfl
 | n + 1 => by rw [show numsTo (n + 1) = numsTo n ++ [(n : Int)] from rfl, List.length_append, numsTo_len n]; rfl
theorem numsTo_mem {x : Int} : ∀ {n}, x ∈ numsTo n ↔ 0 ≤ x ∧ x < (n : Int)
 | 0 => by simp [numsTo]; try omega
 | n + 1 => by
  rw [show numsTo (n + 1) = numsTo n ++ [(n : Int)] from rfl, List.mem_append, numsTo_mem (n := n)]
  simp; omega
theorem upTo_loop (n : Nat) (hn : n ≤ 1000) (d : Nat) : ∀ (k i : Nat), i ≤ n → n - i ≤ d → d < k → impl_upTo.l0 k n (numsTo i) i = some (numsTo n) := by
 induction d with
 | zero =>
  intro k i hi hd hk
  obtain ⟨k, rfl⟩ : ∃ m, k = m + 1 := ⟨k - 1, by omega⟩
  obtain rfl : i = n := by omega
  simp only [impl_upTo.l0]; rw [if_neg (by omega)]
 | succ d ih =>
  intro k i hi hd hk
  obtain ⟨k, rfl⟩ : ∃ m, k = m + 1 := ⟨k - 1, by omega⟩
  simp only [impl_upTo.l0]
  by_cases e : i = n
  ·subst e; rw [if_neg (by omega)]
  ·rw [if_pos (by omega), if_pos (by rw [numsTo_len]; omega), w64_id (by omega) (by omega)]
   exact ih k (i + 1) (by omega) (by omega) (by omega)
theorem upTo_eq (n : Nat) (hn : n ≤ 1000) (k : Nat) (hk : n < k) : impl_upTo.f k n = some (numsTo n) := by
 unfold impl_upTo.f
 exact upTo_loop n hn n k 0 (by omega) (by omega) hk
theorem waysL_mem {w h o c d : Int} (hd : d ∈ waysL w h o c) : 0 ≤ stp w h o c d ∧ 0 ≤ d ∧ d ≤ 3 := by
 unfold waysL at hd
 obtain ⟨a, b⟩ := List.mem_filter.1 hd
 have hs : 0 ≤ stp w h o c d := by simpa using b
 exact ⟨hs, (stp_bd hs).2.2.1⟩
def cellsP (w h o : Int) (p : List Int → Bool) : List Int := if mOk w h o = true then (numsTo (nCells w h).toNat).filter fun x => p (waysL w h o x) else []
theorem impl_Ways_k (w h o c : Int) (k : Nat) (hk : 8 ≤ k) : impl_WaysFrom.f k w h o c = some (waysL w h o c) := by
 have := impl_WaysFrom_eq (k - 8) w h o c
 rw [show k - 8 + 8 = k by omega] at this; exact this
theorem spec_Ways_k (w h o c : Int) (k : Nat) (hk : 6 ≤ k) : spec_WaysFrom.f k w h o c = some (waysL w h o c) := by
 have := spec_WaysFrom_eq (k - 6) w h o c
 rw [show k - 6 + 6 = k by omega] at this; exact this
theorem cells_with_eq (p : List Int → Bool) (w h o : Int) (k : Nat) (hk : 40 ≤ k) : cells_with p k w h o = some (cellsP w h o p) := by
 have hn := nCells_bd w h
 unfold cells_with cellsP
 rw [impl_MazeOk_eq, impl_CountCells_eq]
 simp only [Option.bind_some]
 by_cases hm : mOk w h o = true
 ·rw [if_pos hm, if_pos hm, show nCells w h = ((nCells w h).toNat : Int) by omega, upTo_eq _ (by omega) k (by omega)]
  simp only [Option.bind_some]
  rw [if_pos (List.all_eq_true.2 fun x _ => by rw [impl_Ways_k w h o x k (by omega)]; rfl)]
  congr 1
  refine List.filter_congr fun x _ => ?_
  rw [impl_Ways_k w h o x k (by omega)]; simp
 ·rw [if_neg hm, if_neg hm]
theorem cellsP_len (w h o : Int) (p : List Int → Bool) : (cellsP w h o p).length ≤ 16 := by
 have hn := nCells_bd w h
 unfold cellsP
 split
 ·exact Nat.le_trans (List.length_filter_le _ _) (by rw [numsTo_len]; omega)
 ·simp
theorem filter_next (q : Int → Bool) (i : Nat) : (numsTo (i + 1)).filter q = if q i = true then (numsTo i).filter q ++ [(i : Int)] else (numsTo i).filter q := by
 rw [show numsTo (i + 1) = numsTo i ++ [(i : Int)] from rfl, List.filter_append]
 cases hq : q i <;> simp [hq]
theorem filter_len (q : Int → Bool) (i : Nat) : ((numsTo i).filter q).length ≤ i := Nat.le_trans (List.length_filter_le _ _) (by rw [numsTo_len]; omega)
theorem spec_Dead_loop {w h o : Int} (hm : mOk w h o = true) (d : Nat) : ∀ (k i : Nat), (i : Int) + d = nCells w h → 2 * d + 50 ≤ k → spec_DeadEnds.l0 k ((numsTo i).filter fun x => ((waysL w h o x).length : Int) == 1) i w h o = some ((numsTo (nCells w h).toNat).filter fun x => ((waysL w h o x).length : Int) == 1) := by
 have hn := nCells_bd w h
 induction d with
 | zero =>
  intro k i hi hk
  obtain ⟨k, rfl⟩ : ∃ m, k = m + 2 := ⟨k - 2, by omega⟩
  simp only [spec_DeadEnds.l0, spec_CountCells_eq, Option.bind_some]
  rw [if_neg (by omega)]
  simp [spec_DeadEnds.j1, show (nCells w h).toNat = i by omega]
 | succ d ih =>
  intro k i hi hk
  obtain ⟨k, rfl⟩ : ∃ m, k = m + 2 := ⟨k - 2, by omega⟩
  have hgo := ih k (i + 1) (by omega) (by omega)
  have hl := filter_len (fun x => ((waysL w h o x).length : Int) == 1) i
  rw [filter_next] at hgo
  simp only [spec_DeadEnds.l0, spec_CountCells_eq, Option.bind_some]
  rw [if_pos (by omega), spec_MazeOk_eq, hm]
  simp only [Option.bind_some, spec_DeadEnds.j1, if_true]
  rw [spec_Ways_k w h o i k (by omega)]
  simp only [Option.bind_some]
  rw [w64_id (x := (i : Int) + 1) (by omega) (by omega), show (i : Int) + 1 = ((i + 1 : Nat) : Int) by omega]
  by_cases h1 : ((waysL w h o i).length : Int) = 1
  ·rw [if_pos h1, if_pos (by omega)]
   rw [if_pos (by simpa using h1)] at hgo; exact hgo
  ·rw [if_neg h1]
   rw [if_neg (by simpa using h1)] at hgo; exact hgo
theorem spec_DeadEnds_eq (w h o : Int) (k : Nat) (hk : 200 ≤ k) : spec_DeadEnds.f k w h o = some (cellsP w h o fun l => ((l.length : Int) == 1)) := by
 have hn := nCells_bd w h
 unfold spec_DeadEnds.f cellsP
 by_cases hm : mOk w h o = true
 ·rw [if_pos hm]
  exact spec_Dead_loop hm (nCells w h).toNat k 0 (by omega) (by omega)
 ·rw [if_neg hm]
  obtain ⟨k, rfl⟩ : ∃ m, k = m + 2 := ⟨k - 2, by omega⟩
  simp only [spec_DeadEnds.l0, spec_CountCells_eq, Option.bind_some, spec_MazeOk_eq]
  by_cases hlt : (0 : Int) < nCells w h
  ·rw [if_pos hlt]; simp [spec_DeadEnds.j1, hm]
  ·rw [if_neg hlt]; simp [spec_DeadEnds.j1]
theorem impl_DeadEnds_eq (w h o : Int) (k : Nat) (hk : 40 ≤ k) : impl_DeadEnds.f k w h o = some (cellsP w h o fun l => ((l.length : Int) == 1)) := cells_with_eq _ w h o k hk
def isLeaf (w h o c d : Int) : Prop := 0 ≤ stp w h o c d ∧ ∀ e, 0 ≤ stp w h o c e → e = d
theorem leaf_of {w h o c : Int} (hl : (waysL w h o c).length = 1) : isLeaf w h o c (rd (waysL w h o c) 0) := by
 obtain ⟨d, hd⟩ := List.length_eq_one_iff.1 hl
 have e : rd (waysL w h o c) 0 = d := by rw [hd]; rfl
 rw [e]
 refine ⟨(waysL_mem (w := w) (h := h) (o := o) (c := c) (d := d) (by rw [hd]; simp)).1, fun x hx => ?_⟩
 have hx3 := (stp_bd hx).2.2.1
 have : x ∈ waysL w h o c := by
  unfold waysL
  rw [List.mem_filter]
  refine ⟨?_, by simpa using hx⟩
  have : x = 0 ∨ x = 1 ∨ x = 2 ∨ x = 3 := by omega
  rcases this with rfl | rfl | rfl | rfl <;> simp
 rw [hd] at this
 simpa using this
def offL (w h o c d : Int) : Int := setG o (gapAt w h c d) false
theorem off_ok {w h o c d : Int} (hs : 0 ≤ stp w h o c d) : mOk w h o = true ∧ gapIn w h (gapAt w h c d) = true ∧ bitAt o (gapAt w h c d) = true ∧ mOk w h (offL w h o c d) = true ∧ pcnt w h o = pcnt w h (offL w h o c d) + 1 := by
 obtain ⟨hm, hn, hb⟩ := stp_iff.1 hs
 have hg := (nbr_ends hn).1
 exact ⟨hm, hg, hb, mOk_setG hm hg, pcnt_off hm hg hb⟩
def deadL (w h o : Int) : List Int := cellsP w h o fun l => ((l.length : Int) == 1)
def candL (keep : List Int) (w h o : Int) : List Int := (deadL w h o).filter fun x => !(decide (x ∈ keep))
def nextO (keep : List Int) (w h o : Int) : Int := offL w h o (rd (candL keep w h o) 0) (rd (waysL w h o (rd (candL keep w h o) 0)) 0)
def fillN (keep : List Int) (w h : Int) : Nat → Int → Int
 | 0, o => o
 | n + 1, o => if (candL keep w h o).length = 0 then o else fillN keep w h n (nextO keep w h o)
theorem dead_mem {w h o x : Int} : x ∈ deadL w h o ↔ mOk w h o = true ∧ (0 ≤ x ∧ x < nCells w h) ∧ (waysL w h o x).length = 1 := by
 have hn := nCells_bd w h
 unfold deadL cellsP
 by_cases hm : mOk w h o = true
 ·rw [if_pos hm, List.mem_filter, numsTo_mem]
  simp only [beq_iff_eq]
  constructor
  ·rintro ⟨⟨a, b⟩, c⟩; exact ⟨hm, ⟨a, by omega⟩, by omega⟩
  ·rintro ⟨_, ⟨a, b⟩, c⟩; exact ⟨⟨a, by omega⟩, by omega⟩
 ·rw [if_neg hm]; simp [hm]
theorem cand_head {keep : List Int} {w h o : Int} (hc : (candL keep w h o).length ≠ 0) : isLeaf w h o (rd (candL keep w h o) 0) (rd (waysL w h o (rd (candL keep w h o) 0)) 0) ∧ rd (candL keep w h o) 0 ∉ keep ∧ rd (candL keep w h o) 0 ∈ deadL w h o ∧ 0 ≤ rd (candL keep w h o) 0 ∧ (waysL w h o (rd (candL keep w h o) 0)).length = 1 := by
 have hm : rd (candL keep w h o) 0 ∈ candL keep w h o := by
  have := rd_mem (candL keep w h o) 0 (by omega)
  rw [show ((0 : Nat) : Int) = 0 from rfl] at this
  rw [this]; exact List.getElem_mem _
 have hm2 := hm
 unfold candL at hm2
 obtain ⟨h1, h2⟩ := List.mem_filter.1 hm2
 have h3 := dead_mem.1 h1
 exact ⟨leaf_of h3.2.2, (by simp only [Bool.not_eq_true', decide_eq_false_iff_not] at h2; exact h2), h1, h3.2.1.1, h3.2.2⟩
theorem fill_end (keep : List Int) (w h : Int) (n : Nat) : ∀ o, pcnt w h o ≤ (n : Int) → (candL keep w h (fillN keep w h n o)).length = 0 := by
 induction n with
 | zero =>
  intro o hp
  rw [fillN]
  by_cases hc : (candL keep w h o).length = 0
  ·exact hc
  ·exfalso
   have hl := (cand_head hc).1
   have := (off_ok hl.1).2.2.2.2
   have := pcnt_bd w h (offL w h o (rd (candL keep w h o) 0) (rd (waysL w h o (rd (candL keep w h o) 0)) 0))
   omega
 | succ n ih =>
  intro o hp
  rw [fillN]
  by_cases hc : (candL keep w h o).length = 0
  ·rw [if_pos hc]; exact hc
  ·rw [if_neg hc]
   have hl := (cand_head hc).1
   have := (off_ok hl.1).2.2.2.2
   exact ih _ (by unfold nextO; omega)
def fillV (keep : List Int) (w h o : Int) : Int := if mOk w h o = true ∧ (keep.all (cellIn w h)) = true then fillN keep w h 24 o else o
theorem index_loop (l : List Int) (hl : l.length ≤ 1000000000000) (x : Int) (d : Nat) : ∀ (k i : Nat), i + d = l.length → d < k → ∃ r, slices_Index_int_int.l0 k l x (l.length : Int) (i : Int) = some r ∧ (0 ≤ r ↔ x ∈ l.drop i) := by
 induction d with
 | zero =>
  intro k i hi hk
  obtain ⟨k, rfl⟩ : ∃ m, k = m + 1 := ⟨k - 1, by omega⟩
  refine ⟨-1, by rw [slices_Index_int_int.l0, if_neg (by omega)], ?_⟩
  rw [List.drop_eq_nil_of_le (by omega)]; simp
 | succ d ih =>
  intro k i hi hk
  obtain ⟨k, rfl⟩ : ∃ m, k = m + 1 := ⟨k - 1, by omega⟩
  have hlt : i < l.length := by omega
  have hr := rd_mem l i hlt
  rw [slices_Index_int_int.l0, if_pos (by omega), if_pos (by omega), if_pos (by omega), List.drop_eq_getElem_cons hlt]
  by_cases e : x = rd l i
  ·rw [if_pos e]
   exact ⟨i, rfl, fun _ => List.mem_cons.2 (.inl (e.trans hr)), fun _ => by omega⟩
  ·rw [if_neg e, w64_id (x := (i : Int) + 1) (by omega) (by omega)]
   obtain ⟨r, r1, r2⟩ := ih k (i + 1) (by omega) (by omega)
   refine ⟨r, r1, r2.trans ?_⟩
   rw [hr] at e
   rw [List.mem_cons]
   exact ⟨.inr, fun z => z.resolve_left e⟩
theorem contains_eq (l : List Int) (hl : l.length ≤ 1000000000000) (x : Int) (k : Nat) (hk : l.length < k) : slices_Contains_int_int.f k l x = some (decide (x ∈ l)) := by
 obtain ⟨r, r1, r2⟩ := index_loop l hl x l.length k 0 (by omega) hk
 unfold slices_Contains_int_int.f slices_Index_int_int.f
 rw [show ((0 : Nat) : Int) = 0 from rfl] at r1
 rw [r1]
 simp only [Option.bind_some]
 rw [List.drop_zero] at r2
 congr 1
 rw [Bool.eq_iff_iff]
 simp only [decide_eq_true_eq]
 exact r2
theorem gapAt_k (w h c d : Int) (k : Nat) (hk : 10 ≤ k) : impl_GapAt.f k w h c d = some (gapAt w h c d) := by
 first
  | exact impl_GapAt_eq ..
  | (have := impl_GapAt_eq (k - 1) w h c d; rw [show k - 1 + 1 = k by omega] at this; exact this)
  | (have := impl_GapAt_eq (k - 2) w h c d; rw [show k - 2 + 2 = k by omega] at this; exact this)
  | (have := impl_GapAt_eq (k - 3) w h c d; rw [show k - 3 + 3 = k by omega] at this; exact this)
theorem spec_gapAt_k (w h c d : Int) (k : Nat) (hk : 10 ≤ k) : spec_GapAt.f k w h c d = some (gapAt w h c d) := by
 first
  | exact spec_GapAt_eq ..
  | (have := spec_GapAt_eq (k - 1) w h c d; rw [show k - 1 + 1 = k by omega] at this; exact this)
  | (have := spec_GapAt_eq (k - 2) w h c d; rw [show k - 2 + 2 = k by omega] at this; exact this)
  | (have := spec_GapAt_eq (k - 3) w h c d; rw [show k - 3 + 3 = k by omega] at this; exact this)
theorem fill_go_eq (keep : List Int) (hl : keep.length ≤ 1000000000000) (w h : Int) (n : Nat) : ∀ (k : Nat) (o : Int), mOk w h o = true → pcnt w h o ≤ (n : Int) → keep.length + 100 + n ≤ k → fill_go keep k w h o = some (w, h, fillN keep w h n o) := by
 have go : ∀ (k : Nat) (o : Int), mOk w h o = true → keep.length + 100 ≤ k → fill_go keep (k + 1) w h o = if (candL keep w h o).length = 0 then some (w, h, o) else fill_go keep k w h (nextO keep w h o) := fun k o hm hk => by
  rw [fill_go, impl_DeadEnds_eq w h o k (by omega)]
  simp only [Option.bind_some]
  have hc : ∀ x, slices_Contains_int_int.f k keep x = some (decide (x ∈ keep)) := fun x => contains_eq keep hl x k (by omega)
  rw [if_pos (List.all_eq_true.2 fun x _ => by rw [hc]; rfl)]
  have e : ((cellsP w h o fun l => ((l.length : Int) == 1)).filter fun x => !((slices_Contains_int_int.f k keep x).getD false)) = candL keep w h o := by
   unfold candL deadL
   exact List.filter_congr fun x _ => by rw [hc]; rfl
  rw [e]
  by_cases hz : (candL keep w h o).length = 0
  ·rw [if_pos hz, if_pos hz]
  ·rw [if_neg hz, if_neg hz, impl_Ways_k w h o _ k (by omega)]
   simp only [Option.bind_some]
   obtain ⟨hlf, _, _, _, h1⟩ := cand_head hz
   have hk2 := off_ok hlf.1
   rw [if_pos (by omega), gapAt_k _ _ _ _ k (by omega)]
   simp only [Option.bind_some]
   rw [impl_with_eq hm hk2.2.1]
   rfl
 induction n with
 | zero =>
  intro k o hm hp hk
  obtain ⟨k, rfl⟩ : ∃ m, k = m + 1 := ⟨k - 1, by omega⟩
  rw [fillN]
  by_cases hc : (candL keep w h o).length = 0
  ·by_cases hk2 : keep.length + 100 ≤ k
   ·rw [go k o hm hk2, if_pos hc]
   ·obtain rfl : k = keep.length + 99 := by omega
    rw [fill_go, impl_DeadEnds_eq w h o _ (by omega)]
    simp only [Option.bind_some]
    have hcc : ∀ x, slices_Contains_int_int.f (keep.length + 99) keep x = some (decide (x ∈ keep)) := fun x => contains_eq keep hl x _ (by omega)
    rw [if_pos (List.all_eq_true.2 fun x _ => by rw [hcc]; rfl)]
    have e : ((cellsP w h o fun l => ((l.length : Int) == 1)).filter fun x => !((slices_Contains_int_int.f (keep.length + 99) keep x).getD false)) = candL keep w h o := by
     unfold candL deadL
     exact List.filter_congr fun x _ => by rw [hcc]; rfl
    rw [e, if_pos hc]
  ·exfalso
   have hlf := (cand_head hc).1
   have := (off_ok hlf.1).2.2.2.2
   have := pcnt_bd w h (offL w h o (rd (candL keep w h o) 0) (rd (waysL w h o (rd (candL keep w h o) 0)) 0))
   omega
 | succ n ih =>
  intro k o hm hp hk
  obtain ⟨k, rfl⟩ : ∃ m, k = m + 1 := ⟨k - 1, by omega⟩
  rw [go k o hm (by omega), fillN]
  by_cases hc : (candL keep w h o).length = 0
  ·rw [if_pos hc, if_pos hc]
  ·rw [if_neg hc, if_neg hc]
   have hlf := (cand_head hc).1
   have hk2 := off_ok hlf.1
   exact ih k _ hk2.2.2.2.1 (by unfold nextO; omega) (by omega)
theorem impl_Fill_eq (keep : List Int) (hl : keep.length ≤ 1000000000) (w h o : Int) (k : Nat) (hk : keep.length + 200 ≤ k) : impl_FillDeadEnds.f k w h o keep = some (w, h, fillV keep w h o) := by
 unfold impl_FillDeadEnds.f fillV
 rw [isIn_eq]
 simp only [Option.bind_some, Bool.and_eq_true]
 by_cases c : mOk w h o = true ∧ keep.all (cellIn w h) = true
 ·rw [if_pos c, if_pos c]
  exact fill_go_eq keep (by omega) w h 24 k o c.1 (pcnt_bd w h o).2 (by omega)
 ·rw [if_neg c, if_neg c]
theorem in_eq (l : List Int) (hl : l.length ≤ 1000000000000) (x : Int) (d : Nat) : ∀ (k i : Nat), i + d = l.length → d < k → spec_l07In.l0 k l x (i : Int) = some (decide (x ∈ l.drop i)) := by
 induction d with
 | zero =>
  intro k i hi hk
  obtain ⟨k, rfl⟩ : ∃ m, k = m + 1 := ⟨k - 1, by omega⟩
  rw [spec_l07In.l0, if_neg (by omega), List.drop_eq_nil_of_le (by omega)]; simp
 | succ d ih =>
  intro k i hi hk
  obtain ⟨k, rfl⟩ : ∃ m, k = m + 1 := ⟨k - 1, by omega⟩
  have hlt : i < l.length := by omega
  have hr := rd_mem l i hlt
  rw [spec_l07In.l0, if_pos (by omega), if_pos (by omega), List.drop_eq_getElem_cons hlt]
  by_cases e : rd l i = x
  ·rw [if_pos e, decide_eq_true (List.mem_cons.2 (.inl (by rw [← e, hr])))]
  ·rw [if_neg e, w64_id (x := (i : Int) + 1) (by omega) (by omega), show (i : Int) + 1 = ((i + 1 : Nat) : Int) by omega, ih k (i + 1) (by omega) (by omega)]
   congr 1
   rw [hr] at e
   rw [Bool.eq_iff_iff]
   simp only [decide_eq_true_eq, List.mem_cons]
   exact ⟨.inr, fun z => z.resolve_left (fun q => e q.symm)⟩
def pickD (keep l : List Int) : Int := match l.filter fun x => !(decide (x ∈ keep)) with
 | [] => -1
 | c :: _ => c
theorem pick_cons (keep : List Int) (x : Int) (l : List Int) : pickD keep (x :: l) = if x ∈ keep then pickD keep l else x := by
 unfold pickD
 by_cases c : x ∈ keep
 ·rw [if_pos c, List.filter_cons_of_neg (by simpa using c)]
 ·rw [if_neg c, List.filter_cons_of_pos (by simpa using c)]
def specEnd (keep : List Int) (k : Nat) (c w h o : Int) : Option (Int × Int × Int) := if c < 0 then (some (w, h, o)) else ((spec_WaysFrom.f k w h o c).bind fun t173 => (if 0 < (t173.length : Int) then ((spec_GapAt.f k w h c (rd t173 0)).bind fun t177 => ((spec_SetGap.f k w h o t177 false).bind fun bt178 => (spec_FillDeadEnds.l1 k keep bt178.1 bt178.2.1 bt178.2.2.1))) else (none)))
theorem spec_scanF (keep : List Int) (hk0 : keep.length ≤ 1000000000000) (l : List Int) (hl : l.length ≤ 100) (w h o : Int) (j : Nat) : ∀ k, j ≤ l.length → keep.length + j + 1 ≤ k → spec_FillDeadEnds.l2 k keep l (pickD keep (l.drop j)) ((j : Int) - 1) w h o = specEnd keep (k - j - 1) (pickD keep l) w h o := by
 induction j with
 | zero =>
  intro k hj hk
  obtain ⟨k, rfl⟩ : ∃ m, k = m + 1 := ⟨k - 1, by omega⟩
  rw [spec_FillDeadEnds.l2, if_neg (by omega), List.drop_zero]
  rfl
 | succ j ih =>
  intro k hj hk
  obtain ⟨k, rfl⟩ : ∃ m, k = m + 1 := ⟨k - 1, by omega⟩
  have hlt : j < l.length := by omega
  have hr := rd_mem l j hlt
  have hin : spec_l07In.f k keep (rd l j) = some (decide (rd l j ∈ keep)) := by
   have := in_eq keep hk0 (rd l j) keep.length k 0 (by omega) (by omega)
   rw [List.drop_zero] at this
   exact this
  have hp := pick_cons keep l[j] (l.drop (j + 1))
  rw [← List.drop_eq_getElem_cons hlt, ← hr] at hp
  have go := ih k (by omega) (by omega)
  rw [show ((j + 1 : Nat) : Int) - 1 = (j : Int) by omega, spec_FillDeadEnds.l2, if_pos (by omega), if_pos (by omega), if_pos (by omega), hin, w64_id (x := (j : Int) - 1) (by omega) (by omega)]
  simp only [Option.bind_some, decide_eq_true_eq]
  rw [show k + 1 - (j + 1) - 1 = k - j - 1 by omega]
  by_cases c : rd l j ∈ keep
  ·rw [if_pos c]
   rw [if_pos c] at hp
   rw [← hp]; exact go
  ·rw [if_neg c]
   rw [if_neg c] at hp
   rw [← hp]; exact go
theorem pick_cand (keep : List Int) (w h o : Int) : pickD keep (deadL w h o) = if (candL keep w h o).length = 0 then -1 else rd (candL keep w h o) 0 := by
 unfold pickD
 show (match candL keep w h o with | [] => -1 | c :: _ => c) = _
 cases candL keep w h o with
 | nil => rfl
 | cons c r => rw [if_neg (by simp)]; rfl
theorem dead_len (w h o : Int) : (deadL w h o).length ≤ 16 := cellsP_len w h o _
theorem spec_l1_step (keep : List Int) (hk0 : keep.length ≤ 1000000000000) {w h o : Int} (k : Nat) (hk : keep.length + 400 ≤ k) : ∃ K, k ≤ K + 20 ∧ K ≤ k ∧ spec_FillDeadEnds.l1 (k + 1) keep w h o = if (candL keep w h o).length = 0 then some (w, h, o) else spec_FillDeadEnds.l1 K keep w h (nextO keep w h o) := by
 have hd := dead_len w h o
 refine ⟨k - (deadL w h o).length - 1, by omega, by omega, ?_⟩
 rw [spec_FillDeadEnds.l1, spec_DeadEnds_eq w h o k (by omega)]
 simp only [Option.bind_some]
 have := spec_scanF keep hk0 (deadL w h o) (by omega) w h o (deadL w h o).length k (Nat.le_refl _) (by omega)
 rw [List.drop_eq_nil_of_le (Nat.le_refl _), show pickD keep [] = -1 from rfl] at this
 rw [show (cellsP w h o fun l => ((l.length : Int) == 1)) = deadL w h o from rfl, w64_id (x := ((deadL w h o).length : Int) - 1) (by omega) (by omega), this, pick_cand]
 unfold specEnd
 generalize hK : k - (deadL w h o).length - 1 = K
 by_cases hz : (candL keep w h o).length = 0
 ·rw [if_pos hz, if_pos hz, if_pos (by decide)]
 ·rw [if_neg hz, if_neg hz]
  obtain ⟨hlf, _, _, h0, h1⟩ := cand_head hz
  have hk2 := off_ok hlf.1
  rw [if_neg (by omega), spec_Ways_k w h o _ K (by omega)]
  simp only [Option.bind_some]
  rw [if_pos (by omega), spec_gapAt_k _ _ _ _ K (by omega)]
  simp only [Option.bind_some]
  obtain ⟨K, rfl⟩ : ∃ m, K = m + 1 := ⟨K - 1, by omega⟩
  rw [spec_SetGap_eq K]
  unfold setM
  rw [if_pos ⟨hk2.1, hk2.2.1⟩]
  rfl
theorem spec_l1_eq (keep : List Int) (hk0 : keep.length ≤ 1000000000000) (w h : Int) (n : Nat) : ∀ (k : Nat) (o : Int), pcnt w h o ≤ (n : Int) → keep.length + 500 + 30 * n ≤ k → spec_FillDeadEnds.l1 k keep w h o = some (w, h, fillN keep w h n o) := by
 induction n with
 | zero =>
  intro k o hp hk
  obtain ⟨k, rfl⟩ : ∃ m, k = m + 1 := ⟨k - 1, by omega⟩
  obtain ⟨K, _, _, e⟩ := spec_l1_step keep hk0 (w := w) (h := h) (o := o) k (by omega)
  have := fill_end keep w h 0 o hp
  rw [fillN] at this ⊢
  rw [e, if_pos this]
 | succ n ih =>
  intro k o hp hk
  obtain ⟨k, rfl⟩ : ∃ m, k = m + 1 := ⟨k - 1, by omega⟩
  obtain ⟨K, K1, K2, e⟩ := spec_l1_step keep hk0 (w := w) (h := h) (o := o) k (by omega)
  rw [e, fillN]
  by_cases hc : (candL keep w h o).length = 0
  ·rw [if_pos hc, if_pos hc]
  ·rw [if_neg hc, if_neg hc]
   have hlf := (cand_head hc).1
   have := (off_ok hlf.1).2.2.2.2
   exact ih K _ (by unfold nextO; omega) (by omega)
theorem has_cell (w h o c : Int) : spec_l04Has.f w h o c = some (mOk w h o && cellIn w h c) := by
 unfold spec_l04Has.f spec_l01In.f
 rw [spec_MazeOk_eq]; simp only [Option.bind_some]
 cases hm : mOk w h o with
 | false => rfl
 | true =>
  have hn := nCells_bd w h
  rw [if_pos rfl, spec_CountCells_eq]; simp only [Option.bind_some]
  have := cellIn_spec w h c
  rw [w64_id (by omega) (by omega)] at this ⊢
  rw [Bool.true_and]
  unfold cellIn
  by_cases c1 : 0 ≤ c <;> by_cases c2 : c < nCells w h <;> simp [c1, c2] <;> omega
theorem spec_l0F (keep : List Int) (hl : keep.length ≤ 1000000000) (w h o : Int) (d : Nat) : ∀ (k i : Nat), i + d = keep.length → keep.length + d + 2000 ≤ k → spec_FillDeadEnds.l0 k keep (i : Int) w h o = if ((keep.drop i).all fun c => mOk w h o && cellIn w h c) = true then some (w, h, fillN keep w h 24 o) else some (w, h, o) := by
 induction d with
 | zero =>
  intro k i hi hk
  obtain ⟨k, rfl⟩ : ∃ m, k = m + 1 := ⟨k - 1, by omega⟩
  rw [spec_FillDeadEnds.l0, if_neg (by omega), List.drop_eq_nil_of_le (by omega), if_pos (show (([] : List Int).all fun c => mOk w h o && cellIn w h c) = true from rfl)]
  exact spec_l1_eq keep (by omega) w h 24 k o (pcnt_bd w h o).2 (by omega)
 | succ d ih =>
  intro k i hi hk
  obtain ⟨k, rfl⟩ : ∃ m, k = m + 1 := ⟨k - 1, by omega⟩
  have hlt : i < keep.length := by omega
  rw [spec_FillDeadEnds.l0, if_pos (by omega), if_pos (by omega), has_cell, rd_mem keep i hlt, List.drop_eq_getElem_cons hlt, List.all_cons]
  simp only [Option.bind_some]
  by_cases c : (mOk w h o && cellIn w h keep[i]) = true
  ·rw [if_pos c, c, Bool.true_and, w64_id (x := (i : Int) + 1) (by omega) (by omega)]
   exact ih k (i + 1) (by omega) (by omega)
  ·rw [if_neg c, if_neg (by rw [Bool.and_eq_true]; exact fun z => c z.1)]
theorem spec_Fill_eq (keep : List Int) (hl : keep.length ≤ 1000000000) (w h o : Int) (k : Nat) (hk : 2 * keep.length + 2000 ≤ k) : spec_FillDeadEnds.f k w h o keep = some (w, h, fillV keep w h o) := by
 unfold spec_FillDeadEnds.f fillV
 have := spec_l0F keep hl w h o keep.length k 0 (by omega) (by omega)
 rw [show ((0 : Nat) : Int) = 0 from rfl] at this
 rw [this, List.drop_zero]
 by_cases hm : mOk w h o = true
 ·have e : (keep.all fun c => mOk w h o && cellIn w h c) = keep.all (cellIn w h) := by
   congr 1; funext c; rw [hm, Bool.true_and]
  rw [e]
  by_cases hc : keep.all (cellIn w h) = true
  ·rw [if_pos hc, if_pos ⟨hm, hc⟩]
  ·rw [if_neg hc, if_neg (fun z => hc z.2)]
 ·rw [if_neg (show ¬ (mOk w h o = true ∧ keep.all (cellIn w h) = true) from fun z => hm z.1)]
  have hfix : fillN keep w h 24 o = o := by
   rw [fillN, if_pos]
   unfold candL deadL cellsP
   rw [if_neg hm]; rfl
  rw [hfix]
  split <;> rfl
theorem FnExactFillDeadEnds : laws_FnExactFillDeadEnds.Pure := by
 intro w h o l _ _ _ _ _ _
 refine ⟨2 * l.length + 3000, ?_⟩
 unfold laws_FnExactFillDeadEnds.f
 by_cases hb : (l.length : Int) > 1048576
 ·rw [if_pos hb]
 ·rw [if_neg hb]
  have t := toIntS_eq l (by omega) (2 * l.length + 3000) (by omega)
  have s := spec_Fill_eq l (by omega) w h o (2 * l.length + 3000) (by omega)
  have i := impl_Fill_eq l (by omega) w h o (2 * l.length + 3000) (by omega)
  have e := eqIntS_self l (by omega) (2 * l.length + 3000) (by omega)
  simp only [toMaze_eq, t, s, i, e, Option.bind_some, laws_eqMaze.f, laws_eqGrid.f, if_true]

end Go.Proofs.Ytkldibidhjonnaa.Q.P
namespace Go.Proofs.Ytkldibidhjonnaa.Pure
theorem FnExactFillDeadEnds : Go.Proofs.Ytkldibidhjonnaa.Q.laws_FnExactFillDeadEnds.Pure := Go.Proofs.Ytkldibidhjonnaa.Q.P.FnExactFillDeadEnds
end Go.Proofs.Ytkldibidhjonnaa.Pure
