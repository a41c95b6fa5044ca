/- The plain law FnExactIsPassage: for every input that its Go types allow, the printed functions of the program and of the reference answer so that the law's own function says true. No further condition. -/
import Derived.Test.YtkglnlaefokpaaaQx0
import Derived.Test.YtkglnlaefokpaaaQx1
import Derived.Test.YtkglnlaefokpaaaQx3
import Derived.Test.YtkglnlaefokpaaaQx4
import Derived.Test.YtkglnlaefokpaaaQx5
import Derived.Test.YtkglnlaefokpaaaQx6
import Derived.Test.YtkglnlaefokpaaaQx7
namespace Go.Proofs.Ytkglnlaefokpaaa.Pure
open Go.RowKit Go.Proofs.Ytkglnlaefokpaaa.Q Go.Proofs.YtkglnlaefokpaaaW.PrintWords Go.Proofs.YtkglnlaefokpaaaW.PrintLast Go.Proofs.YtkglnlaefokpaaaW.PrintMore
set_option linter.unusedVariables false
set_option linter.unusedSimpArgs false

theorem w64_id {x : Int} (h0 : -9223372036854775808 ≤ x) (h1 : x ≤ 9223372036854775807) : wrap64 x = x := by
  unfold wrap64; omega
theorem shl_one {g : Int} (h0 : 0 ≤ g) (h1 : g ≤ 62) : shl .i64 1 g = 2 ^ g.toNat := by
  unfold shl
  rw [i64_w, Nat.min_eq_left (by simp only [IntKind.bits]; omega), Int.one_mul]
  have : (2 : Int) ^ g.toNat ≤ 2 ^ 62 := by
    have := Nat.pow_le_pow_right (n := 2) (by omega) (show g.toNat ≤ 62 by omega)
    exact_mod_cast this
  have h3 : (0 : Int) < 2 ^ g.toNat := by exact_mod_cast Nat.pow_pos (by omega)
  exact w64_id (by omega) (by omega)
theorem shl_pos {g : Int} (h0 : 0 ≤ g) (h1 : g ≤ 62) : 0 < shl .i64 1 g ∧ shl .i64 1 g ≤ 4611686018427387904 := by
  rw [shl_one h0 h1]
  have : (2 : Int) ^ g.toNat ≤ 2 ^ 62 := by
    have := Nat.pow_le_pow_right (n := 2) (by omega) (show g.toNat ≤ 62 by omega)
    exact_mod_cast this
  have h3 : (0 : Int) < 2 ^ g.toNat := by exact_mod_cast Nat.pow_pos (by omega)
  exact ⟨h3, by omega⟩
theorem shr_nat {o g : Int} (ho : 0 ≤ o) (h1 : g ≤ 64) : shr .i64 o g = ((o.toNat >>> g.toNat : Nat) : Int) := by
  unfold shr
  rw [Nat.min_eq_left (by simp only [IntKind.bits]; omega), Nat.shiftRight_eq_div_pow]
  obtain ⟨n, rfl⟩ := Int.eq_ofNat_of_zero_le ho
  simp only [Int.toNat_natCast]
  rw [Int.natCast_ediv, Int.natCast_pow]; rfl
def bitAt (o g : Int) : Bool := o.toNat.testBit g.toNat
theorem ofInt_nat (x : Nat) : BitVec.ofInt 64 (x : Int) = BitVec.ofNat 64 x := by
  apply BitVec.eq_of_toNat_eq; simp
theorem bits_and_nat {x y : Nat} (hx : x < 9223372036854775808) (hy : y < 9223372036854775808) : Go.bits .and .i64 (x : Int) (y : Int) = ((x &&& y : Nat) : Int) := by
  show IntKind.i64.wrap (((BitVec.ofInt 64 (x : Int)) &&& (BitVec.ofInt 64 (y : Int))).toNat : Int) = _
  rw [i64_w, ofInt_nat, ofInt_nat]
  simp only [BitVec.toNat_and, BitVec.toNat_ofNat]
  rw [Nat.mod_eq_of_lt (by omega), Nat.mod_eq_of_lt (by omega)]
  have := Nat.and_le_left (n := x) (m := y)
  exact w64_id (by omega) (by omega)
theorem bits_and_one {x : Nat} (hx : x < 9223372036854775808) : Go.bits .and .i64 (x : Int) 1 = ((x % 2 : Nat) : Int) := by
  rw [show (1 : Int) = ((1 : Nat) : Int) from rfl, bits_and_nat hx (by omega), Nat.and_one_is_mod]
theorem bit_test {o g : Int} (ho : 0 ≤ o) (ho2 : o ≤ 9223372036854775807) (h1 : g ≤ 64) : (Go.bits .and .i64 (shr .i64 o g) 1 == 1) = bitAt o g := by
  rw [shr_nat ho h1, bits_and_one (by rw [Nat.shiftRight_eq_div_pow]; have := Nat.div_le_self o.toNat (2 ^ g.toNat); omega)]
  unfold bitAt
  rw [Nat.testBit, Bool.eq_iff_iff]
  simp only [beq_iff_eq, bne_iff_ne, ne_eq, Nat.and_comm 1, Nat.and_one_is_mod]
  omega
def gOk (w h : Int) : Bool := decide (1 ≤ w) && decide (w ≤ 4) && decide (1 ≤ h) && decide (h ≤ 4)
theorem gOk_iff {w h : Int} : gOk w h = true ↔ 1 ≤ w ∧ w ≤ 4 ∧ 1 ≤ h ∧ h ≤ 4 := by
  unfold gOk; simp only [Bool.and_eq_true, decide_eq_true_eq]; omega
theorem gOk_cases {w h : Int} (hg : gOk w h = true) : (w = 1 ∨ w = 2 ∨ w = 3 ∨ w = 4) ∧ (h = 1 ∨ h = 2 ∨ h = 3 ∨ h = 4) := by
  have := gOk_iff.1 hg; omega
def nCells (w h : Int) : Int := if gOk w h = true then w * h else 0
def nGaps (w h : Int) : Int := if gOk w h = true then (w - 1) * h + w * (h - 1) else 0
def nCorn (w h : Int) : Int := if gOk w h = true then (w + 1) * (h + 1) else 0
def nEast (w h : Int) : Int := (w - 1) * h
theorem nGaps_bd (w h : Int) : 0 ≤ nGaps w h ∧ nGaps w h ≤ 24 := by
  unfold nGaps
  split
  · rename_i hg; rcases gOk_cases hg with ⟨rfl | rfl | rfl | rfl, rfl | rfl | rfl | rfl⟩ <;> decide +kernel
  · omega
theorem l01In_eq (a b c : Int) : spec_l01In.f a b c = some (decide (b ≤ a) && decide (a ≤ c)) := by
  unfold spec_l01In.f
  by_cases h : a ≥ b
  · rw [if_pos h]; simp [show b ≤ a from h]
  · rw [if_neg h]; simp [show ¬ b ≤ a from h]
theorem spec_GridOk_eq (w h : Int) : spec_GridOk.f w h = some (gOk w h) := by
  unfold spec_GridOk.f gOk
  simp only [l01In_eq, Option.bind_some]
  by_cases h1 : 1 ≤ w <;> by_cases h2 : w ≤ 4 <;> simp [h1, h2]
theorem impl_GridOk_eq (w h : Int) : impl_GridOk.f w h = some (gOk w h) := by
  unfold impl_GridOk.f gOk
  by_cases h1 : 1 ≤ w <;> by_cases h2 : w ≤ 4 <;> by_cases h3 : 1 ≤ h <;> simp [h1, h2, h3]
theorem toMaze_eq (w h o : Int) : laws_toMaze.f w h o = some (w, h, o) := rfl
theorem l02East_eq {w h : Int} (hg : gOk w h = true) : spec_l02East.f w h = some (nEast w h) := by
  unfold spec_l02East.f nEast
  rcases gOk_cases hg with ⟨rfl | rfl | rfl | rfl, rfl | rfl | rfl | rfl⟩ <;> decide +kernel
theorem spec_CountGaps_eq (w h : Int) : spec_CountGaps.f w h = some (nGaps w h) := by
  unfold spec_CountGaps.f nGaps
  rw [spec_GridOk_eq]; simp only [Option.bind_some]
  by_cases hg : gOk w h = true
  · rw [if_pos hg, if_pos hg, l02East_eq hg]
    rcases gOk_cases hg with ⟨rfl | rfl | rfl | rfl, rfl | rfl | rfl | rfl⟩ <;> decide +kernel
  · rw [if_neg hg, if_neg hg]
theorem impl_CountGaps_eq (w h : Int) : impl_CountGaps.f w h = some (nGaps w h) := by
  unfold impl_CountGaps.f nGaps
  rw [impl_GridOk_eq]; simp only [Option.bind_some]
  by_cases hg : gOk w h = true
  · rw [if_pos hg, if_pos hg]
    rcases gOk_cases hg with ⟨rfl | rfl | rfl | rfl, rfl | rfl | rfl | rfl⟩ <;> decide +kernel
  · rw [if_neg hg, if_neg hg]
def mOk (w h o : Int) : Bool := gOk w h && (decide (0 ≤ o) && decide (o < shl .i64 1 (nGaps w h)))
theorem mOk_iff {w h o : Int} : mOk w h o = true ↔ gOk w h = true ∧ 0 ≤ o ∧ o < 2 ^ (nGaps w h).toNat := by
  unfold mOk
  have := nGaps_bd w h
  rw [shl_one (by omega) (by omega)]
  simp only [Bool.and_eq_true, decide_eq_true_eq]
theorem mOk_bd {w h o : Int} (hm : mOk w h o = true) : 0 ≤ o ∧ o < 16777216 := by
  obtain ⟨_, h0, h1⟩ := mOk_iff.1 hm
  have := nGaps_bd w h
  have h2 := Nat.pow_le_pow_right (n := 2) (by omega) (show (nGaps w h).toNat ≤ 24 by omega)
  have h3 : (2 : Int) ^ (nGaps w h).toNat ≤ 2 ^ 24 := by exact_mod_cast h2
  omega
theorem spec_MazeOk_eq (w h o : Int) : spec_MazeOk.f w h o = some (mOk w h o) := by
  unfold spec_MazeOk.f mOk
  have hb := nGaps_bd w h
  have hs := shl_pos (g := nGaps w h) (by omega) (by omega)
  simp only [spec_GridOk_eq, spec_CountGaps_eq, l01In_eq, Option.bind_some]
  rw [if_pos hb.1, w64_id (by omega) (by omega)]
  by_cases hg : gOk w h = true
  · rw [if_pos hg, hg, Bool.true_and]
    congr 2
    rw [Bool.eq_iff_iff]; simp only [decide_eq_true_eq]; omega
  · rw [if_neg hg]; simp [hg]
theorem impl_MazeOk_eq (w h o : Int) : impl_MazeOk.f w h o = some (mOk w h o) := by
  unfold impl_MazeOk.f mOk
  have hb := nGaps_bd w h
  simp only [impl_GridOk_eq, impl_CountGaps_eq, Option.bind_some]
  rw [if_pos hb.1]
  by_cases hg : gOk w h = true
  · rw [if_pos hg, hg, Bool.true_and]
    by_cases h0 : 0 ≤ o
    · rw [if_pos h0]; simp [h0]
    · rw [if_neg h0]; simp [h0]
  · rw [if_neg hg]; simp [hg]
def gapIn (w h g : Int) : Bool := decide (0 ≤ g) && decide (g < nGaps w h)
theorem gapIn_iff {w h g : Int} : gapIn w h g = true ↔ 0 ≤ g ∧ g < nGaps w h := by unfold gapIn; simp
theorem gapIn_spec (w h g : Int) : (decide (0 ≤ g) && decide (g ≤ wrap64 (nGaps w h - 1))) = gapIn w h g := by
  have hb := nGaps_bd w h
  rw [w64_id (by omega) (by omega)]
  unfold gapIn; rw [Bool.eq_iff_iff]; simp; omega
theorem isGap_eq (w h g : Int) : impl_isGap.f w h g = some (gapIn w h g) := by
  unfold impl_isGap.f gapIn
  rw [impl_CountGaps_eq]
  by_cases h0 : 0 ≤ g
  · rw [if_pos h0]; simp [h0]
  · rw [if_neg h0]; simp [h0]
theorem isOpen_eq {w h o g : Int} (hm : mOk w h o = true) (hg : g ≤ 64) : impl_isOpen.f w h o g = some (decide (0 ≤ g) && bitAt o g) := by
  unfold impl_isOpen.f
  have hb := mOk_bd hm
  by_cases h0 : 0 ≤ g
  · rw [if_pos h0, if_pos h0, bit_test hb.1 (by omega) hg]; simp [h0]
  · rw [if_neg h0]; simp [h0]
theorem l03Bit_eq {o g : Int} (ho : 0 ≤ o) (ho2 : o ≤ 9223372036854775807) (hg0 : 0 ≤ g) (hg : g ≤ 64) : spec_l03Bit.f o g = some (bitAt o g) := by
  unfold spec_l03Bit.f
  rw [if_pos hg0, bit_test ho ho2 hg]
def isPas (w h o g : Int) : Bool := mOk w h o && (gapIn w h g && bitAt o g)
theorem spec_IsPassage_eq (w h o g : Int) : spec_IsPassage.f w h o g = some (isPas w h o g) := by
  unfold spec_IsPassage.f isPas
  simp only [spec_MazeOk_eq, spec_CountGaps_eq, l01In_eq, Option.bind_some, gapIn_spec]
  by_cases hm : mOk w h o = true
  · rw [if_pos hm, hm, Bool.true_and]
    by_cases hg : gapIn w h g = true
    · have hb := mOk_bd hm
      have := gapIn_iff.1 hg
      have := nGaps_bd w h
      rw [if_pos hg, hg, Bool.true_and, l03Bit_eq hb.1 (by omega) (by omega) (by omega)]; rfl
    · rw [if_neg hg]; simp [hg]
  · rw [if_neg hm]; simp [hm]
theorem impl_IsPassage_eq (w h o g : Int) : impl_IsPassage.f w h o g = some (isPas w h o g) := by
  unfold impl_IsPassage.f isPas
  simp only [impl_MazeOk_eq, isGap_eq, Option.bind_some]
  by_cases hm : mOk w h o = true
  · rw [if_pos hm, hm, Bool.true_and]
    by_cases hg : gapIn w h g = true
    · have h1 := gapIn_iff.1 hg
      have := nGaps_bd w h
      rw [if_pos hg, hg, Bool.true_and, isOpen_eq hm (by omega)]; simp [h1.1]
    · rw [if_neg hg]; simp [hg]
  · rw [if_neg hm]; simp [hm]
theorem FnExactIsPassage : laws_FnExactIsPassage.Pure := by
  intro w h o g _ _ _ _
  unfold laws_FnExactIsPassage.f
  simp only [toMaze_eq, spec_IsPassage_eq, impl_IsPassage_eq, Option.bind_some]
  simp

end Go.Proofs.Ytkglnlaefokpaaa.Pure
