/- The plain law FnExactKruskalMaze: for every input that its Go types allow, the printed functions of the program and of the reference answer so that the law's own function says true. No further condition. -/
import Derived.Test.YtpaecckpdaiogaaQx0
import Derived.Test.YtpaecckpdaiogaaQx10
import Derived.Test.YtpaecckpdaiogaaQx11
import Derived.Test.YtpaecckpdaiogaaQx12
import Derived.Test.YtpaecckpdaiogaaQx13
import Derived.Test.YtpaecckpdaiogaaQx18
import Derived.Test.YtpaecckpdaiogaaQx19
import Derived.Test.YtpaecckpdaiogaaQx2
import Derived.Test.YtpaecckpdaiogaaQx26
import Derived.Test.YtpaecckpdaiogaaQx3
import Derived.Test.YtpaecckpdaiogaaQx30
import Derived.Test.YtpaecckpdaiogaaQx31
import Derived.Test.YtpaecckpdaiogaaQx32
import Derived.Test.YtpaecckpdaiogaaQx34
import Derived.Test.YtpaecckpdaiogaaQx35
import Derived.Test.YtpaecckpdaiogaaQx36
import Derived.Test.YtpaecckpdaiogaaQx37
import Derived.Test.YtpaecckpdaiogaaQx38
import Derived.Test.YtpaecckpdaiogaaQx39
import Derived.Test.YtpaecckpdaiogaaQx4
import Derived.Test.YtpaecckpdaiogaaQx40
import Derived.Test.YtpaecckpdaiogaaQx41
import Derived.Test.YtpaecckpdaiogaaQx42
import Derived.Test.YtpaecckpdaiogaaQx43
import Derived.Test.YtpaecckpdaiogaaQx44
import Derived.Test.YtpaecckpdaiogaaQx45
import Derived.Test.YtpaecckpdaiogaaQx49
import Derived.Test.YtpaecckpdaiogaaQx5
import Derived.Test.YtpaecckpdaiogaaQx50
import Derived.Test.YtpaecckpdaiogaaQx51
import Derived.Test.YtpaecckpdaiogaaQx52
import Derived.Test.YtpaecckpdaiogaaQx53
import Derived.Test.YtpaecckpdaiogaaQx54
import Derived.Test.YtpaecckpdaiogaaQx55
import Derived.Test.YtpaecckpdaiogaaQx56
import Derived.Test.YtpaecckpdaiogaaQx57
import Derived.Test.YtpaecckpdaiogaaQx6
import Derived.Test.YtpaecckpdaiogaaQx7
import Derived.Test.YtpaecckpdaiogaaQx8
import Derived.Test.YtpaecckpdaiogaaQx9
namespace Go.Proofs.Ytpaecckpdaiogaa.Pure
open Go.RowKit Go.Proofs.Ytpaecckpdaiogaa.Q Go.Proofs.YtpaecckpdaiogaaW.PrintWords Go.Proofs.YtpaecckpdaiogaaW.PrintLast
set_option linter.unusedVariables false
set_option linter.unusedSimpArgs false

theorem w64_id {x : Int} (h0 : -9223372036854775808 ≤ x) (h1 : x ≤ 9223372036854775807) : wrap64 x = x := by
 unfold wrap64; omega
theorem shl_one {g : Int} (h0 : 0 ≤ g) (h1 : g ≤ 62) : shl .i64 1 g = 2 ^ g.toNat := by
 unfold shl
 rw [i64_w, Nat.min_eq_left (by simp only [IntKind.bits]; omega), Int.one_mul]
 have : (2 : Int) ^ g.toNat ≤ 2 ^ 62 := by
  have := Nat.pow_le_pow_right (n := 2) (by omega) (show g.toNat ≤ 62 by omega)
  exact_mod_cast this
 have h3 : (0 : Int) < 2 ^ g.toNat := by exact_mod_cast Nat.pow_pos (by omega)
 exact w64_id (by omega) (by omega)
theorem shl_pos {g : Int} (h0 : 0 ≤ g) (h1 : g ≤ 62) : 0 < shl .i64 1 g ∧ shl .i64 1 g ≤ 4611686018427387904 := by
 rw [shl_one h0 h1]
 have : (2 : Int) ^ g.toNat ≤ 2 ^ 62 := by
  have := Nat.pow_le_pow_right (n := 2) (by omega) (show g.toNat ≤ 62 by omega)
  exact_mod_cast this
 have h3 : (0 : Int) < 2 ^ g.toNat := by exact_mod_cast Nat.pow_pos (by omega)
 exact ⟨h3, by omega⟩
theorem shr_nat {o g : Int} (ho : 0 ≤ o) (h1 : g ≤ 64) : shr .i64 o g = ((o.toNat >>> g.toNat : Nat) : Int) := by
 unfold shr
 rw [Nat.min_eq_left (by simp only [IntKind.bits]; omega), Nat.shiftRight_eq_div_pow]
 obtain ⟨n, rfl⟩ := Int.eq_ofNat_of_zero_le ho
 simp only [Int.toNat_natCast]
 rw [Int.natCast_ediv, Int.natCast_pow]; rfl
def bitAt (o g : Int) : Bool := o.toNat.testBit g.toNat
theorem ofInt_nat (x : Nat) : BitVec.ofInt 64 (x : Int) = BitVec.ofNat 64 x := by
 apply BitVec.eq_of_toNat_eq; simp
theorem bits_and_nat {x y : Nat} (hx : x < 9223372036854775808) (hy : y < 9223372036854775808) : Go.bits .and .i64 (x : Int) (y : Int) = ((x &&& y : Nat) : Int) := by
 show IntKind.i64.wrap (((BitVec.ofInt 64 (x : Int)) &&& (BitVec.ofInt 64 (y : Int))).toNat : Int) = _
 rw [i64_w, ofInt_nat, ofInt_nat]
 simp only [BitVec.toNat_and, BitVec.toNat_ofNat]
 rw [Nat.mod_eq_of_lt (by omega), Nat.mod_eq_of_lt (by omega)]
 have := Nat.and_le_left (n := x) (m := y)
 exact w64_id (by omega) (by omega)
theorem bits_and_one {x : Nat} (hx : x < 9223372036854775808) : Go.bits .and .i64 (x : Int) 1 = ((x % 2 : Nat) : Int) := by
 rw [show (1 : Int) = ((1 : Nat) : Int) from rfl, bits_and_nat hx (by omega), Nat.and_one_is_mod]
theorem bit_test {o g : Int} (ho : 0 ≤ o) (ho2 : o ≤ 9223372036854775807) (h1 : g ≤ 64) : (Go.bits .and .i64 (shr .i64 o g) 1 == 1) = bitAt o g := by
 rw [shr_nat ho h1, bits_and_one (by rw [Nat.shiftRight_eq_div_pow]; have := Nat.div_le_self o.toNat (2 ^ g.toNat); omega)]
 unfold bitAt
 rw [Nat.testBit, Bool.eq_iff_iff]
 simp only [beq_iff_eq, bne_iff_ne, ne_eq, Nat.and_comm 1, Nat.and_one_is_mod]
 omega
theorem bits_xor_nat {x y : Nat} (hx : x < 9223372036854775808) (hy : y < 9223372036854775808) : Go.bits .xor .i64 (x : Int) (y : Int) = ((x ^^^ y : Nat) : Int) := by
 show IntKind.i64.wrap (((BitVec.ofInt 64 (x : Int)) ^^^ (BitVec.ofInt 64 (y : Int))).toNat : Int) = _
 rw [i64_w, ofInt_nat, ofInt_nat]
 simp only [BitVec.toNat_xor, BitVec.toNat_ofNat]
 rw [Nat.mod_eq_of_lt (by omega), Nat.mod_eq_of_lt (by omega)]
 have := Nat.xor_lt_two_pow (n := 63) (show x < 2 ^ 63 by omega) (show y < 2 ^ 63 by omega)
 exact w64_id (by omega) (by omega)
theorem bits_or_nat {x y : Nat} (hx : x < 9223372036854775808) (hy : y < 9223372036854775808) : Go.bits .or .i64 (x : Int) (y : Int) = ((x ||| y : Nat) : Int) := by
 show IntKind.i64.wrap (((BitVec.ofInt 64 (x : Int)) ||| (BitVec.ofInt 64 (y : Int))).toNat : Int) = _
 rw [i64_w, ofInt_nat, ofInt_nat]
 simp only [BitVec.toNat_or, BitVec.toNat_ofNat]
 rw [Nat.mod_eq_of_lt (by omega), Nat.mod_eq_of_lt (by omega)]
 have := Nat.or_lt_two_pow (n := 63) (show x < 2 ^ 63 by omega) (show y < 2 ^ 63 by omega)
 exact w64_id (by omega) (by omega)
theorem bits_andNot_nat {x y : Nat} (hx : x < 9223372036854775808) (hy : y < 9223372036854775808) : ∃ z : Nat, Go.bits .andNot .i64 (x : Int) (y : Int) = (z : Int) ∧ z ≤ x ∧ ∀ i, z.testBit i = (x.testBit i && !y.testBit i) := by
 refine ⟨(BitVec.ofNat 64 x &&& ~~~ BitVec.ofNat 64 y).toNat, ?_, ?_, ?_⟩
 ·show IntKind.i64.wrap (((BitVec.ofInt 64 (x : Int)) &&& ~~~ (BitVec.ofInt 64 (y : Int))).toNat : Int) = _
  rw [i64_w, ofInt_nat, ofInt_nat]
  have h1 : (BitVec.ofNat 64 x &&& ~~~ BitVec.ofNat 64 y).toNat ≤ x := by
   rw [BitVec.toNat_and, BitVec.toNat_ofNat, Nat.mod_eq_of_lt (by omega)]; exact Nat.and_le_left
  exact w64_id (by omega) (by omega)
 ·rw [BitVec.toNat_and, BitVec.toNat_ofNat, Nat.mod_eq_of_lt (by omega)]; exact Nat.and_le_left
 ·intro i
  rw [BitVec.testBit_toNat, BitVec.getLsbD_and, BitVec.getLsbD_not, BitVec.getLsbD_ofNat, BitVec.getLsbD_ofNat]
  by_cases hi : i < 64
  ·simp [hi]
  ·have : x.testBit i = false := Nat.testBit_lt_two_pow (Nat.lt_of_lt_of_le hx (by
    have := Nat.pow_le_pow_right (n := 2) (by omega) (show 64 ≤ i by omega)
    omega))
   simp [hi, this]
def gOk (w h : Int) : Bool := decide (1 ≤ w) && decide (w ≤ 4) && decide (1 ≤ h) && decide (h ≤ 4)
theorem gOk_iff {w h : Int} : gOk w h = true ↔ 1 ≤ w ∧ w ≤ 4 ∧ 1 ≤ h ∧ h ≤ 4 := by
 unfold gOk; simp only [Bool.and_eq_true, decide_eq_true_eq]; omega
theorem gOk_cases {w h : Int} (hg : gOk w h = true) : (w = 1 ∨ w = 2 ∨ w = 3 ∨ w = 4) ∧ (h = 1 ∨ h = 2 ∨ h = 3 ∨ h = 4) := by
 have := gOk_iff.1 hg; omega
def nCells (w h : Int) : Int := if gOk w h = true then w * h else 0
def nGaps (w h : Int) : Int := if gOk w h = true then (w - 1) * h + w * (h - 1) else 0
def nCorn (w h : Int) : Int := if gOk w h = true then (w + 1) * (h + 1) else 0
def nEast (w h : Int) : Int := (w - 1) * h
theorem nCells_bd (w h : Int) : 0 ≤ nCells w h ∧ nCells w h ≤ 16 ∧ (gOk w h = true → 1 ≤ nCells w h) := by
 unfold nCells
 split
 ·rename_i hg; rcases gOk_cases hg with ⟨rfl | rfl | rfl | rfl, rfl | rfl | rfl | rfl⟩ <;> decide +kernel
 ·rename_i hg; exact ⟨by omega, by omega, fun h => absurd h hg⟩
theorem nGaps_bd (w h : Int) : 0 ≤ nGaps w h ∧ nGaps w h ≤ 24 := by
 unfold nGaps
 split
 ·rename_i hg; rcases gOk_cases hg with ⟨rfl | rfl | rfl | rfl, rfl | rfl | rfl | rfl⟩ <;> decide +kernel
 ·omega
theorem l01In_eq (a b c : Int) : spec_l01In.f a b c = some (decide (b ≤ a) && decide (a ≤ c)) := by
 unfold spec_l01In.f
 by_cases h : a ≥ b
 ·rw [if_pos h]; simp [show b ≤ a from h]
 ·rw [if_neg h]; simp [show ¬ b ≤ a from h]
theorem spec_GridOk_eq (w h : Int) : spec_GridOk.f w h = some (gOk w h) := by
 unfold spec_GridOk.f gOk
 simp only [l01In_eq, Option.bind_some]
 by_cases h1 : 1 ≤ w <;> by_cases h2 : w ≤ 4 <;> simp [h1, h2]
theorem impl_GridOk_eq (w h : Int) : impl_GridOk.f w h = some (gOk w h) := by
 unfold impl_GridOk.f gOk
 by_cases h1 : 1 ≤ w <;> by_cases h2 : w ≤ 4 <;> by_cases h3 : 1 ≤ h <;> simp [h1, h2, h3]
theorem toGrid_eq (w h : Int) : laws_toGrid.f w h = some (w, h) := rfl
theorem spec_CountCells_eq (w h : Int) : spec_CountCells.f w h = some (nCells w h) := by
 unfold spec_CountCells.f nCells
 rw [spec_GridOk_eq]; simp only [Option.bind_some]
 by_cases hg : gOk w h = true
 ·rw [if_pos hg, if_pos hg]
  rcases gOk_cases hg with ⟨rfl | rfl | rfl | rfl, rfl | rfl | rfl | rfl⟩ <;> decide +kernel
 ·rw [if_neg hg, if_neg hg]
theorem impl_CountCells_eq (w h : Int) : impl_CountCells.f w h = some (nCells w h) := by
 unfold impl_CountCells.f nCells
 rw [impl_GridOk_eq]; simp only [Option.bind_some]
 by_cases hg : gOk w h = true
 ·rw [if_pos hg, if_pos hg]
  rcases gOk_cases hg with ⟨rfl | rfl | rfl | rfl, rfl | rfl | rfl | rfl⟩ <;> decide +kernel
 ·rw [if_neg hg, if_neg hg]
theorem l02East_eq {w h : Int} (hg : gOk w h = true) : spec_l02East.f w h = some (nEast w h) := by
 unfold spec_l02East.f nEast
 rcases gOk_cases hg with ⟨rfl | rfl | rfl | rfl, rfl | rfl | rfl | rfl⟩ <;> decide +kernel
theorem spec_CountGaps_eq (w h : Int) : spec_CountGaps.f w h = some (nGaps w h) := by
 unfold spec_CountGaps.f nGaps
 rw [spec_GridOk_eq]; simp only [Option.bind_some]
 by_cases hg : gOk w h = true
 ·rw [if_pos hg, if_pos hg, l02East_eq hg]
  rcases gOk_cases hg with ⟨rfl | rfl | rfl | rfl, rfl | rfl | rfl | rfl⟩ <;> decide +kernel
 ·rw [if_neg hg, if_neg hg]
theorem impl_CountGaps_eq (w h : Int) : impl_CountGaps.f w h = some (nGaps w h) := by
 unfold impl_CountGaps.f nGaps
 rw [impl_GridOk_eq]; simp only [Option.bind_some]
 by_cases hg : gOk w h = true
 ·rw [if_pos hg, if_pos hg]
  rcases gOk_cases hg with ⟨rfl | rfl | rfl | rfl, rfl | rfl | rfl | rfl⟩ <;> decide +kernel
 ·rw [if_neg hg, if_neg hg]
def mOk (w h o : Int) : Bool := gOk w h && (decide (0 ≤ o) && decide (o < shl .i64 1 (nGaps w h)))
theorem mOk_iff {w h o : Int} : mOk w h o = true ↔ gOk w h = true ∧ 0 ≤ o ∧ o < 2 ^ (nGaps w h).toNat := by
 unfold mOk
 have := nGaps_bd w h
 rw [shl_one (by omega) (by omega)]
 simp only [Bool.and_eq_true, decide_eq_true_eq]
theorem mOk_bd {w h o : Int} (hm : mOk w h o = true) : 0 ≤ o ∧ o < 16777216 := by
 obtain ⟨_, h0, h1⟩ := mOk_iff.1 hm
 have := nGaps_bd w h
 have h2 := Nat.pow_le_pow_right (n := 2) (by omega) (show (nGaps w h).toNat ≤ 24 by omega)
 have h3 : (2 : Int) ^ (nGaps w h).toNat ≤ 2 ^ 24 := by exact_mod_cast h2
 omega
theorem spec_MazeOk_eq (w h o : Int) : spec_MazeOk.f w h o = some (mOk w h o) := by
 unfold spec_MazeOk.f mOk
 have hb := nGaps_bd w h
 have hs := shl_pos (g := nGaps w h) (by omega) (by omega)
 simp only [spec_GridOk_eq, spec_CountGaps_eq, l01In_eq, Option.bind_some]
 rw [if_pos hb.1, w64_id (by omega) (by omega)]
 by_cases hg : gOk w h = true
 ·rw [if_pos hg, hg, Bool.true_and]
  congr 2
  rw [Bool.eq_iff_iff]; simp only [decide_eq_true_eq]; omega
 ·rw [if_neg hg]; simp [hg]
theorem impl_MazeOk_eq (w h o : Int) : impl_MazeOk.f w h o = some (mOk w h o) := by
 unfold impl_MazeOk.f mOk
 have hb := nGaps_bd w h
 simp only [impl_GridOk_eq, impl_CountGaps_eq, Option.bind_some]
 rw [if_pos hb.1]
 by_cases hg : gOk w h = true
 ·rw [if_pos hg, hg, Bool.true_and]
  by_cases h0 : 0 ≤ o
  ·rw [if_pos h0]; simp [h0]
  ·rw [if_neg h0]; simp [h0]
 ·rw [if_neg hg]; simp [hg]
def gapIn (w h g : Int) : Bool := decide (0 ≤ g) && decide (g < nGaps w h)
theorem gapIn_iff {w h g : Int} : gapIn w h g = true ↔ 0 ≤ g ∧ g < nGaps w h := by unfold gapIn; simp
theorem gapIn_spec (w h g : Int) : (decide (0 ≤ g) && decide (g ≤ wrap64 (nGaps w h - 1))) = gapIn w h g := by
 have hb := nGaps_bd w h
 rw [w64_id (by omega) (by omega)]
 unfold gapIn; rw [Bool.eq_iff_iff]; simp; omega
theorem isGap_eq (w h g : Int) : impl_isGap.f w h g = some (gapIn w h g) := by
 unfold impl_isGap.f gapIn
 rw [impl_CountGaps_eq]
 by_cases h0 : 0 ≤ g
 ·rw [if_pos h0]; simp [h0]
 ·rw [if_neg h0]; simp [h0]
theorem isOpen_eq {w h o g : Int} (hm : mOk w h o = true) (hg : g ≤ 64) : impl_isOpen.f w h o g = some (decide (0 ≤ g) && bitAt o g) := by
 unfold impl_isOpen.f
 have hb := mOk_bd hm
 by_cases h0 : 0 ≤ g
 ·rw [if_pos h0, if_pos h0, bit_test hb.1 (by omega) hg]; simp [h0]
 ·rw [if_neg h0]; simp [h0]
theorem l03Bit_eq {o g : Int} (ho : 0 ≤ o) (ho2 : o ≤ 9223372036854775807) (hg0 : 0 ≤ g) (hg : g ≤ 64) : spec_l03Bit.f o g = some (bitAt o g) := by
 unfold spec_l03Bit.f
 rw [if_pos hg0, bit_test ho ho2 hg]
def isPas (w h o g : Int) : Bool := mOk w h o && (gapIn w h g && bitAt o g)
theorem spec_IsPassage_eq (w h o g : Int) : spec_IsPassage.f w h o g = some (isPas w h o g) := by
 unfold spec_IsPassage.f isPas
 simp only [spec_MazeOk_eq, spec_CountGaps_eq, l01In_eq, Option.bind_some, gapIn_spec]
 by_cases hm : mOk w h o = true
 ·rw [if_pos hm, hm, Bool.true_and]
  by_cases hg : gapIn w h g = true
  ·have hb := mOk_bd hm
   have := gapIn_iff.1 hg
   have := nGaps_bd w h
   rw [if_pos hg, hg, Bool.true_and, l03Bit_eq hb.1 (by omega) (by omega) (by omega)]; rfl
  ·rw [if_neg hg]; simp [hg]
 ·rw [if_neg hm]; simp [hm]
def ends (w h g : Int) : Int × Int :=
 if gapIn w h g = true then (if g < nEast w h then (g / (w - 1) * w + g % (w - 1), g / (w - 1) * w + g % (w - 1) + 1) else (g - nEast w h, g - nEast w h + w)) else (-1, -1)
theorem spec_EndsOf_eq (w h g : Int) : spec_EndsOf.f w h g = some (ends w h g) := by
 unfold spec_EndsOf.f ends
 simp only [spec_CountGaps_eq, l01In_eq, Option.bind_some, gapIn_spec]
 by_cases hg : gapIn w h g = true
 ·rw [if_pos hg, if_pos hg]
  have h1 := gapIn_iff.1 hg
  have hk : gOk w h = true := by
   by_cases hk : gOk w h = true
   ·exact hk
   ·have := h1.2; unfold nGaps at this; rw [if_neg hk] at this; omega
  have h2 : nGaps w h = (w - 1) * h + w * (h - 1) := by unfold nGaps; rw [if_pos hk]
  rw [h2] at h1
  rw [l02East_eq hk]
  simp only [Option.bind_some]
  have e1 : wrap64 (w - 1) = w - 1 := by have := gOk_iff.1 hk; exact w64_id (by omega) (by omega)
  rw [e1]
  by_cases he : g < nEast w h
  ·rw [if_pos he, if_pos he]
   unfold nEast at he
   rcases gOk_cases hk with ⟨rfl | rfl | rfl | rfl, rfl | rfl | rfl | rfl⟩ <;> first | omega | (simp only [Int.reduceSub, Int.tdiv_eq_ediv_of_nonneg h1.1, Int.tmod_eq_emod_of_nonneg h1.1]; rw [if_neg (by decide), w64_id (x := g / _) (by omega) (by omega), w64_id (x := g / _ * _) (by omega) (by omega), w64_id (x := g / _ * _ + g % _) (by omega) (by omega), w64_id (by omega) (by omega)])
  ·rw [if_neg he, if_neg he]
   unfold nEast at he ⊢
   rcases gOk_cases hk with ⟨rfl | rfl | rfl | rfl, rfl | rfl | rfl | rfl⟩ <;> (rw [w64_id (x := g - _) (by omega) (by omega), w64_id (by omega) (by omega)])
 ·rw [if_neg hg, if_neg hg]
theorem impl_EndsOf_eq (w h g : Int) : impl_EndsOf.f w h g = some (ends w h g) := by
 unfold impl_EndsOf.f ends
 simp only [isGap_eq, Option.bind_some]
 by_cases hg : gapIn w h g = true
 ·rw [if_pos hg, if_pos hg]
  have h1 := gapIn_iff.1 hg
  have hk : gOk w h = true := by
   by_cases hk : gOk w h = true
   ·exact hk
   ·have := h1.2; unfold nGaps at this; rw [if_neg hk] at this; omega
  have h2 : nGaps w h = (w - 1) * h + w * (h - 1) := by unfold nGaps; rw [if_pos hk]
  rw [h2] at h1
  have h3 : wrap64 ((wrap64 (w - 1)) * h) = nEast w h := by
   unfold nEast
   rcases gOk_cases hk with ⟨rfl | rfl | rfl | rfl, rfl | rfl | rfl | rfl⟩ <;> decide +kernel
  rw [h3]
  have e1 : wrap64 (w - 1) = w - 1 := by have := gOk_iff.1 hk; exact w64_id (by omega) (by omega)
  rw [e1]
  by_cases he : g < nEast w h
  ·rw [if_neg (by omega), if_pos he]
   unfold nEast at he
   rcases gOk_cases hk with ⟨rfl | rfl | rfl | rfl, rfl | rfl | rfl | rfl⟩ <;> first | omega | (simp only [Int.reduceSub, Int.tdiv_eq_ediv_of_nonneg h1.1, Int.tmod_eq_emod_of_nonneg h1.1]; rw [if_neg (by decide), w64_id (x := g / _) (by omega) (by omega), w64_id (x := g / _ * _) (by omega) (by omega), w64_id (x := g / _ * _ + g % _) (by omega) (by omega), w64_id (by omega) (by omega)])
  ·rw [if_pos (by omega), if_neg he]
   unfold nEast at he ⊢
   rcases gOk_cases hk with ⟨rfl | rfl | rfl | rfl, rfl | rfl | rfl | rfl⟩ <;> (rw [w64_id (x := g - _) (by omega) (by omega), w64_id (by omega) (by omega)])
 ·rw [if_neg hg, if_neg hg]
def nbr (w h c d : Int) : Int :=
 if 0 ≤ c ∧ c < nCells w h then (if d = 0 then (if 0 < c / w then c - w else -1) else if d = 1 then (if c % w < w - 1 then c + 1 else -1) else if d = 2 then (if c / w < h - 1 then c + w else -1) else if d = 3 then (if 0 < c % w then c - 1 else -1) else -1) else -1
theorem ok_of_cell {w h c : Int} (h0 : 0 ≤ c) (h1 : c < nCells w h) : gOk w h = true := by
 by_cases hk : gOk w h = true
 ·exact hk
 ·unfold nCells at h1; rw [if_neg hk] at h1; omega
theorem nCells_ok {w h : Int} (hk : gOk w h = true) : nCells w h = w * h := by unfold nCells; rw [if_pos hk]
theorem nGaps_ok {w h : Int} (hk : gOk w h = true) : nGaps w h = (w - 1) * h + w * (h - 1) := by unfold nGaps; rw [if_pos hk]
def cellIn (w h c : Int) : Bool := decide (0 ≤ c) && decide (c < nCells w h)
theorem cellIn_iff {w h c : Int} : cellIn w h c = true ↔ 0 ≤ c ∧ c < nCells w h := by unfold cellIn; simp
theorem cellIn_spec (w h c : Int) : (decide (0 ≤ c) && decide (c ≤ wrap64 (nCells w h - 1))) = cellIn w h c := by
 have hb := nCells_bd w h
 rw [w64_id (by omega) (by omega)]
 unfold cellIn; rw [Bool.eq_iff_iff]; simp; omega
theorem isCell_eq (w h c : Int) : impl_isCell.f w h c = some (cellIn w h c) := by
 unfold impl_isCell.f cellIn
 rw [impl_CountCells_eq]
 by_cases h0 : 0 ≤ c
 ·rw [if_pos h0]; simp [h0]
 ·rw [if_neg h0]; simp [h0]
theorem spec_Nb_j0 {w h : Int} (hk : gOk w h = true) (k : Nat) (x y : Int) (hx : -1 ≤ x ∧ x ≤ 4) (hy : -1 ≤ y ∧ y ≤ 4) :
  spec_Neighbor.j0 (k + 1) x y w h = some (if (0 ≤ x ∧ x ≤ w - 1) ∧ (0 ≤ y ∧ y ≤ h - 1) then y * w + x else -1) := by
 have hw := gOk_iff.1 hk
 have p1 : -20 ≤ y * w ∧ y * w ≤ 20 := by
  rcases gOk_cases hk with ⟨rfl | rfl | rfl | rfl, _⟩ <;> omega
 simp only [spec_Neighbor.j0, l01In_eq, Option.bind_some]
 rw [w64_id (x := w - 1) (by omega) (by omega), w64_id (x := h - 1) (by omega) (by omega), w64_id (x := y * w) (by omega) (by omega), w64_id (x := y * w + x) (by omega) (by omega)]
 by_cases h1 : 0 ≤ x ∧ x ≤ w - 1
 ·rw [if_pos (by simp [h1])]
  by_cases h2 : 0 ≤ y ∧ y ≤ h - 1
  ·rw [if_pos (by simp [h2]), if_pos ⟨h1, h2⟩]
  ·rw [if_neg (by simpa using h2), if_neg (fun hh => h2 hh.2)]
 ·rw [if_neg (by simpa using h1), if_neg (fun hh => h1 hh.1)]
theorem cell_xy {w h c : Int} (h0 : 0 ≤ c) (h1 : c < nCells w h) : (0 ≤ c % w ∧ c % w ≤ w - 1) ∧ (0 ≤ c / w ∧ c / w ≤ h - 1) ∧ c = c / w * w + c % w := by
 have hk := ok_of_cell h0 h1
 rw [nCells_ok hk] at h1
 rcases gOk_cases hk with ⟨rfl | rfl | rfl | rfl, rfl | rfl | rfl | rfl⟩ <;> omega
theorem cell_w64 {w h c : Int} (h0 : 0 ≤ c) (h1 : c < nCells w h) : wrap64 (Int.tdiv c w) = c / w ∧ Int.tmod c w = c % w := by
 have := cell_xy h0 h1
 have hw := gOk_iff.1 (ok_of_cell h0 h1)
 rw [Int.tdiv_eq_ediv_of_nonneg h0, Int.tmod_eq_emod_of_nonneg h0]
 exact ⟨w64_id (by omega) (by omega), rfl⟩
theorem spec_Neighbor_eq (k : Nat) (w h c d : Int) : spec_Neighbor.f (k + 1) w h c d = some (nbr w h c d) := by
 unfold spec_Neighbor.f nbr
 simp only [spec_CountCells_eq, l01In_eq, Option.bind_some, cellIn_spec]
 by_cases hc : cellIn w h c = true
 ·obtain ⟨h0, h1⟩ := cellIn_iff.1 hc
  have hk := ok_of_cell h0 h1
  have hw := gOk_iff.1 hk
  have hxy := cell_xy h0 h1
  obtain ⟨e1, e2⟩ := cell_w64 h0 h1
  rw [if_pos hc, if_pos (show 0 ≤ c ∧ c < nCells w h from ⟨h0, h1⟩), if_neg (show ¬ w = 0 by omega), e1, e2]
  have q1 : wrap64 (c / w - 1) = c / w - 1 := w64_id (by omega) (by omega)
  have q2 : wrap64 (c / w + 1) = c / w + 1 := w64_id (by omega) (by omega)
  have q3 : wrap64 (c % w - 1) = c % w - 1 := w64_id (by omega) (by omega)
  have q4 : wrap64 (c % w + 1) = c % w + 1 := w64_id (by omega) (by omega)
  rw [q1, q2, q3, q4]
  have t1 : (c / w - 1) * w = c / w * w - w := by rw [Int.sub_mul, Int.one_mul]
  have t2 : (c / w + 1) * w = c / w * w + w := by rw [Int.add_mul, Int.one_mul]
  by_cases d0 : d = 0
  ·rw [if_pos d0, if_pos d0, spec_Nb_j0 hk _ _ _ (by omega) (by omega)]
   congr 1; rw [t1]
   by_cases z : 0 < c / w
   ·rw [if_pos z, if_pos (by omega)]; omega
   ·rw [if_neg z, if_neg (by omega)]
  ·rw [if_neg d0, if_neg d0]
   by_cases d1 : d = 1
   ·rw [if_pos d1, if_pos d1, spec_Nb_j0 hk _ _ _ (by omega) (by omega)]
    congr 1
    by_cases z : c % w < w - 1
    ·rw [if_pos z, if_pos (by omega)]; omega
    ·rw [if_neg z, if_neg (by omega)]
   ·rw [if_neg d1, if_neg d1]
    by_cases d2 : d = 2
    ·rw [if_pos d2, if_pos d2, spec_Nb_j0 hk _ _ _ (by omega) (by omega)]
     congr 1; rw [t2]
     by_cases z : c / w < h - 1
     ·rw [if_pos z, if_pos (by omega)]; omega
     ·rw [if_neg z, if_neg (by omega)]
    ·rw [if_neg d2, if_neg d2]
     by_cases d3 : d = 3
     ·rw [if_pos d3, if_pos d3, spec_Nb_j0 hk _ _ _ (by omega) (by omega)]
      congr 1
      by_cases z : 0 < c % w
      ·rw [if_pos z, if_pos (by omega)]; omega
      ·rw [if_neg z, if_neg (by omega)]
     ·rw [if_neg d3, if_neg d3]
 ·rw [if_neg hc, if_neg (fun hh => hc (cellIn_iff.2 hh))]
theorem impl_Neighbor_eq (k : Nat) (w h c d : Int) : impl_Neighbor.f (k + 3) w h c d = some (nbr w h c d) := by
 unfold impl_Neighbor.f nbr
 simp only [isCell_eq, Option.bind_some]
 by_cases hc : cellIn w h c = true
 ·obtain ⟨h0, h1⟩ := cellIn_iff.1 hc
  have hk := ok_of_cell h0 h1
  have hw := gOk_iff.1 hk
  have hxy := cell_xy h0 h1
  have hb := nCells_bd w h
  obtain ⟨e1, e2⟩ := cell_w64 h0 h1
  rw [if_pos hc, if_pos (show 0 ≤ c ∧ c < nCells w h from ⟨h0, h1⟩), if_neg (show ¬ w = 0 by omega), e1, e2]
  simp only [impl_Neighbor.j0, impl_Neighbor.j1, impl_Neighbor.j2]
  rw [w64_id (x := w - 1) (by omega) (by omega), w64_id (x := h - 1) (by omega) (by omega), w64_id (x := c - w) (by omega) (by omega), w64_id (x := c + w) (by omega) (by omega), w64_id (x := c - 1) (by omega) (by omega), w64_id (x := c + 1) (by omega) (by omega)]
  simp only [decide_eq_true_eq, gt_iff_lt, Bool.false_eq_true, if_false]
  by_cases d0 : d = 0
  ·subst d0; simp; split <;> rfl
  ·by_cases d1 : d = 1
   ·subst d1; simp; split <;> rfl
   ·by_cases d2 : d = 2
    ·subst d2; simp; split <;> rfl
    ·by_cases d3 : d = 3
     ·subst d3; simp
      split <;> rfl
     ·simp [d0, d1, d2, d3]
 ·rw [if_neg hc, if_neg (fun hh => hc (cellIn_iff.2 hh))]
theorem nbr_cases {w h c d : Int} (hn : 0 ≤ nbr w h c d) : (0 ≤ c ∧ c < nCells w h) ∧ ((d = 0 ∧ 0 < c / w ∧ nbr w h c d = c - w) ∨ (d = 1 ∧ c % w < w - 1 ∧ nbr w h c d = c + 1) ∨ (d = 2 ∧ c / w < h - 1 ∧ nbr w h c d = c + w) ∨ (d = 3 ∧ 0 < c % w ∧ nbr w h c d = c - 1)) := by
 unfold nbr at hn ⊢
 by_cases hc : 0 ≤ c ∧ c < nCells w h
 ·rw [if_pos hc] at hn ⊢
  refine ⟨hc, ?_⟩
  by_cases d0 : d = 0
  ·rw [if_pos d0] at hn ⊢
   by_cases z : 0 < c / w
   ·rw [if_pos z]; exact .inl ⟨d0, z, rfl⟩
   ·rw [if_neg z] at hn; omega
  ·rw [if_neg d0] at hn ⊢
   by_cases d1 : d = 1
   ·rw [if_pos d1] at hn ⊢
    by_cases z : c % w < w - 1
    ·rw [if_pos z]; exact .inr (.inl ⟨d1, z, rfl⟩)
    ·rw [if_neg z] at hn; omega
   ·rw [if_neg d1] at hn ⊢
    by_cases d2 : d = 2
    ·rw [if_pos d2] at hn ⊢
     by_cases z : c / w < h - 1
     ·rw [if_pos z]; exact .inr (.inr (.inl ⟨d2, z, rfl⟩))
     ·rw [if_neg z] at hn; omega
    ·rw [if_neg d2] at hn ⊢
     by_cases d3 : d = 3
     ·rw [if_pos d3] at hn ⊢
      by_cases z : 0 < c % w
      ·rw [if_pos z]; exact .inr (.inr (.inr ⟨d3, z, rfl⟩))
      ·rw [if_neg z] at hn; omega
     ·rw [if_neg d3] at hn; omega
 ·rw [if_neg hc] at hn; omega
theorem nbr_bd {w h c d : Int} (hn : 0 ≤ nbr w h c d) : nbr w h c d < nCells w h := by
 obtain ⟨⟨h0, h1⟩, hd⟩ := nbr_cases hn
 have hk := ok_of_cell h0 h1
 rw [nCells_ok hk] at h1 ⊢
 rcases gOk_cases hk with ⟨rfl | rfl | rfl | rfl, rfl | rfl | rfl | rfl⟩ <;> omega
def gapAt (w h c d : Int) : Int :=
 if nbr w h c d < 0 then -1 else if d = 1 ∨ d = 3 then mn c (nbr w h c d) / w * (w - 1) + mn c (nbr w h c d) % w else nEast w h + mn c (nbr w h c d)
theorem mn_bd {w h c d : Int} (hn : 0 ≤ nbr w h c d) : 0 ≤ mn c (nbr w h c d) ∧ mn c (nbr w h c d) < nCells w h := by
 have h1 := nbr_bd hn
 obtain ⟨⟨h2, h3⟩, _⟩ := nbr_cases hn
 unfold mn; split <;> omega
theorem gap_w64 {w h c d : Int} (hn : 0 ≤ nbr w h c d) :
  wrap64 ((wrap64 ((wrap64 (Int.tdiv (mn c (nbr w h c d)) w)) * (wrap64 (w - 1)))) + (Int.tmod (mn c (nbr w h c d)) w)) = mn c (nbr w h c d) / w * (w - 1) + mn c (nbr w h c d) % w ∧ wrap64 (nEast w h + mn c (nbr w h c d)) = nEast w h + mn c (nbr w h c d) ∧ w ≠ 0 ∧ wrap64 ((wrap64 (w - 1)) * h) = nEast w h := by
 obtain ⟨m0, m1⟩ := mn_bd hn
 generalize mn c (nbr w h c d) = m at m0 m1 ⊢
 have hk := ok_of_cell m0 m1
 have hw := gOk_iff.1 hk
 have hxy := cell_xy m0 m1
 have hb := nCells_bd w h
 obtain ⟨e1, e2⟩ := cell_w64 m0 m1
 have e3 : wrap64 (w - 1) = w - 1 := w64_id (by omega) (by omega)
 have p1 : 0 ≤ m / w * (w - 1) ∧ m / w * (w - 1) ≤ 16 := by
  have q0 : 0 ≤ m / w * (w - 1) := Int.mul_nonneg hxy.2.1.1 (by omega)
  have q1 : m / w * (w - 1) = m / w * w - m / w := by rw [Int.mul_sub, Int.mul_one]
  omega
 have p2 : 0 ≤ nEast w h ∧ nEast w h ≤ 12 := by
  unfold nEast
  rcases gOk_cases hk with ⟨rfl | rfl | rfl | rfl, rfl | rfl | rfl | rfl⟩ <;> decide
 rw [e1, e2, e3, w64_id (x := m / w * (w - 1)) (by omega) (by omega)]
 refine ⟨w64_id (by omega) (by omega), w64_id (by omega) (by omega), by omega, ?_⟩
 have : (w - 1) * h = nEast w h := rfl
 rw [this]; exact w64_id (by omega) (by omega)
theorem spec_GapAt_eq (k : Nat) (w h c d : Int) : spec_GapAt.f (k + 1) w h c d = some (gapAt w h c d) := by
 unfold spec_GapAt.f gapAt
 rw [spec_Neighbor_eq]; simp only [Option.bind_some]
 by_cases hn : nbr w h c d < 0
 ·rw [if_pos hn, if_pos hn]
 ·rw [if_neg hn, if_neg hn]
  obtain ⟨e1, e2, e3, e4⟩ := gap_w64 (w := w) (h := h) (c := c) (d := d) (by omega)
  obtain ⟨m0, m1⟩ := mn_bd (w := w) (h := h) (c := c) (d := d) (by omega)
  rw [if_neg e3, e1, l02East_eq (ok_of_cell m0 m1)]
  simp only [Option.bind_some]
  rw [e2]
  by_cases d1 : d = 1
  ·rw [if_pos d1, if_pos (.inl d1)]
  ·rw [if_neg d1]
   by_cases d3 : d = 3
   ·rw [if_pos d3, if_pos (.inr d3)]
   ·rw [if_neg d3, if_neg (by omega)]
theorem impl_GapAt_eq (k : Nat) (w h c d : Int) : impl_GapAt.f (k + 3) w h c d = some (gapAt w h c d) := by
 unfold impl_GapAt.f gapAt
 rw [impl_Neighbor_eq]; simp only [Option.bind_some]
 by_cases hn : nbr w h c d < 0
 ·rw [if_pos hn, if_pos hn]
 ·rw [if_neg hn, if_neg hn]
  obtain ⟨e1, e2, e3, e4⟩ := gap_w64 (w := w) (h := h) (c := c) (d := d) (by omega)
  rw [if_neg e3, e1, e4, e2]
  by_cases d1 : d = 1
  ·rw [if_pos d1, if_pos (.inl d1)]
  ·rw [if_neg d1]
   by_cases d3 : d = 3
   ·rw [if_pos d3, if_pos (.inr d3)]
   ·rw [if_neg d3, if_neg (by omega)]
theorem gapAt_nonneg {w h c d : Int} : 0 ≤ gapAt w h c d ↔ 0 ≤ nbr w h c d := by
 unfold gapAt
 by_cases hn : nbr w h c d < 0
 ·rw [if_pos hn]; omega
 ·rw [if_neg hn]
  have hn' : 0 ≤ nbr w h c d := by omega
  obtain ⟨m0, m1⟩ := mn_bd hn'
  have hk := ok_of_cell m0 m1
  have hw := gOk_iff.1 hk
  have hxy := cell_xy m0 m1
  have q0 : 0 ≤ mn c (nbr w h c d) / w * (w - 1) := Int.mul_nonneg hxy.2.1.1 (by omega)
  have q1 : 0 ≤ nEast w h := Int.mul_nonneg (by omega) (by omega)
  split <;> omega
theorem gapAt_bd {w h c d : Int} (hn : 0 ≤ nbr w h c d) : 0 ≤ gapAt w h c d ∧ gapAt w h c d < nGaps w h := by
 refine ⟨gapAt_nonneg.2 hn, ?_⟩
 obtain ⟨⟨h0, h1⟩, hd⟩ := nbr_cases hn
 have hk := ok_of_cell h0 h1
 unfold gapAt mn nEast
 rw [if_neg (by omega), nGaps_ok hk]
 rw [nCells_ok hk] at h1
 rcases hd with ⟨rfl, z, e⟩ | ⟨rfl, z, e⟩ | ⟨rfl, z, e⟩ | ⟨rfl, z, e⟩ <;> rw [e] <;> simp only [Int.reduceEq, or_false, or_true, false_or, or_self, if_true, if_false] <;>
  rcases gOk_cases hk with ⟨rfl | rfl | rfl | rfl, rfl | rfl | rfl | rfl⟩ <;> split <;> omega
theorem gapAt_in {w h c d : Int} : gapIn w h (gapAt w h c d) = decide (0 ≤ gapAt w h c d) := by
 rw [Bool.eq_iff_iff, gapIn_iff, decide_eq_true_eq]
 exact ⟨fun h => h.1, fun h => gapAt_bd (gapAt_nonneg.1 h)⟩
def stp (w h o c d : Int) : Int :=
 if mOk w h o = true then (if 0 ≤ gapAt w h c d ∧ bitAt o (gapAt w h c d) = true then nbr w h c d else -1) else -1
theorem gapAt_le {w h c d : Int} : gapAt w h c d ≤ 64 := by
 by_cases hn : 0 ≤ nbr w h c d
 ·have := gapAt_bd hn
  have := nGaps_bd w h
  omega
 ·have : ¬ 0 ≤ gapAt w h c d := fun hh => hn (gapAt_nonneg.1 hh)
  omega
theorem spec_Step_eq (k : Nat) (w h o c d : Int) : spec_Step.f (k + 1) w h o c d = some (stp w h o c d) := by
 unfold spec_Step.f stp
 simp only [spec_MazeOk_eq, spec_GapAt_eq, spec_Neighbor_eq, spec_IsPassage_eq, Option.bind_some]
 by_cases hm : mOk w h o = true
 ·rw [if_pos hm, if_pos hm]
  have e : isPas w h o (gapAt w h c d) = true ↔ (0 ≤ gapAt w h c d ∧ bitAt o (gapAt w h c d) = true) := by
   unfold isPas; rw [gapAt_in]; simp [hm]
  by_cases hp : isPas w h o (gapAt w h c d) = true
  ·rw [if_pos hp, if_pos (e.1 hp)]
  ·rw [if_neg hp, if_neg (fun hh => hp (e.2 hh))]
 ·rw [if_neg hm, if_neg hm]
theorem impl_Step_eq (k : Nat) (w h o c d : Int) : impl_Step.f (k + 3) w h o c d = some (stp w h o c d) := by
 unfold impl_Step.f stp
 simp only [impl_MazeOk_eq, impl_GapAt_eq, impl_Neighbor_eq, Option.bind_some]
 by_cases hm : mOk w h o = true
 ·rw [if_pos hm, if_pos hm, isOpen_eq hm gapAt_le]
  simp only [Option.bind_some, Bool.and_eq_true, decide_eq_true_eq]
  split <;> rfl
 ·rw [if_neg hm, if_neg hm]
theorem stp_bd {w h o c d : Int} (hs : 0 ≤ stp w h o c d) : mOk w h o = true ∧ (0 ≤ c ∧ c < nCells w h) ∧ (0 ≤ d ∧ d ≤ 3) ∧ stp w h o c d < nCells w h ∧ stp w h o c d = nbr w h c d := by
 unfold stp at hs ⊢
 by_cases hm : mOk w h o = true
 ·rw [if_pos hm] at hs ⊢
  by_cases hp : 0 ≤ gapAt w h c d ∧ bitAt o (gapAt w h c d) = true
  ·rw [if_pos hp] at hs ⊢
   obtain ⟨h1, h2⟩ := nbr_cases hs
   exact ⟨hm, h1, by omega, nbr_bd hs, rfl⟩
  ·rw [if_neg hp] at hs; omega
 ·rw [if_neg hm] at hs; omega
def waysL (w h o c : Int) : List Int := [0, 1, 2, 3].filter fun d => decide (0 ≤ stp w h o c d)
theorem impl_WaysFrom_eq (k : Nat) (w h o c : Int) : impl_WaysFrom.f (k + 8) w h o c = some (waysL w h o c) := by
 unfold impl_WaysFrom.f waysL
 simp only [impl_WaysFrom.l0, impl_Step_eq, Option.bind_some, show wrap64 (0 + 1) = 1 from by decide +kernel, show wrap64 (1 + 1) = 2 from by decide +kernel, show wrap64 (2 + 1) = 3 from by decide +kernel, show wrap64 (3 + 1) = 4 from by decide +kernel]
 by_cases h0 : 0 ≤ stp w h o c 0 <;> by_cases h1 : 0 ≤ stp w h o c 1 <;> by_cases h2 : 0 ≤ stp w h o c 2 <;> by_cases h3 : 0 ≤ stp w h o c 3 <;> simp [h0, h1, h2, h3, List.filter]
theorem ok_of_gap {w h g : Int} (hg : gapIn w h g = true) : gOk w h = true := by
 have h1 := gapIn_iff.1 hg
 by_cases hk : gOk w h = true
 ·exact hk
 ·have := h1.2; unfold nGaps at this; rw [if_neg hk] at this; omega
theorem ends_bd {w h g : Int} (hg : gapIn w h g = true) : 0 ≤ (ends w h g).1 ∧ (ends w h g).1 < (ends w h g).2 ∧ (ends w h g).2 < nCells w h ∧ (g < nEast w h → (ends w h g).2 = (ends w h g).1 + 1) ∧ (¬ g < nEast w h → (ends w h g).2 = (ends w h g).1 + w) := by
 have hk := ok_of_gap hg
 have h1 := gapIn_iff.1 hg
 rw [nGaps_ok hk] at h1
 rw [nCells_ok hk]
 unfold ends
 by_cases he : g < nEast w h
 ·simp only [hg, he, ↓reduceIte, not_true_eq_false, false_imp_iff, and_true, true_imp_iff]
  unfold nEast at he
  rcases gOk_cases hk with ⟨rfl | rfl | rfl | rfl, rfl | rfl | rfl | rfl⟩ <;> omega
 ·simp only [hg, he, ↓reduceIte, not_false_eq_true, false_imp_iff, and_true, true_imp_iff, true_and]
  unfold nEast at he ⊢
  rcases gOk_cases hk with ⟨rfl | rfl | rfl | rfl, rfl | rfl | rfl | rfl⟩ <;> omega
def setG (o g : Int) (b : Bool) : Int := if bitAt o g = b then o else ((o.toNat ^^^ 2 ^ g.toNat : Nat) : Int)
theorem two_pow_le {g : Int} (h1 : g ≤ 24) : 2 ^ g.toNat ≤ 16777216 := by
 have := Nat.pow_le_pow_right (n := 2) (by omega) (show g.toNat ≤ 24 by omega)
 omega
theorem shl_nat {g : Int} (h0 : 0 ≤ g) (h1 : g ≤ 24) : shl .i64 1 g = ((2 ^ g.toNat : Nat) : Int) := by
 rw [shl_one h0 (by omega)]; simp
theorem xor_setG {o g : Int} (ho : 0 ≤ o) (ho2 : o < 16777216) (h0 : 0 ≤ g) (h1 : g ≤ 24) : Go.bits .xor .i64 o (shl .i64 1 g) = ((o.toNat ^^^ 2 ^ g.toNat : Nat) : Int) := by
 have := two_pow_le h1
 rw [shl_nat h0 h1]
 obtain ⟨n, rfl⟩ := Int.eq_ofNat_of_zero_le ho
 rw [bits_xor_nat (by omega) (by omega)]; simp
theorem clear_setG {o g : Int} (ho : 0 ≤ o) (ho2 : o < 16777216) (h0 : 0 ≤ g) (h1 : g ≤ 24) : Go.bits .andNot .i64 o (shl .i64 1 g) = setG o g false := by
 have h2 := two_pow_le h1
 rw [shl_nat h0 h1]
 obtain ⟨n, rfl⟩ := Int.eq_ofNat_of_zero_le ho
 obtain ⟨z, e, _, hz⟩ := bits_andNot_nat (x := n) (y := 2 ^ g.toNat) (by omega) (by omega)
 rw [e]; unfold setG bitAt
 simp only [Int.toNat_natCast]
 by_cases hb : n.testBit g.toNat = false
 ·rw [if_pos hb]
  congr 1
  apply Nat.eq_of_testBit_eq
  intro i
  rw [hz, Nat.testBit_two_pow]
  by_cases e2 : g.toNat = i
  ·subst e2; simp [hb]
  ·simp [e2]
 ·rw [if_neg hb]
  congr 1
  apply Nat.eq_of_testBit_eq
  intro i
  rw [hz, Nat.testBit_two_pow, Nat.testBit_xor, Nat.testBit_two_pow]
  by_cases e2 : g.toNat = i
  ·subst e2; simp at hb; simp [hb]
  ·simp [e2]
theorem open_setG {o g : Int} (ho : 0 ≤ o) (ho2 : o < 16777216) (h0 : 0 ≤ g) (h1 : g ≤ 24) : Go.bits .or .i64 (Go.bits .andNot .i64 o (shl .i64 1 g)) (shl .i64 1 g) = setG o g true := by
 have h2 := two_pow_le h1
 rw [shl_nat h0 h1]
 obtain ⟨n, rfl⟩ := Int.eq_ofNat_of_zero_le ho
 obtain ⟨z, e, hle, hz⟩ := bits_andNot_nat (x := n) (y := 2 ^ g.toNat) (by omega) (by omega)
 rw [e, bits_or_nat (by omega) (by omega)]; unfold setG bitAt
 simp only [Int.toNat_natCast]
 by_cases hb : n.testBit g.toNat = true
 ·rw [if_pos hb]
  congr 1
  apply Nat.eq_of_testBit_eq
  intro i
  rw [Nat.testBit_or, hz, Nat.testBit_two_pow]
  by_cases e2 : g.toNat = i
  ·subst e2; simp [hb]
  ·simp [e2]
 ·rw [if_neg hb]
  congr 1
  apply Nat.eq_of_testBit_eq
  intro i
  rw [Nat.testBit_or, hz, Nat.testBit_two_pow, Nat.testBit_xor, Nat.testBit_two_pow]
  by_cases e2 : g.toNat = i
  ·subst e2; simp at hb; simp [hb]
  ·simp [e2]
def setM (w h o g : Int) (b : Bool) : Int × Int × Int × Bool := if mOk w h o = true ∧ gapIn w h g = true then (w, h, setG o g b, true) else (w, h, o, false)
theorem impl_with_eq {w h o g : Int} {b : Bool} (hm : mOk w h o = true) (hg : gapIn w h g = true) : impl_with.f w h o g b = some (w, h, setG o g b) := by
 unfold impl_with.f
 have hb := mOk_bd hm
 have hg2 := gapIn_iff.1 hg
 have hn := nGaps_bd w h
 rw [if_pos hg2.1]
 cases b with
 | true => rw [if_pos rfl, open_setG hb.1 hb.2 hg2.1 (by omega)]
 | false => rw [if_neg (by decide), clear_setG hb.1 hb.2 hg2.1 (by omega)]
theorem spec_SetGap_eq (k : Nat) (w h o g : Int) (b : Bool) : spec_SetGap.f (k + 1) w h o g b = some (setM w h o g b) := by
 unfold spec_SetGap.f setM
 simp only [spec_MazeOk_eq, spec_CountGaps_eq, l01In_eq, Option.bind_some, gapIn_spec, spec_SetGap.j0]
 by_cases hm : mOk w h o = true
 ·rw [if_pos hm]
  by_cases hg : gapIn w h g = true
  ·have hb := mOk_bd hm
   have hg2 := gapIn_iff.1 hg
   have hn := nGaps_bd w h
   rw [if_neg (by simp [hg]), if_pos (show mOk w h o = true ∧ gapIn w h g = true from ⟨hm, hg⟩), l03Bit_eq hb.1 (by omega) hg2.1 (by omega)]
   simp only [Option.bind_some]
   unfold setG
   by_cases hc : bitAt o g = b
   ·rw [if_neg (by simp [hc]), if_pos hc]
   ·rw [if_pos (by simpa using hc), if_neg hc, if_pos hg2.1, xor_setG hb.1 hb.2 hg2.1 (by omega)]
  ·rw [if_pos (by simp [hg]), if_neg (show ¬ (mOk w h o = true ∧ gapIn w h g = true) from fun hh => hg hh.2)]
 ·rw [if_neg hm, if_neg (show ¬ (mOk w h o = true ∧ gapIn w h g = true) from fun hh => hm hh.1), if_pos trivial]
theorem eqIntS_tot (l : List Int) (hl : l.length ≤ 1000000000000) (d : Nat) : ∀ (k : Nat) (i : Int), 0 ≤ i → (l.length : Int) - i ≤ d → d < k → laws_eqIntS.l0 k l l i = some true := by
 induction d with
 | zero =>
  intro k i h0 hd hk
  obtain ⟨k, rfl⟩ : ∃ m, k = m + 1 := ⟨k - 1, by omega⟩
  simp only [laws_eqIntS.l0]; rw [if_neg (by omega)]
 | succ d ih =>
  intro k i h0 hd hk
  obtain ⟨k, rfl⟩ : ∃ m, k = m + 1 := ⟨k - 1, by omega⟩
  simp only [laws_eqIntS.l0]
  by_cases h1 : i < (l.length : Int)
  ·rw [if_pos h1, if_pos h0, if_pos h1, if_pos trivial, w64_id (x := i + 1) (by omega) (by omega)]
   exact ih _ _ (by omega) (by omega) (by omega)
  ·rw [if_neg h1]
theorem eqIntS_self (l : List Int) (hl : l.length ≤ 1000000000000) (k : Nat) (hk : l.length < k) : laws_eqIntS.f k l l = some true := by
 unfold laws_eqIntS.f
 rw [if_pos rfl]
 exact eqIntS_tot l hl l.length k 0 (by omega) (by omega) hk
theorem waysL_len (w h o c : Int) : (waysL w h o c).length ≤ 4 := by
 unfold waysL
 exact Nat.le_trans (List.length_filter_le _ _) (by decide)
def pcN (o : Nat) : Nat → Nat
 | 0 => 0
 | n + 1 => pcN o n + (if o.testBit n then 1 else 0)
theorem pcN_le (o n : Nat) : pcN o n ≤ n := by
 induction n with
 | zero => simp [pcN]
 | succ n ih => simp only [pcN]; split <;> omega
theorem tb_hi (b t i : Nat) (hb : b < 256) : (256 * t + b).testBit i = if i < 8 then b.testBit i else t.testBit (i - 8) := by
 have := Nat.testBit_two_pow_mul_add t (i := 8) (show b < 2 ^ 8 by omega) i
 simpa using this
theorem and_byte (b t m M : Nat) (hb : b < 256) (hm : m < 256) : (256 * t + b) &&& (256 * M + m) = 256 * (t &&& M) + (b &&& m) := by
 have hbm : b &&& m < 256 := Nat.lt_of_le_of_lt Nat.and_le_left hb
 apply Nat.eq_of_testBit_eq
 intro i
 rw [Nat.testBit_and, tb_hi b t i hb, tb_hi m M i hm, tb_hi (b &&& m) (t &&& M) i hbm, Nat.testBit_and, Nat.testBit_and]
 split <;> rfl
theorem and_three (b0 b1 b2 m M : Nat) (h0 : b0 < 256) (h1 : b1 < 256) (hm : m < 256) : (256 * (256 * b2 + b1) + b0) &&& (256 * (256 * (256 * M + m) + m) + m) = 256 * (256 * (b2 &&& (256 * M + m)) + (b1 &&& m)) + (b0 &&& m) := by
 rw [and_byte _ _ _ _ h0 hm, and_byte _ _ _ _ h1 hm]
theorem and_top (b m M : Nat) (h : b < 256) (hm : m < 256) : b &&& (256 * M + m) = b &&& m := by
 have := and_byte b 0 m M h hm
 simpa using this
theorem pc_byte (b t n : Nat) (hb : b < 256) : pcN (256 * t + b) (8 + n) = pcN b 8 + pcN t n := by
 induction n with
 | zero =>
  simp only [pcN, Nat.add_zero, tb_hi b t _ hb]
  simp
 | succ n ih =>
  rw [show 8 + (n + 1) = (8 + n) + 1 by omega]
  rw [show pcN (256 * t + b) (8 + n + 1) = pcN (256 * t + b) (8 + n) + (if (256 * t + b).testBit (8 + n) then 1 else 0) from rfl, show pcN t (n + 1) = pcN t n + (if t.testBit n then 1 else 0) from rfl, ih, tb_hi b t _ hb, if_neg (show ¬ 8 + n < 8 by omega), show 8 + n - 8 = n by omega]
  omega
def stA (b : Nat) : Nat := (b / 2 &&& 85) + (b &&& 85)
def stB (b : Nat) : Nat := (b / 4 &&& 51) + (b &&& 51)
theorem st_all : (∀ b : Fin 256, ∀ e : Fin 2, ((b.val / 2 + 128 * e.val) &&& 85) = (b.val / 2 &&& 85)) ∧ (∀ b : Fin 256, ∀ e : Fin 4, ((b.val / 4 + 64 * e.val) &&& 51) = (b.val / 4 &&& 51)) ∧ (∀ b : Fin 256, stA b.val < 256 ∧ stB (stA b.val) ≤ 68 ∧ stB (stA b.val) % 16 ≤ 4 ∧ stB (stA b.val) / 16 + stB (stA b.val) % 16 = pcN b.val 8) := by decide +kernel
theorem stage1 (b0 b1 b2 : Nat) (h0 : b0 < 256) (h1 : b1 < 256) (h2 : b2 < 256) : ((256 * (256 * b2 + b1) + b0) / 2 &&& 6148914691236517205) + ((256 * (256 * b2 + b1) + b0) &&& 6148914691236517205) = 256 * (256 * stA b2 + stA b1) + stA b0 := by
 have s := st_all.1
 have e0 := s ⟨b0, h0⟩ ⟨b1 % 2, by omega⟩
 have e1 := s ⟨b1, h1⟩ ⟨b2 % 2, by omega⟩
 simp only at e0 e1
 rw [show (256 * (256 * b2 + b1) + b0) / 2 = 256 * (256 * (b2 / 2) + (b1 / 2 + 128 * (b2 % 2))) + (b0 / 2 + 128 * (b1 % 2)) by omega, show 6148914691236517205 = 256 * (256 * (256 * 366503875925 + 85) + 85) + 85 by rfl,
  and_three _ _ _ _ _ (by omega) (by omega) (by omega), and_three _ _ _ _ _ h0 h1 (by omega), and_top _ _ _ (by omega) (by omega), and_top _ _ _ h2 (by omega), e0, e1]
 unfold stA
 omega
theorem stage2 (b0 b1 b2 : Nat) (h0 : b0 < 256) (h1 : b1 < 256) (h2 : b2 < 256) : ((256 * (256 * b2 + b1) + b0) / 4 &&& 3689348814741910323) + ((256 * (256 * b2 + b1) + b0) &&& 3689348814741910323) = 256 * (256 * stB b2 + stB b1) + stB b0 := by
 have s := st_all.2.1
 have e0 := s ⟨b0, h0⟩ ⟨b1 % 4, by omega⟩
 have e1 := s ⟨b1, h1⟩ ⟨b2 % 4, by omega⟩
 simp only at e0 e1
 rw [show (256 * (256 * b2 + b1) + b0) / 4 = 256 * (256 * (b2 / 4) + (b1 / 4 + 64 * (b2 % 4))) + (b0 / 4 + 64 * (b1 % 4)) by omega, show 3689348814741910323 = 256 * (256 * (256 * 219902325555 + 51) + 51) + 51 by rfl,
  and_three _ _ _ _ _ (by omega) (by omega) (by omega), and_three _ _ _ _ _ h0 h1 (by omega), and_top _ _ _ (by omega) (by omega), and_top _ _ _ h2 (by omega), e0, e1]
 unfold stB
 omega
theorem stage3 (c0 c1 c2 : Nat) (h0 : c0 ≤ 68) (h1 : c1 ≤ 68) (h2 : c2 ≤ 68) (g0 : c0 % 16 ≤ 4) (g1 : c1 % 16 ≤ 4) (g2 : c2 % 16 ≤ 4) : ((256 * (256 * c2 + c1) + c0) / 16 + (256 * (256 * c2 + c1) + c0)) &&& 1085102592571150095 = 256 * (256 * (c2 / 16 + c2 % 16) + (c1 / 16 + c1 % 16)) + (c0 / 16 + c0 % 16) := by
 rw [show (256 * (256 * c2 + c1) + c0) / 16 + (256 * (256 * c2 + c1) + c0) = 256 * (256 * (c2 / 16 + c2) + (c1 / 16 + 16 * (c2 % 16) + c1)) + (c0 / 16 + 16 * (c1 % 16) + c0) by omega, show 1085102592571150095 = 256 * (256 * (256 * 64677154575 + 15) + 15) + 15 by rfl,
  and_three _ _ _ _ _ (by omega) (by omega) (by omega), and_top _ _ _ (by omega) (by omega)]
 have a15 : ∀ x : Nat, x &&& 15 = x % 16 := fun x => Nat.and_two_pow_sub_one_eq_mod x 4
 have z0 : (c0 / 16 + 16 * (c1 % 16) + c0) % 16 = c0 / 16 + c0 % 16 := by omega
 have z1 : (c1 / 16 + 16 * (c2 % 16) + c1) % 16 = c1 / 16 + c1 % 16 := by omega
 have z2 : (c2 / 16 + c2) % 16 = c2 / 16 + c2 % 16 := by omega
 rw [a15, a15, a15, z0, z1, z2]
def pop64 (x : Nat) : Nat :=
 let y1 := (x / 2 &&& 6148914691236517205) + (x &&& 6148914691236517205)
 let y2 := (y1 / 4 &&& 3689348814741910323) + (y1 &&& 3689348814741910323)
 let y3 := (y2 / 16 + y2) &&& 1085102592571150095
 let y4 := y3 + y3 / 256
 let y5 := y4 + y4 / 65536
 (y5 + y5 / 4294967296) &&& 127
theorem pop64_eq (x : Nat) (hx : x < 16777216) : pop64 x = pcN x 24 ∧ (x / 2 &&& 6148914691236517205) + (x &&& 6148914691236517205) < 16777216 ∧ (((x / 2 &&& 6148914691236517205) + (x &&& 6148914691236517205)) / 4 &&& 3689348814741910323) + (((x / 2 &&& 6148914691236517205) + (x &&& 6148914691236517205)) &&& 3689348814741910323) < 16777216 := by
 obtain ⟨b0, b1, b2, rfl, h0, h1, h2⟩ : ∃ b0 b1 b2 : Nat, x = 256 * (256 * b2 + b1) + b0 ∧ b0 < 256 ∧ b1 < 256 ∧ b2 < 256 := ⟨x % 256, x / 256 % 256, x / 65536, by omega, by omega, by omega, by omega⟩
 obtain ⟨p0, p1, p2, p3⟩ := st_all.2.2 ⟨b0, h0⟩
 obtain ⟨q0, q1, q2, q3⟩ := st_all.2.2 ⟨b1, h1⟩
 obtain ⟨r0, r1, r2, r3⟩ := st_all.2.2 ⟨b2, h2⟩
 simp only at p0 p1 p2 p3 q0 q1 q2 q3 r0 r1 r2 r3
 have e1 := stage1 b0 b1 b2 h0 h1 h2
 have e2 := stage2 _ _ _ p0 q0 r0
 have e3 := stage3 _ _ _ p1 q1 r1 p2 q2 r2
 have l0 := pcN_le b0 8
 have l1 := pcN_le b1 8
 have l2 := pcN_le b2 8
 have hp : pcN (256 * (256 * b2 + b1) + b0) 24 = pcN b0 8 + (pcN b1 8 + pcN b2 8) := by
  have z1 := pc_byte b0 (256 * b2 + b1) 16 h0
  have z2 := pc_byte b1 b2 8 h1
  rw [z2] at z1; exact z1
 refine ⟨?_, ?_, ?_⟩
 ·unfold pop64
  simp only []
  rw [e1, e2, e3, p3, q3, r3, hp, show (127 : Nat) = 2 ^ 7 - 1 by rfl, Nat.and_two_pow_sub_one_eq_mod]
  clear hp e1 e2 e3 p0 p1 p2 p3 q0 q1 q2 q3 r0 r1 r2 r3
  generalize pcN b0 8 = x0 at l0 ⊢
  generalize pcN b1 8 = x1 at l1 ⊢
  generalize pcN b2 8 = x2 at l2 ⊢
  have f1 : (256 * (256 * x2 + x1) + x0) / 256 = 256 * x2 + x1 := by omega
  rw [f1]
  have f2 : (256 * (256 * x2 + x1) + x0 + (256 * x2 + x1)) / 65536 = x2 := by omega
  rw [f2]
  have f3 : (256 * (256 * x2 + x1) + x0 + (256 * x2 + x1) + x2) / 4294967296 = 0 := by omega
  rw [f3]
  omega
 ·rw [e1]; omega
 ·rw [e1, e2]; omega
theorem u64_wrap {x : Int} (h0 : 0 ≤ x) (h1 : x < 18446744073709551616) : IntKind.u64.wrap x = x := by
 unfold IntKind.wrap
 simp only [IntKind.bits, IntKind.signed, Bool.false_and, Bool.false_eq_true, if_false]
 exact Int.emod_eq_of_lt h0 (by simpa using h1)
theorem u64_add (x y : Nat) (h : x + y < 18446744073709551616) : IntKind.u64.wrap ((x : Int) + (y : Int)) = ((x + y : Nat) : Int) := by
 rw [u64_wrap (by omega) (by omega)]; simp
theorem and_u64 (x y : Nat) (hx : x < 18446744073709551616) (hy : y < 18446744073709551616) : Go.bits .and .u64 (x : Int) (y : Int) = ((x &&& y : Nat) : Int) := by
 show IntKind.u64.wrap (((BitVec.ofInt 64 (x : Int)) &&& (BitVec.ofInt 64 (y : Int))).toNat : Int) = _
 rw [ofInt_nat, ofInt_nat]
 simp only [BitVec.toNat_and, BitVec.toNat_ofNat]
 rw [Nat.mod_eq_of_lt (by omega), Nat.mod_eq_of_lt (by omega)]
 have := Nat.and_le_left (n := x) (m := y)
 exact u64_wrap (by omega) (by omega)
theorem y3_bd (y : Nat) (hy : y < 16777216) : (y / 16 + y) &&& 1085102592571150095 < 33554432 := by
 have := Nat.and_le_left (n := y / 16 + y) (m := 1085102592571150095)
 omega
theorem OnesCount64_eq (x : Nat) (hx : x < 16777216) : bits_OnesCount64.f (x : Int) = some ((pcN x 24 : Nat) : Int) := by
 obtain ⟨e, l1, l2⟩ := pop64_eq x hx
 have a1 : IntKind.u64.wrap ((Go.bits .and .u64 ((x : Int) / 2) 6148914691236517205) + (Go.bits .and .u64 (x : Int) 6148914691236517205)) = (((x / 2 &&& 6148914691236517205) + (x &&& 6148914691236517205) : Nat) : Int) := by
  rw [show ((x : Int) / 2) = ((x / 2 : Nat) : Int) by omega, show (6148914691236517205 : Int) = ((6148914691236517205 : Nat) : Int) from rfl, and_u64 _ _ (by omega) (by omega), and_u64 _ _ (by omega) (by omega), u64_add _ _ (by omega)]
 unfold bits_OnesCount64.f
 rw [a1]
 generalize hy1 : (x / 2 &&& 6148914691236517205) + (x &&& 6148914691236517205) = y1 at l1 l2 e ⊢
 have a2 : IntKind.u64.wrap ((Go.bits .and .u64 ((y1 : Int) / 4) 3689348814741910323) + (Go.bits .and .u64 (y1 : Int) 3689348814741910323)) = (((y1 / 4 &&& 3689348814741910323) + (y1 &&& 3689348814741910323) : Nat) : Int) := by
  rw [show ((y1 : Int) / 4) = ((y1 / 4 : Nat) : Int) by omega, show (3689348814741910323 : Int) = ((3689348814741910323 : Nat) : Int) from rfl, and_u64 _ _ (by omega) (by omega), and_u64 _ _ (by omega) (by omega), u64_add _ _ (by omega)]
 rw [a2]
 generalize hy2 : (y1 / 4 &&& 3689348814741910323) + (y1 &&& 3689348814741910323) = y2 at l2 e ⊢
 have a3 : Go.bits .and .u64 (IntKind.u64.wrap (((y2 : Int) / 16) + (y2 : Int))) 1085102592571150095 = (((y2 / 16 + y2) &&& 1085102592571150095 : Nat) : Int) := by
  rw [show ((y2 : Int) / 16) = ((y2 / 16 : Nat) : Int) by omega, u64_add _ _ (by omega), show (1085102592571150095 : Int) = ((1085102592571150095 : Nat) : Int) from rfl, and_u64 _ _ (by omega) (by omega)]
 rw [a3]
 have b3 := y3_bd y2 l2
 generalize hy3 : (y2 / 16 + y2) &&& 1085102592571150095 = y3 at b3 e ⊢
 have a4 : IntKind.u64.wrap ((y3 : Int) + ((y3 : Int) / 256)) = ((y3 + y3 / 256 : Nat) : Int) := by
  rw [show ((y3 : Int) / 256) = ((y3 / 256 : Nat) : Int) by omega, u64_add _ _ (by omega)]
 rw [a4]
 have b4 : y3 + y3 / 256 < 67108864 := by omega
 generalize hy4 : y3 + y3 / 256 = y4 at b4 e ⊢
 have a5 : IntKind.u64.wrap ((y4 : Int) + ((y4 : Int) / 65536)) = ((y4 + y4 / 65536 : Nat) : Int) := by
  rw [show ((y4 : Int) / 65536) = ((y4 / 65536 : Nat) : Int) by omega, u64_add _ _ (by omega)]
 rw [a5]
 have b5 : y4 + y4 / 65536 < 134217728 := by omega
 generalize hy5 : y4 + y4 / 65536 = y5 at b5 e ⊢
 have a6 : IntKind.u64.wrap ((y5 : Int) + ((y5 : Int) / 4294967296)) = ((y5 + y5 / 4294967296 : Nat) : Int) := by
  rw [show ((y5 : Int) / 4294967296) = ((y5 / 4294967296 : Nat) : Int) by omega, u64_add _ _ (by omega)]
 rw [a6, w64_id (by omega) (by omega), show (127 : Int) = ((127 : Nat) : Int) from rfl, bits_and_nat (by omega) (by omega), ← e]
 unfold pop64
 simp only [hy1, hy2, hy3, hy4, hy5]
def pcnt (w h o : Int) : Int := if mOk w h o = true then ((pcN o.toNat (nGaps w h).toNat : Nat) : Int) else 0
theorem pcN_top (x n m : Nat) (hx : x < 2 ^ n) (hn : n ≤ m) : pcN x m = pcN x n := by
 induction m with
 | zero =>
  obtain rfl : n = 0 := by omega
  rfl
 | succ m ih =>
  by_cases e : n = m + 1
  ·rw [e]
  ·have hm : n ≤ m := by omega
   have : x.testBit m = false := Nat.testBit_lt_two_pow (Nat.lt_of_lt_of_le hx (Nat.pow_le_pow_right (by omega) hm))
   simp only [pcN, this]
   rw [ih hm]; simp
theorem open_nat {w h o : Int} (hm : mOk w h o = true) : o.toNat < 2 ^ (nGaps w h).toNat ∧ o.toNat < 16777216 ∧ ((o.toNat : Nat) : Int) = o := by
 obtain ⟨_, h0, h1⟩ := mOk_iff.1 hm
 have hb := mOk_bd hm
 have : ((o.toNat : Nat) : Int) < ((2 ^ (nGaps w h).toNat : Nat) : Int) := by rw [Int.toNat_of_nonneg h0]; simpa using h1
 exact ⟨by exact_mod_cast this, by omega, by omega⟩
theorem impl_CountPassages_eq (w h o : Int) : impl_CountPassages.f w h o = some (pcnt w h o) := by
 unfold impl_CountPassages.f pcnt
 rw [impl_MazeOk_eq]; simp only [Option.bind_some]
 by_cases hm : mOk w h o = true
 ·obtain ⟨o1, o2, o3⟩ := open_nat hm
  have hn := nGaps_bd w h
  rw [if_pos hm, if_pos hm, u64_wrap (by omega) (by omega)]
  unfold bits_OnesCount.f
  rw [← o3, OnesCount64_eq _ o2]
  simp only [Option.bind_some, Int.toNat_natCast]
  rw [pcN_top _ _ 24 o1 (by omega)]
 ·rw [if_neg hm, if_neg hm]
theorem spec_CP_loop {w h o : Int} (hm : mOk w h o = true) (d : Nat) : ∀ (k : Nat) (i : Nat), (i : Int) ≤ nGaps w h → (nGaps w h).toNat - i ≤ d → 2 * d + 1 < k → spec_CountPassages.l0 k ((pcN o.toNat i : Nat) : Int) i w h o = some ((pcN o.toNat (nGaps w h).toNat : Nat) : Int) := by
 have hb := mOk_bd hm
 have hn := nGaps_bd w h
 induction d with
 | zero =>
  intro k i hi hd hk
  obtain ⟨k, rfl⟩ : ∃ m, k = m + 1 + 1 := ⟨k - 2, by omega⟩
  simp only [spec_CountPassages.l0, spec_CountPassages.j1, spec_CountGaps_eq, Option.bind_some]
  rw [if_neg (by omega), if_neg (by decide), show (nGaps w h).toNat = i by omega]
 | succ d ih =>
  intro k i hi hd hk
  obtain ⟨k, rfl⟩ : ∃ m, k = m + 1 + 1 := ⟨k - 2, by omega⟩
  have hp := pcN_le o.toNat i
  simp only [spec_CountPassages.l0, spec_CountPassages.j1, spec_CountGaps_eq, spec_MazeOk_eq, Option.bind_some]
  by_cases z : (i : Int) < nGaps w h
  ·rw [if_pos z, if_pos hm, l03Bit_eq hb.1 (by omega) (by omega) (by omega), w64_id (x := (i : Int) + 1) (by omega) (by omega), w64_id (by omega) (by omega)]
   simp only [Option.bind_some]
   have hgo := ih k (i + 1) (by omega) (by omega) (by omega)
   simp only [pcN] at hgo
   unfold bitAt
   rw [Int.toNat_natCast]
   by_cases hbit : o.toNat.testBit i = true
   ·rw [if_pos hbit] at hgo ⊢; simpa using hgo
   ·rw [if_neg hbit] at hgo ⊢; simpa using hgo
  ·rw [if_neg z, if_neg (by decide), show (nGaps w h).toNat = i by omega]
theorem spec_CountPassages_eq (k : Nat) (w h o : Int) : spec_CountPassages.f (k + 60) w h o = some (pcnt w h o) := by
 unfold spec_CountPassages.f pcnt
 have hn := nGaps_bd w h
 by_cases hm : mOk w h o = true
 ·rw [if_pos hm]
  exact spec_CP_loop hm (nGaps w h).toNat (k + 60) 0 (by omega) (by omega) (by omega)
 ·rw [if_neg hm]
  obtain ⟨m, hmm⟩ : ∃ m, m = k + 58 := ⟨_, rfl⟩
  rw [show k + 60 = m + 1 + 1 by omega]
  simp only [spec_CountPassages.l0, spec_CountPassages.j1, spec_CountGaps_eq, spec_MazeOk_eq, Option.bind_some]
  rw [Bool.eq_false_iff.2 hm]
  split <;> simp
theorem rd_mem (l : List Int) (i : Nat) (h1 : i < l.length) : rd l i = l[i] := by
 unfold rd; simp [List.getD_eq_getElem?_getD, h1]
theorem toIntS_tot (l : List Int) (hl : l.length ≤ 1000000000000) (d : Nat) : ∀ (k : Nat) (i : Nat), l.length - i ≤ d → d < k → i ≤ l.length → laws_toIntS.l0 k l (l.take i ++ List.replicate (l.length - i) 0) i = some l := by
 induction d with
 | zero =>
  intro k i hd hk hi
  obtain ⟨k, rfl⟩ : ∃ m, k = m + 1 := ⟨k - 1, by omega⟩
  obtain rfl : i = l.length := by omega
  simp only [laws_toIntS.l0]; rw [if_neg (by omega)]; simp
 | succ d ih =>
  intro k i hd hk hi
  obtain ⟨k, rfl⟩ : ∃ m, k = m + 1 := ⟨k - 1, by omega⟩
  simp only [laws_toIntS.l0]
  by_cases h1 : (i : Int) < (l.length : Int)
  ·have hi' : i < l.length := by omega
   rw [if_pos h1, if_pos (by omega), if_pos (by simp; omega), w64_id (x := (i : Int) + 1) (by omega) (by omega), rd_mem l i hi']
   have := ih k (i + 1) (by omega) (by omega) (by omega)
   have e : (l.take i ++ List.replicate (l.length - i) 0).set (i : Int).toNat l[i] = l.take (i + 1) ++ List.replicate (l.length - (i + 1)) 0 := by
    rw [show l.length - i = (l.length - (i + 1)) + 1 by omega, List.replicate_succ]
    have e3 : (l.take i ++ (0 : Int) :: List.replicate (l.length - (i + 1)) 0).set (i : Int).toNat l[i] = l.take i ++ l[i] :: List.replicate (l.length - (i + 1)) 0 := by
     simp [List.set_append, Nat.min_eq_left hi]
    rw [e3, List.take_succ_eq_append_getElem hi', List.append_assoc]; rfl
   rw [e]; simpa using this
  ·rw [if_neg h1]
   obtain rfl : i = l.length := by omega
   simp
theorem toIntS_eq (l : List Int) (hl : l.length ≤ 1000000000000) (k : Nat) (hk : l.length < k) : laws_toIntS.f k l = some l := by
 unfold laws_toIntS.f
 rw [if_pos (by omega), if_pos (by simp; omega)]
 have := toIntS_tot l hl l.length k 0 (by omega) hk (by omega)
 simpa using this
def bfs1 (w h o c : Int) (s : List Int × List Int) (d : Int) : List Int × List Int :=
 if 0 ≤ stp w h o c d ∧ rd s.1 (stp w h o c d) < 0 then (s.1.set (stp w h o c d).toNat (rd s.1 c + 1), s.2 ++ [stp w h o c d]) else s
def bfsCell (w h o c : Int) (s : List Int × List Int) : List Int × List Int := [0, 1, 2, 3].foldl (bfs1 w h o c) s
def bfsRun (w h o : Int) : Nat → Int → List Int × List Int → List Int
 | 0, _, s => s.1
 | n + 1, i, s => if i < (s.2.length : Int) then bfsRun w h o n (i + 1) (bfsCell w h o (rd s.2 i) s) else s.1
def distL (w h o c : Int) : List Int := bfsRun w h o 17 0 ((List.replicate (nCells w h).toNat (-1)).set c.toNat 0, [c])
def negs (D : List Int) : Nat := (D.filter fun x => decide (x < 0)).length
theorem negs_set (D : List Int) (v : Int) (hv : 0 ≤ v) : ∀ (i : Nat), i < D.length → rd D i < 0 → negs (D.set i v) + 1 = negs D := by
 induction D with
 | nil => intro i hi; simp at hi
 | cons x D ih =>
  intro i hi hr
  cases i with
  | zero =>
   have hx : x < 0 := by simpa [rd] using hr
   simp [negs, hx, show ¬ v < 0 by omega]
  | succ i =>
   have := ih i (by simpa using hi) (by simpa [rd] using hr)
   unfold negs at this ⊢
   rw [List.set_cons_succ, List.filter_cons, List.filter_cons]
   split <;> (try simp only [List.length_cons]) <;> omega
theorem rd_set (D : List Int) (i j v : Int) (h0 : 0 ≤ i) (h1 : i < D.length) (h2 : 0 ≤ j) : rd (D.set i.toNat v) j = if j = i then v else rd D j := by
 unfold rd
 by_cases e : j = i
 ·subst e; rw [if_pos rfl, List.getD_eq_getElem?_getD, List.getElem?_set_self (by omega)]; rfl
 ·rw [if_neg e, List.getD_eq_getElem?_getD, List.getElem?_set_ne (by omega), ← List.getD_eq_getElem?_getD]
def bfsOk (w h : Int) (s : List Int × List Int) : Prop :=
 (s.1.length : Int) = nCells w h ∧ (∀ x ∈ s.2, 0 ≤ x ∧ x < nCells w h ∧ 0 ≤ rd s.1 x) ∧ (∀ x : Int, 0 ≤ x → x < nCells w h → -1 ≤ rd s.1 x ∧ rd s.1 x < s.2.length) ∧ negs s.1 + s.2.length = (nCells w h).toNat
theorem bfs1_ok {w h o c : Int} {s : List Int × List Int} (hs : bfsOk w h s) (hc : c ∈ s.2) (d : Int) : bfsOk w h (bfs1 w h o c s d) ∧ c ∈ (bfs1 w h o c s d).2 ∧ s.2 <+: (bfs1 w h o c s d).2 := by
 unfold bfs1
 split
 ·rename_i hq
  obtain ⟨_, _, _, hb, _⟩ := stp_bd hq.1
  obtain ⟨h1, h2, h3, h4⟩ := hs
  obtain ⟨c0, c1, c2⟩ := h2 c hc
  have hlen : stp w h o c d < s.1.length := by omega
  have hsz : ∀ j : Int, 0 ≤ j → rd (s.1.set (stp w h o c d).toNat (rd s.1 c + 1)) j = if j = stp w h o c d then rd s.1 c + 1 else rd s.1 j := fun j hj => rd_set s.1 _ j _ hq.1 hlen hj
  refine ⟨⟨?_, ?_, ?_, ?_⟩, ?_, ?_⟩
  ·simpa using h1
  ·intro x hx
   rcases List.mem_append.1 hx with hx | hx
   ·obtain ⟨a, b, e⟩ := h2 x hx
    refine ⟨a, b, ?_⟩
    show 0 ≤ rd (s.1.set _ _) x
    rw [hsz x a]; split <;> omega
   ·have hx : x = stp w h o c d := by simpa using hx
    subst hx
    refine ⟨hq.1, hb, ?_⟩
    show 0 ≤ rd (s.1.set _ _) _
    rw [hsz _ hq.1, if_pos rfl]; omega
  ·intro x x0 x1
   have := h3 x x0 x1
   have := h3 c c0 c1
   show -1 ≤ rd (s.1.set _ _) x ∧ rd (s.1.set _ _) x < ((s.2 ++ [_]).length : Nat)
   rw [hsz x x0]
   simp only [List.length_append, List.length_cons, List.length_nil]
   split <;> omega
  ·have := negs_set s.1 (rd s.1 c + 1) (by omega) (stp w h o c d).toNat (by omega) (by rw [Int.toNat_of_nonneg hq.1]; exact hq.2)
   show negs (s.1.set _ _) + (s.2 ++ [_]).length = _
   simp only [List.length_append, List.length_cons, List.length_nil]
   omega
  ·exact List.mem_append_left _ hc
  ·exact List.prefix_append _ _
 ·exact ⟨hs, hc, List.prefix_refl _⟩
theorem bfs_fold_ok {w h o c : Int} (L : List Int) : ∀ {s : List Int × List Int} (_ : bfsOk w h s) (_ : c ∈ s.2), bfsOk w h (L.foldl (bfs1 w h o c) s) ∧ c ∈ (L.foldl (bfs1 w h o c) s).2 ∧ s.2 <+: (L.foldl (bfs1 w h o c) s).2 := by
 induction L with
 | nil => intro s hs hc; exact ⟨hs, hc, List.prefix_refl _⟩
 | cons d L ih =>
  intro s hs hc
  obtain ⟨a, b, e⟩ := bfs1_ok (o := o) hs hc d
  obtain ⟨a2, b2, e2⟩ := ih a b
  exact ⟨a2, b2, e.trans e2⟩
theorem bfs_fold_ways {w h o c : Int} (L : List Int) : ∀ (s : List Int × List Int), (L.filter fun d => decide (0 ≤ stp w h o c d)).foldl (bfs1 w h o c) s = L.foldl (bfs1 w h o c) s := by
 induction L with
 | nil => intro s; rfl
 | cons d L ih =>
  intro s
  rw [List.filter_cons]
  by_cases hd : 0 ≤ stp w h o c d
  ·rw [if_pos (by simpa using hd), List.foldl_cons, List.foldl_cons, ih]
  ·rw [if_neg (by simpa using hd), List.foldl_cons, ih]
   congr 1
   unfold bfs1; rw [if_neg (fun hh => hd hh.1)]
theorem ok_len {w h : Int} {s : List Int × List Int} (hs : bfsOk w h s) : s.2.length ≤ 16 := by
 have := nCells_bd w h
 have := hs.2.2.2
 omega
theorem spec_l2_one {w h o : Int} (k : Nat) (s : List Int × List Int) (i d : Int) (hs : bfsOk w h s) (i0 : 0 ≤ i) (i1 : i < s.2.length) (d0 : 0 ≤ d) (d3 : d ≤ 3) :
  spec_l04Distances.l2 (k + 1 + 1) s.1 s.2 i d w h o = spec_l04Distances.l2 (k + 1) (bfs1 w h o (rd s.2 i) s d).1 (bfs1 w h o (rd s.2 i) s d).2 i (d + 1) w h o := by
 have hm : rd s.2 i ∈ s.2 := by
  unfold rd; rw [List.getD_eq_getElem?_getD, List.getElem?_eq_getElem (by omega)]; exact List.getElem_mem _
 have hl := ok_len hs
 obtain ⟨h1, h2, h3, h4⟩ := hs
 obtain ⟨c0, c1, c2⟩ := h2 _ hm
 have hv := h3 _ c0 c1
 have est : spec_Step.f (k + 1) w h o (rd s.2 i) d = some (stp w h o (rd s.2 i) d) := spec_Step_eq k _ _ _ _ _
 generalize k + 1 = m at est ⊢
 simp only [spec_l04Distances.l2]
 rw [if_pos d3, if_pos i0, if_pos i1, est, w64_id (x := d + 1) (by omega) (by omega)]
 simp only [Option.bind_some]
 unfold bfs1
 by_cases hq : 0 ≤ stp w h o (rd s.2 i) d
 ·obtain ⟨_, _, _, hb, _⟩ := stp_bd hq
  rw [if_pos hq, if_pos hq, if_pos (by omega)]
  by_cases hr : rd s.1 (stp w h o (rd s.2 i) d) < 0
  ·rw [if_pos hr, if_pos c0, if_pos (by omega), if_pos (by omega), if_pos ⟨hq, hr⟩, w64_id (x := rd s.1 (rd s.2 i) + 1) (by omega) (by omega)]
  ·rw [if_neg hr, if_neg (fun hh => hr hh.2)]
 ·rw [if_neg hq, if_neg (fun hh => hq hh.1)]
theorem prefix_rd {p q : List Int} (hp : p <+: q) (i : Int) (h0 : 0 ≤ i) (h1 : i < p.length) : rd q i = rd p i := by
 obtain ⟨t, rfl⟩ := hp
 unfold rd
 rw [List.getD_eq_getElem?_getD, List.getD_eq_getElem?_getD, List.getElem?_append_left (by omega)]
theorem rd_in {q : List Int} {i : Int} (h0 : 0 ≤ i) (h1 : i < q.length) : rd q i ∈ q := by
 unfold rd; rw [List.getD_eq_getElem?_getD, List.getElem?_eq_getElem (by omega)]; exact List.getElem_mem _
theorem spec_cell {w h o : Int} (k : Nat) (s : List Int × List Int) (i : Int) (hs : bfsOk w h s) (i0 : 0 ≤ i) (i1 : i < s.2.length) :
  spec_l04Distances.l2 (k + 6) s.1 s.2 i 0 w h o = spec_l04Distances.l1 (k + 1) (bfsCell w h o (rd s.2 i) s).1 (bfsCell w h o (rd s.2 i) s).2 (i + 1) w h o := by
 have hl := ok_len hs
 generalize hc : rd s.2 i = c
 have hm : c ∈ s.2 := hc ▸ rd_in i0 i1
 obtain ⟨a1, b1, e1⟩ := bfs1_ok (o := o) hs (c := c) hm 0
 obtain ⟨a2, b2, e2⟩ := bfs1_ok (o := o) a1 b1 1
 obtain ⟨a3, b3, e3⟩ := bfs1_ok (o := o) a2 b2 2
 obtain ⟨a4, b4, e4⟩ := bfs1_ok (o := o) a3 b3 3
 have g2 := e1.trans e2
 have g3 := g2.trans e3
 have q1 := spec_l2_one (o := o) (k + 4) s i 0 hs i0 i1 (by omega) (by omega)
 rw [hc] at q1
 have q2 := spec_l2_one (o := o) (k + 3) _ i (0 + 1) a1 i0 (by have := e1.length_le; omega) (by omega) (by omega)
 rw [prefix_rd e1 i i0 i1, hc] at q2
 have q3 := spec_l2_one (o := o) (k + 2) _ i (0 + 1 + 1) a2 i0 (by have := g2.length_le; omega) (by omega) (by omega)
 rw [prefix_rd g2 i i0 i1, hc] at q3
 have q4 := spec_l2_one (o := o) (k + 1) _ i (0 + 1 + 1 + 1) a3 i0 (by have := g3.length_le; omega) (by omega) (by omega)
 rw [prefix_rd g3 i i0 i1, hc] at q4
 refine q1.trans (q2.trans (q3.trans (q4.trans ?_)))
 generalize k + 1 = m
 simp only [spec_l04Distances.l2]
 rw [if_neg (by omega), w64_id (x := i + 1) (by omega) (by omega)]
 rfl
theorem bfsCell_ok {w h o c : Int} {s : List Int × List Int} (hs : bfsOk w h s) (hc : c ∈ s.2) : bfsOk w h (bfsCell w h o c s) ∧ s.2 <+: (bfsCell w h o c s).2 := by
 obtain ⟨a, _, b⟩ := bfs_fold_ok (o := o) [0, 1, 2, 3] hs hc
 exact ⟨a, b⟩
theorem spec_run {w h o : Int} (n : Nat) : ∀ (k : Nat) (s : List Int × List Int) (i : Int), bfsOk w h s → 0 ≤ i → 17 - i ≤ n → i ≤ s.2.length → 10 * n + 10 ≤ k → spec_l04Distances.l1 k s.1 s.2 i w h o = some (bfsRun w h o n i s) := by
 induction n with
 | zero =>
  intro k s i hs i0 hn hi hk
  have hl := ok_len hs
  omega
 | succ n ih =>
  intro k s i hs i0 hn hi hk
  have hl := ok_len hs
  obtain ⟨k, rfl⟩ : ∃ m, k = m + 7 := ⟨k - 7, by omega⟩
  have hc := fun h1 => spec_cell (o := o) k s i hs i0 h1
  rw [show k + 7 = k + 6 + 1 by omega]
  generalize hM : k + 6 = M at hc
  simp only [spec_l04Distances.l1, bfsRun]
  by_cases h1 : i < (s.2.length : Int)
  ·rw [if_pos h1, if_pos h1, hc h1]
   obtain ⟨a, b⟩ := bfsCell_ok (o := o) hs (c := rd s.2 i) (rd_in i0 h1)
   have hlen := b.length_le
   generalize bfsCell w h o (rd s.2 i) s = s' at a hlen ⊢
   exact ih (k + 1) s' (i + 1) a (by omega) (by omega) (by omega) (by omega)
  ·rw [if_neg h1, if_neg h1]
theorem replicate_rd (n : Nat) (v i : Int) (h0 : 0 ≤ i) (h1 : i < n) : rd (List.replicate n v) i = v := by
 unfold rd; rw [List.getD_eq_getElem?_getD, List.getElem?_replicate, if_pos (by omega)]; rfl
theorem bfs_start {w h c : Int} (h0 : 0 ≤ c) (h1 : c < nCells w h) : bfsOk w h ((List.replicate (nCells w h).toNat (-1)).set c.toNat 0, [c]) := by
 have hn := nCells_bd w h
 have hlen : ((List.replicate (nCells w h).toNat (-1 : Int)).length : Int) = nCells w h := by simp; omega
 refine ⟨by simp; omega, ?_, ?_, ?_⟩
 ·intro x hx
  have hx : x = c := by simpa using hx
  subst hx
  refine ⟨h0, h1, ?_⟩
  show 0 ≤ rd (List.set _ _ _) x
  rw [rd_set _ _ _ _ h0 (by omega) h0, if_pos rfl]; omega
 ·intro x x0 x1
  show -1 ≤ rd (List.set _ _ _) x ∧ rd (List.set _ _ _) x < (([c] : List Int).length : Nat)
  rw [rd_set _ _ _ _ h0 (by omega) x0, replicate_rd _ _ _ x0 (by omega)]
  split <;> simp
 ·have := negs_set (List.replicate (nCells w h).toNat (-1)) 0 (by omega) c.toNat (by omega) (by rw [Int.toNat_of_nonneg h0, replicate_rd _ _ _ h0 (by omega)]; omega)
  have e : negs (List.replicate (nCells w h).toNat (-1)) = (nCells w h).toNat := by unfold negs; rw [List.filter_replicate]; simp
  show negs (List.set _ _ _) + 1 = _
  omega
theorem spec_fill (n : Nat) (c w h o : Int) (h0 : 0 ≤ c) (h1 : c < n) (hn : n ≤ 100) (d : Nat) : ∀ (k : Nat) (i : Nat), n - i ≤ d → i ≤ n → spec_l04Distances.l0 (k + d + 1) c (List.replicate i (-1) ++ List.replicate (n - i) 0) i w h o = spec_l04Distances.l1 (k + (d - (n - i))) ((List.replicate n (-1)).set c.toNat 0) [c] 0 w h o := by
 induction d with
 | zero =>
  intro k i hd hi
  obtain rfl : i = n := by omega
  simp only [spec_l04Distances.l0]
  rw [if_neg (by simp), if_pos h0, if_pos (by simp; omega)]
  simp
 | succ d ih =>
  intro k i hd hi
  by_cases z : i = n
  ·subst z
   simp only [spec_l04Distances.l0]
   rw [if_neg (by simp), if_pos h0, if_pos (by simp; omega)]
   simp [Nat.add_assoc]
  ·have := ih k (i + 1) (by omega) (by omega)
   rw [show k + (d + 1) + 1 = (k + d + 1) + 1 by omega]
   generalize k + d + 1 = m at this ⊢
   simp only [spec_l04Distances.l0]
   rw [if_pos (by simp; omega), if_pos (by omega), w64_id (x := (i : Int) + 1) (by omega) (by omega)]
   have e : (List.replicate i (-1 : Int) ++ List.replicate (n - i) 0).set (i : Int).toNat (-1) = List.replicate (i + 1) (-1) ++ List.replicate (n - (i + 1)) 0 := by
    rw [show n - i = (n - (i + 1)) + 1 by omega, List.replicate_succ]
    have e3 : (List.replicate i (-1 : Int) ++ (0 : Int) :: List.replicate (n - (i + 1)) 0).set (i : Int).toNat (-1) = List.replicate i (-1) ++ (-1) :: List.replicate (n - (i + 1)) 0 := by
     simp [List.set_append]
    rw [e3, List.replicate_succ', List.append_assoc]; rfl
   rw [e, show d + 1 - (n - i) = d - (n - (i + 1)) by omega]
   simpa using this
theorem spec_dist_eq {w h c : Int} (o : Int) (h0 : 0 ≤ c) (h1 : c < nCells w h) (k : Nat) (hk : 250 ≤ k) : spec_l04Distances.f k w h o c = some (distL w h o c) := by
 have hn := nCells_bd w h
 unfold spec_l04Distances.f
 rw [spec_CountCells_eq]
 simp only [Option.bind_some]
 rw [if_pos (by omega), if_pos (by omega)]
 have := spec_fill (nCells w h).toNat c w h o h0 (by omega) (by omega) (nCells w h).toNat (k - (nCells w h).toNat - 1) 0 (by omega) (by omega)
 rw [show k - (nCells w h).toNat - 1 + (nCells w h).toNat + 1 = k by omega] at this
 simp only [List.replicate_zero, List.nil_append, Nat.sub_zero, Int.natCast_zero] at this
 rw [this]
 exact spec_run 17 _ (_, _) 0 (bfs_start h0 h1) (by omega) (by omega) (by simp) (by omega)
theorem impl_l1 {w h o c : Int} (L : List Int) (hL : ∀ d ∈ L, 0 ≤ stp w h o c d) (hL4 : L.length ≤ 4) (i : Int) (i0 : 0 ≤ i) (rest : List Int) : ∀ (k j : Nat) (s : List Int × List Int), bfsOk w h s → rd s.2 i = c → i < s.2.length → L.drop j = rest → j ≤ L.length →
  impl_distances.l1 (k + 3 + rest.length + 1) s.1 s.2 i L (L.length : Int) j w h o = impl_distances.l0 (k + 3) (rest.foldl (bfs1 w h o c) s).1 (rest.foldl (bfs1 w h o c) s).2 (i + 1) w h o := by
 induction rest with
 | nil =>
  intro k j s hs hc i1 hd hj
  have hl := ok_len hs
  have := List.drop_eq_nil_iff.1 hd
  have e : j = L.length := by omega
  subst e
  simp only [List.length_nil, Nat.add_zero, List.foldl_nil]
  generalize k + 3 = m
  simp only [impl_distances.l1]
  rw [if_neg (by omega), w64_id (x := i + 1) (by omega) (by omega)]
 | cons d rest ih =>
  intro k j s hs hc i1 hd hj
  have hl := ok_len hs
  have hjl : j < L.length := by
   have := congrArg List.length hd
   simp at this; omega
  have hdj : L[j] = d ∧ L.drop (j + 1) = rest := by
   rw [List.drop_eq_getElem_cons hjl] at hd
   exact ⟨(List.cons.inj hd).1, (List.cons.inj hd).2⟩
  have hcm : c ∈ s.2 := hc ▸ rd_in i0 i1
  have hst := hL d (hdj.1 ▸ List.getElem_mem hjl)
  obtain ⟨a1, b1, e1⟩ := bfs1_ok (o := o) hs hcm d
  have hgo := ih k (j + 1) (bfs1 w h o c s d) a1 (by rw [prefix_rd e1 i i0 i1, hc]) (by have := e1.length_le; omega) hdj.2 (by omega)
  have est : impl_Step.f (k + 3 + rest.length + 1) w h o c d = some (stp w h o c d) := by
   rw [show k + 3 + rest.length + 1 = (k + rest.length + 1) + 3 by omega]; exact impl_Step_eq _ _ _ _ _ _
  rw [show k + 3 + (d :: rest).length + 1 = (k + 3 + rest.length + 1) + 1 by simp; omega]
  generalize k + 3 + rest.length + 1 = m at hgo est ⊢
  simp only [impl_distances.l1]
  have erd : rd L (j : Int) = d := by rw [← hdj.1]; unfold rd; simp [List.getD_eq_getElem?_getD, hjl]
  obtain ⟨h1, h2, h3, h4⟩ := hs
  obtain ⟨c0, c1, c2⟩ := h2 _ hcm
  have hv := h3 _ c0 c1
  obtain ⟨_, _, _, hb, _⟩ := stp_bd hst
  rw [if_pos (by omega), if_pos (by omega), if_pos (by omega), if_pos i0, if_pos i1, hc, erd, est, w64_id (x := (j : Int) + 1) (by omega) (by omega)]
  simp only [Option.bind_some, List.foldl_cons]
  rw [if_pos hst, if_pos (by omega)]
  by_cases hr : rd s.1 (stp w h o c d) < 0
  ·rw [if_pos hr, if_pos c0, if_pos (by omega), if_pos (by omega), w64_id (x := rd s.1 c + 1) (by omega) (by omega)]
   have e : bfs1 w h o c s d = (s.1.set (stp w h o c d).toNat (rd s.1 c + 1), s.2 ++ [stp w h o c d]) := by unfold bfs1; rw [if_pos ⟨hst, hr⟩]
   rw [e] at hgo ⊢
   simpa using hgo
  ·rw [if_neg hr]
   have e : bfs1 w h o c s d = s := by unfold bfs1; rw [if_neg (fun hh => hr hh.2)]
   rw [e] at hgo ⊢
   simpa using hgo
theorem impl_run {w h o : Int} (n : Nat) : ∀ (k : Nat) (s : List Int × List Int) (i : Int), bfsOk w h s → 0 ≤ i → 17 - i ≤ n → i ≤ s.2.length → 20 * n + 20 ≤ k → impl_distances.l0 k s.1 s.2 i w h o = some (bfsRun w h o n i s) := by
 induction n with
 | zero =>
  intro k s i hs i0 hn hi hk
  have hl := ok_len hs
  omega
 | succ n ih =>
  intro k s i hs i0 hn hi hk
  have hl := ok_len hs
  obtain ⟨k, rfl⟩ : ∃ m, k = m + 20 := ⟨k - 20, by omega⟩
  have hwy : impl_WaysFrom.f (k + 19) w h o (rd s.2 i) = some (waysL w h o (rd s.2 i)) := impl_WaysFrom_eq (k + 11) _ _ _ _
  have h4 := waysL_len w h o (rd s.2 i)
  have hgo := impl_l1 (w := w) (h := h) (o := o) (c := rd s.2 i) (waysL w h o (rd s.2 i)) (fun d hd => by
   unfold waysL at hd
   have := (List.mem_filter.1 hd).2
   simpa using this) h4 i i0 (waysL w h o (rd s.2 i)) (k + 15 - (waysL w h o (rd s.2 i)).length) 0 s hs rfl
  rw [show k + 15 - (waysL w h o (rd s.2 i)).length + 3 + (waysL w h o (rd s.2 i)).length + 1 = k + 19 by omega] at hgo
  generalize hM : k + 19 = M at hwy hgo
  rw [show k + 20 = M + 1 by omega]
  simp only [impl_distances.l0, bfsRun]
  by_cases h1 : i < (s.2.length : Int)
  ·rw [if_pos h1, if_pos h1, if_pos i0, hwy]
   simp only [Option.bind_some]
   have hgo := hgo h1 rfl (by omega)
   have e : (waysL w h o (rd s.2 i)).foldl (bfs1 w h o (rd s.2 i)) s = bfsCell w h o (rd s.2 i) s := bfs_fold_ways [0, 1, 2, 3] s
   rw [e] at hgo
   obtain ⟨a, b⟩ := bfsCell_ok (o := o) hs (c := rd s.2 i) (rd_in i0 h1)
   have hlen := b.length_le
   generalize bfsCell w h o (rd s.2 i) s = s' at a hlen hgo ⊢
   refine Eq.trans hgo (ih _ s' (i + 1) a (by omega) (by omega) (by omega) (by omega))
  ·rw [if_neg h1, if_neg h1]
theorem impl_dist_eq {w h c : Int} (o : Int) (h0 : 0 ≤ c) (h1 : c < nCells w h) (k : Nat) (hk : 400 ≤ k) : impl_distances.f k w h o c = some (distL w h o c) := by
 have hn := nCells_bd w h
 unfold impl_distances.f slices_Repeat_int_int.f
 rw [impl_CountCells_eq]
 simp only [Option.bind_some]
 rw [if_pos ⟨by simp, by omega, by omega⟩]
 simp only [Option.bind_some]
 rw [if_pos h0, if_pos (by simp; omega), show rd ([-1] : List Int) 0 = -1 from rfl]
 exact impl_run 17 _ (_, _) 0 (bfs_start h0 h1) (by omega) (by omega) (by simp) (by omega)
theorem bfsRun_ok {w h o : Int} (n : Nat) : ∀ (i : Int) (s : List Int × List Int), bfsOk w h s → 0 ≤ i → ∃ q, bfsOk w h (bfsRun w h o n i s, q) := by
 induction n with
 | zero => intro i s hs _; exact ⟨s.2, hs⟩
 | succ n ih =>
  intro i s hs i0
  simp only [bfsRun]
  split
  ·rename_i h1
   exact ih _ _ (bfsCell_ok hs (rd_in i0 h1)).1 (by omega)
  ·exact ⟨s.2, hs⟩
theorem distL_ok {w h c : Int} (o : Int) (h0 : 0 ≤ c) (h1 : c < nCells w h) : ((distL w h o c).length : Int) = nCells w h ∧ ∀ x : Int, 0 ≤ x → x < nCells w h → -1 ≤ rd (distL w h o c) x ∧ rd (distL w h o c) x < 16 := by
 obtain ⟨q, hq⟩ := bfsRun_ok (o := o) 17 0 _ (bfs_start h0 h1) (by omega)
 have hl := ok_len hq
 refine ⟨hq.1, fun x x0 x1 => ?_⟩
 have := hq.2.2.1 x x0 x1
 simp only at this hl
 unfold distL; omega
theorem has_eq (w h o c : Int) : spec_l04Has.f w h o c = some (mOk w h o && cellIn w h c) := by
 unfold spec_l04Has.f
 rw [spec_MazeOk_eq]
 simp only [Option.bind_some]
 by_cases hm : mOk w h o = true
 ·rw [if_pos hm, spec_CountCells_eq, hm]
  simp only [Option.bind_some]
  rw [l01In_eq, cellIn_spec]; simp
 ·rw [if_neg hm, Bool.eq_false_iff.2 hm]; simp
theorem isIn_eq (w h o : Int) (l : List Int) : impl_isIn.f w h o l = some (mOk w h o && l.all (cellIn w h)) := by
 unfold impl_isIn.f
 rw [impl_MazeOk_eq]
 simp only [Option.bind_some]
 rw [show (fun c => !cellB w h c) = fun c => !cellIn w h c from funext fun c => by unfold cellB; rw [isCell_eq]; rfl]
 by_cases hm : mOk w h o = true
 ·rw [if_pos hm, hm]; simp [List.all_eq_not_any_not]
 ·rw [if_neg hm, Bool.eq_false_iff.2 hm]; simp
def distV (w h o a b : Int) : Int := if mOk w h o = true ∧ cellIn w h a = true ∧ cellIn w h b = true then rd (distL w h o a) b else -1
theorem impl_DistanceOf_eq (w h o a b : Int) (k : Nat) (hk : 400 ≤ k) : impl_DistanceOf.f k w h o a b = some (distV w h o a b) := by
 unfold impl_DistanceOf.f distV
 rw [isIn_eq]
 simp only [Option.bind_some, List.all_cons, List.all_nil]
 by_cases hm : mOk w h o = true <;> by_cases ha : cellIn w h a = true <;> by_cases hb : cellIn w h b = true <;> simp only [hm, ha, hb, Bool.and_true, Bool.true_and, Bool.and_self, if_true, Bool.false_eq_true, if_false, false_and, and_false, and_self, true_and]
 ·obtain ⟨a0, a1⟩ := cellIn_iff.1 ha
  obtain ⟨b0, b1⟩ := cellIn_iff.1 hb
  rw [impl_dist_eq o a0 a1 k (by omega)]
  simp only [Option.bind_some]
  rw [if_pos b0, if_pos (by rw [(distL_ok o a0 a1).1]; exact b1)]
def apart (w h o g : Int) : Bool := decide (distV w h o (ends w h g).1 (ends w h g).2 < 0)
theorem impl_areApart_eq (w h o g : Int) (k : Nat) (hk : 400 ≤ k) : impl_areApart.f k w h o g = some (apart w h o g) := by
 unfold impl_areApart.f apart
 rw [impl_EndsOf_eq]
 simp only [Option.bind_some]
 rw [impl_DistanceOf_eq _ _ _ _ _ k hk]
 simp only [Option.bind_some]
theorem spec_l05Apart_eq {w h o g : Int} (hm : mOk w h o = true) (hg : gapIn w h g = true) (k : Nat) (hk : 400 ≤ k) : spec_l05Apart.f k w h o g = some (apart w h o g) := by
 unfold spec_l05Apart.f apart distV
 rw [spec_EndsOf_eq]
 simp only [Option.bind_some]
 obtain ⟨a0, ab, b1, _⟩ := ends_bd hg
 have ha : cellIn w h (ends w h g).1 = true := cellIn_iff.2 ⟨a0, by omega⟩
 have hb : cellIn w h (ends w h g).2 = true := cellIn_iff.2 ⟨by omega, b1⟩
 rw [spec_dist_eq o a0 (by omega) k (by omega), if_pos ⟨hm, ha, hb⟩]
 simp only [Option.bind_some]
 rw [if_pos (by omega), if_pos (by rw [(distL_ok o a0 (by omega)).1]; exact b1)]
def wouldJ (w h o g : Int) : Bool := mOk w h o && (gapIn w h g && (!bitAt o g && apart w h o g))
theorem spec_WouldJoin_eq (w h o g : Int) (k : Nat) (hk : 400 ≤ k) : spec_WouldJoin.f k w h o g = some (wouldJ w h o g) := by
 unfold spec_WouldJoin.f wouldJ
 rw [spec_MazeOk_eq]
 simp only [Option.bind_some]
 by_cases hm : mOk w h o = true
 ·rw [if_pos hm, spec_CountGaps_eq, hm]
  simp only [Option.bind_some]
  rw [l01In_eq, gapIn_spec]
  simp only [Option.bind_some]
  by_cases hg : gapIn w h g = true
  ·have hb := mOk_bd hm
   have hn := nGaps_bd w h
   have hgi := gapIn_iff.1 hg
   rw [if_pos hg, hg, l03Bit_eq hb.1 (by omega) hgi.1 (by omega), spec_l05Apart_eq hm hg k hk]
   simp only [Option.bind_some]
   cases bitAt o g <;> simp
  ·rw [if_neg hg, Bool.eq_false_iff.2 hg]; simp
 ·rw [if_neg hm, Bool.eq_false_iff.2 hm]; simp
theorem impl_WouldJoin_eq (w h o g : Int) (k : Nat) (hk : 400 ≤ k) : impl_WouldJoin.f k w h o g = some (wouldJ w h o g) := by
 unfold impl_WouldJoin.f wouldJ
 rw [impl_MazeOk_eq]
 simp only [Option.bind_some]
 by_cases hm : mOk w h o = true
 ·rw [if_pos hm, isGap_eq, hm]
  simp only [Option.bind_some]
  by_cases hg : gapIn w h g = true
  ·have hn := nGaps_bd w h
   have hgi := gapIn_iff.1 hg
   rw [if_pos hg, hg, isOpen_eq hm (by omega), impl_areApart_eq w h o g k hk]
   simp only [Option.bind_some, show decide (0 ≤ g) = true by simp [hgi.1]]
   cases bitAt o g <;> simp
  ·rw [if_neg hg, Bool.eq_false_iff.2 hg]; simp
 ·rw [if_neg hm, Bool.eq_false_iff.2 hm]; simp
theorem rd_surj {l : List Int} {x : Int} (hx : x ∈ l) : ∃ j : Int, 0 ≤ j ∧ j < l.length ∧ rd l j = x := by
 obtain ⟨n, hn, e⟩ := List.getElem_of_mem hx
 exact ⟨n, by omega, by omega, by rw [← e]; unfold rd; simp [List.getD_eq_getElem?_getD, hn]⟩
inductive Wlk (w h o a : Int) : Nat → Int → Prop
 | z : Wlk w h o a 0 a
 | s {n : Nat} {x : Int} (d : Int) : Wlk w h o a n x → 0 ≤ stp w h o x d → Wlk w h o a (n + 1) (stp w h o x d)
structure BI (w h o a : Int) (s : List Int × List Int) (m : Int) : Prop where
 ok : bfsOk w h s
 has : ∀ x : Int, 0 ≤ x → x < nCells w h → 0 ≤ rd s.1 x → x ∈ s.2
 srt : s.2.Pairwise fun x y => rd s.1 x ≤ rd s.1 y
 top : ∀ x ∈ s.2, rd s.1 x ≤ m
 wlk : ∀ x : Int, 0 ≤ x → x < nCells w h → 0 ≤ rd s.1 x → Wlk w h o a (rd s.1 x).toNat x
theorem bfs1_BI {w h o a c : Int} {s : List Int × List Int} (hs : BI w h o a s (rd s.1 c + 1)) (hc : c ∈ s.2) (d : Int) :
  BI w h o a (bfs1 w h o c s d) (rd s.1 c + 1) ∧ (∀ x : Int, 0 ≤ x → x < nCells w h → 0 ≤ rd s.1 x → rd (bfs1 w h o c s d).1 x = rd s.1 x) ∧ (0 ≤ stp w h o c d → 0 ≤ rd (bfs1 w h o c s d).1 (stp w h o c d) ∧ rd (bfs1 w h o c s d).1 (stp w h o c d) ≤ rd s.1 c + 1) := by
 obtain ⟨ok', _, _⟩ := bfs1_ok (o := o) hs.ok hc d
 obtain ⟨h1, h2, h3, h4⟩ := hs.ok
 obtain ⟨c0, c1, c2⟩ := h2 c hc
 by_cases hq : 0 ≤ stp w h o c d ∧ rd s.1 (stp w h o c d) < 0
 ·obtain ⟨_, _, _, hb, _⟩ := stp_bd hq.1
  have e : bfs1 w h o c s d = (s.1.set (stp w h o c d).toNat (rd s.1 c + 1), s.2 ++ [stp w h o c d]) := by unfold bfs1; rw [if_pos hq]
  have hsz : ∀ j : Int, 0 ≤ j → rd (s.1.set (stp w h o c d).toNat (rd s.1 c + 1)) j = if j = stp w h o c d then rd s.1 c + 1 else rd s.1 j := fun j hj => rd_set s.1 _ j _ hq.1 (by omega) hj
  rw [e] at ok' ⊢
  have hst := hq.1
  have hlt := hq.2
  have hwk : Wlk w h o a (rd s.1 c + 1).toNat (stp w h o c d) := by
   rw [show (rd s.1 c + 1).toNat = (rd s.1 c).toNat + 1 by omega]
   exact Wlk.s d (hs.wlk c c0 c1 c2) hst
  generalize stp w h o c d = t at hb hst hlt hsz ok' hwk ⊢
  have hkeep : ∀ x : Int, 0 ≤ x → 0 ≤ rd s.1 x → rd (s.1.set t.toNat (rd s.1 c + 1)) x = rd s.1 x := fun x x0 hx => by
   rw [hsz x x0]; split
   ·rename_i hh; subst hh; omega
   ·rfl
  have hq2 : ∀ x ∈ s.2, rd (s.1.set t.toNat (rd s.1 c + 1)) x = rd s.1 x := fun x hx => hkeep x (h2 x hx).1 (h2 x hx).2.2
  have ht : rd (s.1.set t.toNat (rd s.1 c + 1)) t = rd s.1 c + 1 := by rw [hsz t hst, if_pos rfl]
  refine ⟨⟨ok', ?_, ?_, ?_, ?_⟩, fun x x0 _ hx => hkeep x x0 hx, fun _ => by show 0 ≤ rd (s.1.set _ _) t ∧ rd (s.1.set _ _) t ≤ _; omega⟩
  ·intro x x0 x1 hx
   have hx' : 0 ≤ rd (s.1.set t.toNat (rd s.1 c + 1)) x := hx
   rw [hsz x x0] at hx'
   by_cases ex : x = t
   ·exact List.mem_append_right _ (by simp [ex])
   ·rw [if_neg ex] at hx'
    exact List.mem_append_left _ (hs.has x x0 x1 hx')
  ·show (s.2 ++ [t]).Pairwise fun x y => rd (s.1.set _ _) x ≤ rd (s.1.set _ _) y
   rw [List.pairwise_append]
   refine ⟨List.Pairwise.imp_of_mem (fun {x y} hx hy hh => by rw [hq2 x hx, hq2 y hy]; exact hh) hs.srt, List.pairwise_singleton _ _, fun x hx y hy => ?_⟩
   have hy : y = t := by simpa using hy
   subst hy
   rw [hq2 x hx, ht]
   exact hs.top x hx
  ·intro x hx
   show rd (s.1.set _ _) x ≤ _
   rcases List.mem_append.1 hx with hx | hx
   ·rw [hq2 x hx]; exact hs.top x hx
   ·have hx : x = t := by simpa using hx
    subst hx; omega
  ·intro x x0 x1 hx
   have hx' : 0 ≤ rd (s.1.set t.toNat (rd s.1 c + 1)) x := hx
   show Wlk w h o a (rd (s.1.set t.toNat (rd s.1 c + 1)) x).toNat x
   rw [hsz x x0] at hx' ⊢
   by_cases ex : x = t
   ·rw [if_pos ex, ex]; exact hwk
   ·rw [if_neg ex] at hx' ⊢
    exact hs.wlk x x0 x1 hx'
 ·have e : bfs1 w h o c s d = s := by unfold bfs1; rw [if_neg hq]
  rw [e]
  refine ⟨hs, fun x _ _ _ => rfl, fun hst => ?_⟩
  obtain ⟨_, _, _, hb, _⟩ := stp_bd hst
  have h0 : 0 ≤ rd s.1 (stp w h o c d) := by
   by_cases hh : rd s.1 (stp w h o c d) < 0
   ·exact absurd ⟨hst, hh⟩ hq
   ·omega
  exact ⟨h0, hs.top _ (hs.has _ hst hb h0)⟩
theorem fold_BI {w h o a c : Int} (L : List Int) : ∀ {s : List Int × List Int} (_ : BI w h o a s (rd s.1 c + 1)) (_ : c ∈ s.2),
  BI w h o a (L.foldl (bfs1 w h o c) s) (rd s.1 c + 1) ∧ (∀ x : Int, 0 ≤ x → x < nCells w h → 0 ≤ rd s.1 x → rd (L.foldl (bfs1 w h o c) s).1 x = rd s.1 x) ∧ (∀ d ∈ L, 0 ≤ stp w h o c d → 0 ≤ rd (L.foldl (bfs1 w h o c) s).1 (stp w h o c d) ∧ rd (L.foldl (bfs1 w h o c) s).1 (stp w h o c d) ≤ rd s.1 c + 1) := by
 induction L with
 | nil => intro s hs hc; exact ⟨hs, fun _ _ _ _ => rfl, fun d hd => by simp at hd⟩
 | cons d L ih =>
  intro s hs hc
  obtain ⟨a1, a2, a3⟩ := bfs1_BI hs hc d
  obtain ⟨_, b2, _⟩ := bfs1_ok (o := o) hs.ok hc d
  obtain ⟨c0, c1, c2⟩ := hs.ok.2.1 c hc
  have ec := a2 c c0 c1 c2
  rw [← ec] at a1
  obtain ⟨g1, g2, g3⟩ := ih a1 b2
  rw [ec] at g1 g3
  refine ⟨g1, fun x x0 x1 hx => ?_, fun d' hd hst => ?_⟩
  ·have e1 := a2 x x0 x1 hx
   rw [List.foldl_cons, g2 x x0 x1 (by rw [e1]; exact hx), e1]
  ·rcases List.mem_cons.1 hd with rfl | hd
   ·obtain ⟨p, q⟩ := a3 hst
    obtain ⟨_, _, _, hb, _⟩ := stp_bd hst
    rw [List.foldl_cons, g2 _ hst hb p]
    exact ⟨p, q⟩
   ·exact g3 d' hd hst
structure Dist (w h o a : Int) (D : List Int) : Prop where
 src : rd D a = 0
 wlk : ∀ x : Int, 0 ≤ x → x < nCells w h → 0 ≤ rd D x → Wlk w h o a (rd D x).toNat x
 shut : ∀ x d : Int, 0 ≤ x → x < nCells w h → 0 ≤ rd D x → 0 ≤ stp w h o x d → 0 ≤ rd D (stp w h o x d) ∧ rd D (stp w h o x d) ≤ rd D x + 1
theorem run_Dist {w h o a : Int} (n : Nat) : ∀ (s : List Int × List Int) (i : Int), bfsOk w h s → 0 ≤ i → 17 - i ≤ n → i ≤ s.2.length → rd s.1 a = 0 → 0 ≤ a → a < nCells w h →
  (∀ m, (i < s.2.length → m = rd s.1 (rd s.2 i) + 1) → (¬ i < s.2.length → m = 100) → BI w h o a s m) →
  (∀ j d : Int, 0 ≤ j → j < i → 0 ≤ stp w h o (rd s.2 j) d → 0 ≤ rd s.1 (stp w h o (rd s.2 j) d) ∧ rd s.1 (stp w h o (rd s.2 j) d) ≤ rd s.1 (rd s.2 j) + 1) → Dist w h o a (bfsRun w h o n i s) := by
 induction n with
 | zero =>
  intro s i hs i0 hn hi
  have := ok_len hs
  omega
 | succ n ih =>
  intro s i hs i0 hn hi hsrc ha0 ha1 hB hD
  simp only [bfsRun]
  by_cases h1 : i < (s.2.length : Int)
  ·rw [if_pos h1]
   have hBI := hB _ (fun _ => rfl) (fun h => absurd h1 h)
   have hcm := rd_in i0 h1
   obtain ⟨p, q⟩ := bfsCell_ok (o := o) hs hcm
   obtain ⟨g1, g2, g3⟩ := fold_BI [0, 1, 2, 3] hBI hcm
   obtain ⟨c0, c1, c2⟩ := hs.2.1 _ hcm
   have hlen := q.length_le
   have hlp := ok_len p
   have hpre := fun j j0 j1 => prefix_rd q j j0 j1
   change BI w h o a (bfsCell w h o (rd s.2 i) s) _ at g1
   change ∀ x : Int, 0 ≤ x → x < nCells w h → 0 ≤ rd s.1 x → rd (bfsCell w h o (rd s.2 i) s).1 x = rd s.1 x at g2
   change ∀ d ∈ [0, 1, 2, 3], 0 ≤ stp w h o (rd s.2 i) d → 0 ≤ rd (bfsCell w h o (rd s.2 i) s).1 (stp w h o (rd s.2 i) d) ∧ rd (bfsCell w h o (rd s.2 i) s).1 (stp w h o (rd s.2 i) d) ≤ rd s.1 (rd s.2 i) + 1 at g3
   generalize bfsCell w h o (rd s.2 i) s = s' at p q g1 g2 g3 hlen hlp hpre ⊢
   refine ih s' (i + 1) p (by omega) (by omega) (by omega) (by rw [g2 a ha0 ha1 (by omega), hsrc]) ha0 ha1 (fun m m1 m2 => ?_) (fun j d j0 j1 hst => ?_)
   ·refine ⟨p, g1.has, g1.srt, fun x hx => ?_, g1.wlk⟩
    have ht := g1.top x hx
    by_cases hz : i + 1 < s'.2.length
    ·rw [m1 hz]
     have e1 := hpre i i0 h1
     have hs2 : rd s'.1 (rd s'.2 i) ≤ rd s'.1 (rd s'.2 (i + 1)) := by
      have := List.pairwise_iff_getElem.1 g1.srt i.toNat (i + 1).toNat (by omega) (by omega) (by omega)
      have r1 : rd s'.2 i = s'.2[i.toNat]'(by omega) := by unfold rd; rw [List.getD_eq_getElem?_getD, List.getElem?_eq_getElem (by omega)]; rfl
      have r2 : rd s'.2 (i + 1) = s'.2[(i + 1).toNat]'(by omega) := by unfold rd; rw [List.getD_eq_getElem?_getD, List.getElem?_eq_getElem (by omega)]; rfl
      rw [r1, r2]; exact this
     rw [e1, g2 _ c0 c1 c2] at hs2
     omega
    ·rw [m2 hz]
     obtain ⟨x0, x1, _⟩ := p.2.1 x hx
     have := (p.2.2.1 x x0 x1).2
     omega
   ·by_cases ej : j = i
    ·subst ej
     rw [hpre j j0 h1] at hst ⊢
     obtain ⟨_, _, hd, _, _⟩ := stp_bd hst
     have := g3 d (by simp; omega) hst
     rw [g2 _ c0 c1 c2]; exact this
    ·rw [hpre j j0 (by omega)] at hst ⊢
     obtain ⟨u, v⟩ := hD j d j0 (by omega) hst
     obtain ⟨_, _, _, hb, _⟩ := stp_bd hst
     obtain ⟨x0, x1, x2⟩ := hs.2.1 _ (rd_in j0 (show j < s.2.length by omega))
     rw [g2 _ hst hb u, g2 _ x0 x1 x2]; exact ⟨u, v⟩
  ·rw [if_neg h1]
   have hBI := hB 100 (fun h => absurd h h1) (fun _ => rfl)
   refine ⟨hsrc, hBI.wlk, fun x d x0 x1 hx hst => ?_⟩
   obtain ⟨j, j0, j1, je⟩ := rd_surj (hBI.has x x0 x1 hx)
   have := hD j d j0 (by omega)
   rw [je] at this
   exact this hst
theorem distL_Dist {w h a : Int} (o : Int) (h0 : 0 ≤ a) (h1 : a < nCells w h) : Dist w h o a (distL w h o a) := by
 have hn := nCells_bd w h
 have hr : ∀ j : Int, 0 ≤ j → j < nCells w h → rd ((List.replicate (nCells w h).toNat (-1 : Int)).set a.toNat 0) j = if j = a then 0 else -1 := fun j j0 j1 => by
  rw [rd_set _ _ _ _ h0 (by simp; omega) j0]; split
  ·rfl
  ·exact replicate_rd _ _ _ j0 (by omega)
 refine run_Dist 17 _ 0 (bfs_start h0 h1) (by omega) (by omega) (by simp) (by rw [hr a h0 h1, if_pos rfl]) h0 h1 (fun m m1 _ => ?_) (fun j d j0 j1 => by omega)
 have hm := m1 (by simp)
 have e0 : rd ([a] : List Int) 0 = a := rfl
 change m = rd _ (rd [a] 0) + 1 at hm
 rw [e0, hr a h0 h1, if_pos rfl] at hm
 refine ⟨bfs_start h0 h1, fun x x0 x1 hx => ?_, List.pairwise_singleton _ _, fun x hx => ?_, fun x x0 x1 hx => ?_⟩
 ·have hx' := hx
  change 0 ≤ rd (List.set _ _ _) x at hx'
  rw [hr x x0 x1] at hx'
  split at hx'
  ·rename_i e; simp [e]
  ·omega
 ·have hx : x = a := by simpa using hx
  subst hx
  show rd (List.set _ _ _) x ≤ m
  rw [hr x h0 h1, if_pos rfl]; omega
 ·have hx' := hx
  change 0 ≤ rd (List.set _ _ _) x at hx'
  show Wlk w h o a (rd (List.set _ _ _) x).toNat x
  rw [hr x x0 x1] at hx' ⊢
  split at hx'
  ·rename_i e; subst e; rw [if_pos rfl]; exact Wlk.z
  ·omega
def numsTo : Nat → List Int
 | 0 => []
 | n + 1 => numsTo n ++ [(n : Int)]
def repB (w h o : Int) (c : Nat) : Bool := (List.range c).all fun x => decide (rd (distL w h o c) x < 0)
def repsN (w h o : Int) : Nat → Nat
 | 0 => 0
 | n + 1 => repsN w h o n + (repB w h o n).toNat
def partsN (w h o : Int) : Nat := repsN w h o (nCells w h).toNat
theorem repsN_le (w h o : Int) : ∀ n, repsN w h o n ≤ n
 | 0 => Nat.le_refl _
 | n + 1 => by
  have := repsN_le w h o n
  simp only [repsN]
  cases repB w h o n <;> simp <;> omega
theorem numsTo_len : ∀ n, (numsTo n).length = n
 | 0 => rfl
 | n + 1 => by rw [show numsTo (n + 1) = numsTo n ++ [(n : Int)] from rfl, List.length_append, numsTo_len n]; rfl
theorem numsTo_mem {x : Int} : ∀ {n}, x ∈ numsTo n ↔ 0 ≤ x ∧ x < (n : Int)
 | 0 => by simp [numsTo]; try omega
 | n + 1 => by
  rw [show numsTo (n + 1) = numsTo n ++ [(n : Int)] from rfl, List.mem_append, numsTo_mem (n := n)]
  simp; omega
theorem numsTo_split {c : Nat} : ∀ n, c < n → ∃ T, numsTo n = numsTo c ++ ((c : Int) :: T)
 | 0, h => absurd h (by omega)
 | n + 1, h => by
  rw [show numsTo (n + 1) = numsTo n ++ [(n : Int)] from rfl]
  by_cases e : c = n
  ·subst e; exact ⟨[], rfl⟩
  ·obtain ⟨T, hT⟩ := numsTo_split n (show c < n by omega)
   exact ⟨T ++ [(n : Int)], by rw [hT]; simp⟩
theorem upTo_loop (n : Nat) (hn : n ≤ 1000) (d : Nat) : ∀ (k i : Nat), i ≤ n → n - i ≤ d → d < k → impl_upTo.l0 k n (numsTo i) i = some (numsTo n) := by
 induction d with
 | zero =>
  intro k i hi hd hk
  obtain ⟨k, rfl⟩ : ∃ m, k = m + 1 := ⟨k - 1, by omega⟩
  obtain rfl : i = n := by omega
  simp only [impl_upTo.l0]; rw [if_neg (by omega)]
 | succ d ih =>
  intro k i hi hd hk
  obtain ⟨k, rfl⟩ : ∃ m, k = m + 1 := ⟨k - 1, by omega⟩
  simp only [impl_upTo.l0]
  by_cases e : i = n
  ·subst e; rw [if_neg (by omega)]
  ·rw [if_pos (by omega), if_pos (by rw [numsTo_len]; omega), w64_id (by omega) (by omega)]
   exact ih k (i + 1) (by omega) (by omega) (by omega)
theorem upTo_eq (n : Nat) (hn : n ≤ 1000) (k : Nat) (hk : n < k) : impl_upTo.f k n = some (numsTo n) := by
 unfold impl_upTo.f
 exact upTo_loop n hn n k 0 (by omega) (by omega) hk
def reachL (w h o c : Int) : List Int := if mOk w h o = true ∧ cellIn w h c = true then (numsTo (nCells w h).toNat).filter fun x => !(decide (rd (distL w h o c) x < 0)) else []
theorem impl_Reached_eq (w h o c : Int) (k : Nat) (hk : 400 ≤ k) : impl_Reached.f k w h o c = some (reachL w h o c) := by
 unfold impl_Reached.f reachL
 rw [isIn_eq]
 simp only [Option.bind_some, List.all_cons, List.all_nil, Bool.and_true]
 by_cases hq : mOk w h o = true ∧ cellIn w h c = true
 ·obtain ⟨c0, c1⟩ := cellIn_iff.1 hq.2
  have hn := nCells_bd w h
  have hl := (distL_ok (w := w) (h := h) (c := c) o c0 c1).1
  rw [if_pos (by simp [hq.1, hq.2]), if_pos hq, impl_dist_eq o c0 c1 k hk]
  simp only [Option.bind_some]
  have e : ((distL w h o c).length : Int) = (((nCells w h).toNat : Nat) : Int) := by omega
  rw [e, upTo_eq _ (by omega) k (by omega)]
  simp only [Option.bind_some]
  rw [if_pos]
  simp only [Bool.and_eq_true, decide_eq_true_eq, List.all_eq_true, numsTo_len]
  refine ⟨by omega, by omega, fun x hx => ?_⟩
  have := numsTo_mem.1 hx
  omega
 ·rw [if_neg (by simpa using hq), if_neg hq]
theorem spec_Reached_loop (D : List Int) (hD : D.length ≤ 1000) (d : Nat) : ∀ (k i : Nat), i ≤ D.length → D.length - i ≤ d → d < k → spec_Reached.l0 k ((numsTo i).filter fun x => !(decide (rd D x < 0))) D i = some ((numsTo D.length).filter fun x => !(decide (rd D x < 0))) := by
 induction d with
 | zero =>
  intro k i hi hd hk
  obtain ⟨k, rfl⟩ : ∃ m, k = m + 1 := ⟨k - 1, by omega⟩
  have e : i = D.length := by omega
  simp only [spec_Reached.l0]; rw [if_neg (by omega), e]
 | succ d ih =>
  intro k i hi hd hk
  obtain ⟨k, rfl⟩ : ∃ m, k = m + 1 := ⟨k - 1, by omega⟩
  simp only [spec_Reached.l0]
  by_cases e : i = D.length
  ·rw [if_neg (by omega), e]
  ·have hgo := ih k (i + 1) (by omega) (by omega) (by omega)
   have hl : ((numsTo i).filter fun x => !(decide (rd D x < 0))).length ≤ 1000 := Nat.le_trans (List.length_filter_le _ _) (by rw [numsTo_len]; omega)
   rw [show numsTo (i + 1) = numsTo i ++ [(i : Int)] from rfl, List.filter_append] at hgo
   rw [if_pos (by omega), if_pos (by omega), w64_id (by omega) (by omega)]
   by_cases hp : rd D i ≥ 0
   ·rw [if_pos hp, if_pos (by omega)]
    rw [show List.filter (fun x => !(decide (rd D x < 0))) [(i : Int)] = [(i : Int)] by simp; omega] at hgo
    exact hgo
   ·rw [if_neg hp]
    rw [show List.filter (fun x => !(decide (rd D x < 0))) [(i : Int)] = [] by simp; omega, List.append_nil] at hgo
    exact hgo
theorem spec_Reached_eq (w h o c : Int) (k : Nat) (hk : 400 ≤ k) : spec_Reached.f k w h o c = some (reachL w h o c) := by
 unfold spec_Reached.f reachL
 rw [has_eq]
 simp only [Option.bind_some]
 by_cases hq : mOk w h o = true ∧ cellIn w h c = true
 ·obtain ⟨c0, c1⟩ := cellIn_iff.1 hq.2
  have hn := nCells_bd w h
  have hl := (distL_ok (w := w) (h := h) (c := c) o c0 c1).1
  rw [if_pos (by simp [hq.1, hq.2]), if_pos hq, spec_dist_eq o c0 c1 k (by omega)]
  simp only [Option.bind_some]
  have := spec_Reached_loop (distL w h o c) (by omega) (distL w h o c).length k 0 (by omega) (by omega) (by omega)
  rw [show (nCells w h).toNat = (distL w h o c).length by omega]
  exact this
 ·rw [if_neg (by simpa using hq), if_neg hq]
def partsV (w h o : Int) : Int := if mOk w h o = true then (partsN w h o : Int) else 0
theorem reach_head {w h o : Int} {c : Nat} (hm : mOk w h o = true) (hc : (c : Int) < nCells w h) : 0 < (reachL w h o c).length ∧ (rd (reachL w h o c) 0 = (c : Int) ↔ repB w h o c = true) := by
 have hn := nCells_bd w h
 have hself : rd (distL w h o c) c = 0 := (distL_Dist (w := w) (h := h) o (by omega) hc).src
 have e1 : reachL w h o c = (numsTo (nCells w h).toNat).filter fun x => !(decide (rd (distL w h o c) x < 0)) := by
  unfold reachL; rw [if_pos ⟨hm, cellIn_iff.2 ⟨by omega, hc⟩⟩]
 obtain ⟨T, hT⟩ := numsTo_split (c := c) (nCells w h).toNat (by omega)
 rw [e1, hT, List.filter_append]
 have e2 : List.filter (fun x => !(decide (rd (distL w h o c) x < 0))) ((c : Int) :: T) = (c : Int) :: T.filter fun x => !(decide (rd (distL w h o c) x < 0)) := by
  rw [List.filter_cons, if_pos (by rw [hself]; rfl)]
 rw [e2]
 refine ⟨by simp; omega, ?_⟩
 unfold repB
 rw [List.all_eq_true]
 constructor
 ·intro hr x hx
  have hx' := List.mem_range.1 hx
  rw [decide_eq_true_eq]
  cases hf : (numsTo c).filter fun x => !(decide (rd (distL w h o c) x < 0)) with
  | nil =>
   have := List.filter_eq_nil_iff.1 hf (x : Int) (numsTo_mem.2 ⟨by omega, by omega⟩)
   simp at this; omega
  | cons y S =>
   rw [hf] at hr
   have hy : y = (c : Int) := hr
   have : y ∈ (numsTo c).filter fun x => !(decide (rd (distL w h o c) x < 0)) := by rw [hf]; exact List.mem_cons_self
   have := numsTo_mem.1 (List.mem_filter.1 this).1
   omega
 ·intro hh
  have hf : ((numsTo c).filter fun x => !(decide (rd (distL w h o c) x < 0))) = [] := by
   rw [List.filter_eq_nil_iff]
   intro x hx
   have hx' := numsTo_mem.1 hx
   have := hh x.toNat (List.mem_range.2 (by omega))
   rw [Int.toNat_of_nonneg hx'.1, decide_eq_true_eq] at this
   simp [this]
  rw [hf]; rfl
theorem repsN_step (w h o : Int) (i : Nat) : ((repsN w h o (i + 1) : Nat) : Int) = (repsN w h o i : Int) + (if repB w h o i = true then 1 else 0) := by
 simp only [repsN]
 cases repB w h o i <;> simp
theorem impl_parts_loop {w h o : Int} (hm : mOk w h o = true) (d : Nat) : ∀ (k i : Nat), (i : Int) ≤ nCells w h → (nCells w h).toNat - i ≤ d → d + 500 ≤ k → impl_CountParts.l0 k (repsN w h o i) i w h o = some (repsN w h o (nCells w h).toNat : Int) := by
 have hn := nCells_bd w h
 induction d with
 | zero =>
  intro k i hi hd hk
  obtain ⟨k, rfl⟩ : ∃ m, k = m + 1 := ⟨k - 1, by omega⟩
  have e : (nCells w h).toNat = i := by omega
  simp only [impl_CountParts.l0]
  rw [isIn_eq, hm, e]
  have : cellIn w h i = false := by
   cases hq : cellIn w h i with
   | false => rfl
   | true => have := cellIn_iff.1 hq; omega
  simp [this]
 | succ d ih =>
  intro k i hi hd hk
  obtain ⟨k, rfl⟩ : ∃ m, k = m + 1 := ⟨k - 1, by omega⟩
  by_cases hlt : (i : Int) < nCells w h
  ·have hgo := ih k (i + 1) (by omega) (by omega) (by omega)
   have hst := repsN_step w h o i
   have hle := repsN_le w h o i
   obtain ⟨h1, h2⟩ := reach_head hm hlt
   have hr := impl_Reached_eq w h o i k (by omega)
   simp only [impl_CountParts.l0]
   rw [isIn_eq, hm, hr]
   simp only [Option.bind_some, List.all_cons, List.all_nil, Bool.and_true, Bool.true_and]
   rw [if_pos (cellIn_iff.2 ⟨by omega, hlt⟩), if_pos (by omega), w64_id (x := (i : Int) + 1) (by omega) (by omega), w64_id (x := (repsN w h o i : Int) + 1) (by omega) (by omega)]
   by_cases hb : repB w h o i = true
   ·rw [if_pos (h2.2 hb)]
    rw [if_pos hb] at hst
    rw [hst] at hgo; exact hgo
   ·rw [if_neg (fun hh => hb (h2.1 hh))]
    rw [if_neg hb, Int.add_zero] at hst
    rw [hst] at hgo; exact hgo
  ·have e : (nCells w h).toNat = i := by omega
   simp only [impl_CountParts.l0]
   rw [isIn_eq, hm, e]
   have : cellIn w h i = false := by
    cases hq : cellIn w h i with
    | false => rfl
    | true => have := cellIn_iff.1 hq; omega
   simp [this]
theorem impl_CountParts_eq (w h o : Int) (k : Nat) (hk : 600 ≤ k) : impl_CountParts.f k w h o = some (partsV w h o) := by
 have hn := nCells_bd w h
 unfold impl_CountParts.f partsV partsN
 by_cases hm : mOk w h o = true
 ·rw [if_pos hm]
  exact impl_parts_loop hm (nCells w h).toNat k 0 (by omega) (by omega) (by omega)
 ·rw [if_neg hm]
  obtain ⟨k, rfl⟩ : ∃ m, k = m + 1 := ⟨k - 1, by omega⟩
  simp only [impl_CountParts.l0]
  rw [isIn_eq]
  simp [hm]
theorem spec_parts_loop {w h o : Int} (hm : mOk w h o = true) (d : Nat) : ∀ (k i : Nat), (i : Int) ≤ nCells w h → (nCells w h).toNat - i ≤ d → 2 * d + 500 ≤ k → spec_CountParts.l0 k (repsN w h o i) i w h o = some (repsN w h o (nCells w h).toNat : Int) := by
 have hn := nCells_bd w h
 induction d with
 | zero =>
  intro k i hi hd hk
  obtain ⟨k, rfl⟩ : ∃ m, k = m + 2 := ⟨k - 2, by omega⟩
  have e : (nCells w h).toNat = i := by omega
  simp only [spec_CountParts.l0, spec_CountCells_eq, Option.bind_some]
  rw [if_neg (by omega)]
  simp [spec_CountParts.j1, e]
 | succ d ih =>
  intro k i hi hd hk
  obtain ⟨k, rfl⟩ : ∃ m, k = m + 2 := ⟨k - 2, by omega⟩
  simp only [spec_CountParts.l0, spec_CountCells_eq, Option.bind_some]
  by_cases hlt : (i : Int) < nCells w h
  ·have hgo := ih k (i + 1) (by omega) (by omega) (by omega)
   have hst := repsN_step w h o i
   have hle := repsN_le w h o i
   obtain ⟨h1, h2⟩ := reach_head hm hlt
   have hr := spec_Reached_eq w h o i k (by omega)
   rw [if_pos hlt, spec_MazeOk_eq, hm]
   simp only [Option.bind_some, spec_CountParts.j1, if_true]
   rw [hr]
   simp only [Option.bind_some]
   rw [if_pos (by omega), w64_id (x := (i : Int) + 1) (by omega) (by omega), w64_id (x := (repsN w h o i : Int) + 1) (by omega) (by omega)]
   by_cases hb : repB w h o i = true
   ·rw [if_pos (h2.2 hb)]
    rw [if_pos hb] at hst
    rw [hst] at hgo; exact hgo
   ·rw [if_neg (fun hh => hb (h2.1 hh))]
    rw [if_neg hb, Int.add_zero] at hst
    rw [hst] at hgo; exact hgo
  ·have e : (nCells w h).toNat = i := by omega
   rw [if_neg hlt]
   simp [spec_CountParts.j1, e]
theorem spec_CountParts_eq (w h o : Int) (k : Nat) (hk : 600 ≤ k) : spec_CountParts.f k w h o = some (partsV w h o) := by
 have hn := nCells_bd w h
 unfold spec_CountParts.f partsV partsN
 by_cases hm : mOk w h o = true
 ·rw [if_pos hm]
  exact spec_parts_loop hm (nCells w h).toNat k 0 (by omega) (by omega) (by omega)
 ·rw [if_neg hm]
  obtain ⟨k, rfl⟩ : ∃ m, k = m + 2 := ⟨k - 2, by omega⟩
  simp only [spec_CountParts.l0, spec_CountCells_eq, Option.bind_some, spec_MazeOk_eq]
  by_cases hlt : (0 : Int) < nCells w h
  ·rw [if_pos hlt]; simp [spec_CountParts.j1, hm]
  ·rw [if_neg hlt]; simp [spec_CountParts.j1]
theorem spec_IsConnected_eq (w h o : Int) (k : Nat) (hk : 600 ≤ k) : spec_IsConnected.f k w h o = some (partsV w h o == 1) := by
 unfold spec_IsConnected.f; rw [spec_CountParts_eq w h o k hk]; rfl
theorem impl_IsConnected_eq (w h o : Int) (k : Nat) (hk : 600 ≤ k) : impl_IsConnected.f k w h o = some (partsV w h o == 1) := by
 unfold impl_IsConnected.f; rw [impl_CountParts_eq w h o k hk]; rfl
def perfV (w h o : Int) : Bool := if (partsV w h o == 1) = true then (pcnt w h o == nCells w h - 1) else false
theorem spec_CP_k (w h o : Int) (k : Nat) (hk : 60 ≤ k) : spec_CountPassages.f k w h o = some (pcnt w h o) := by
 have := spec_CountPassages_eq (k - 60) w h o
 rw [show k - 60 + 60 = k by omega] at this; exact this
theorem spec_IsPerfect_eq (w h o : Int) (k : Nat) (hk : 700 ≤ k) : spec_IsPerfect.f k w h o = some (perfV w h o) := by
 have hn := nCells_bd w h
 unfold spec_IsPerfect.f perfV
 rw [spec_IsConnected_eq w h o k (by omega)]
 simp only [Option.bind_some]
 rw [spec_CP_k w h o k (by omega), spec_CountCells_eq]
 simp only [Option.bind_some]
 rw [w64_id (by omega) (by omega)]
 split <;> rfl
theorem impl_IsPerfect_eq (w h o : Int) (k : Nat) (hk : 700 ≤ k) : impl_IsPerfect.f k w h o = some (perfV w h o) := by
 have hn := nCells_bd w h
 unfold impl_IsPerfect.f perfV
 rw [impl_IsConnected_eq w h o k (by omega)]
 simp only [Option.bind_some]
 rw [impl_CountPassages_eq, impl_CountCells_eq]
 simp only [Option.bind_some]
 rw [w64_id (by omega) (by omega)]
 split <;> rfl
def kru (w h : Int) : List Int → Int → Int
 | [], o => o
 | g :: l, o => kru w h l (if wouldJ w h o g = true then setG o g true else o)
theorem wouldJ_in {w h o g : Int} (hj : wouldJ w h o g = true) : mOk w h o = true ∧ gapIn w h g = true ∧ bitAt o g = false ∧ apart w h o g = true := by
 unfold wouldJ at hj
 simp only [Bool.and_eq_true, Bool.not_eq_true'] at hj
 exact hj
theorem impl_kru_loop {w h : Int} (l : List Int) (hl : l.length ≤ 1000) (d : Nat) : ∀ (k i : Nat) (o : Int), i + d = l.length → 1000 + d ≤ k → impl_KruskalMaze.l0 k l (l.length : Int) i w h o = some (w, h, kru w h (l.drop i) o, perfV w h (kru w h (l.drop i) o)) := by
 induction d with
 | zero =>
  intro k i o hi hk
  obtain ⟨k, rfl⟩ : ∃ m, k = m + 1 := ⟨k - 1, by omega⟩
  simp only [impl_KruskalMaze.l0]
  rw [if_neg (by omega), List.drop_of_length_le (by omega), impl_IsPerfect_eq w h o k (by omega)]; rfl
 | succ d ih =>
  intro k i o hi hk
  obtain ⟨k, rfl⟩ : ∃ m, k = m + 1 := ⟨k - 1, by omega⟩
  have hlt : i < l.length := by omega
  have hgo := fun o' => ih k (i + 1) o' (by omega) (by omega)
  simp only [impl_KruskalMaze.l0]
  rw [if_pos (by omega), if_pos (by omega), if_pos (by omega), impl_WouldJoin_eq w h o _ k (by omega), List.drop_eq_getElem_cons hlt, ← rd_mem l i hlt, w64_id (x := (i : Int) + 1) (by omega) (by omega), show (i : Int) + 1 = ((i + 1 : Nat) : Int) by omega]
  simp only [Option.bind_some, kru]
  by_cases hj : wouldJ w h o (rd l i) = true
  ·obtain ⟨hm, hg, _, _⟩ := wouldJ_in hj
   rw [if_pos hj, if_pos hj, impl_with_eq hm hg]
   exact hgo _
  ·rw [if_neg hj, if_neg hj]
   exact hgo _
theorem spec_kru_loop {w h : Int} (l : List Int) (hl : l.length ≤ 1000) (d : Nat) : ∀ (k i : Nat) (o : Int), i + d = l.length → 1000 + d ≤ k → spec_KruskalMaze.l1 k l i w h o = some (w, h, kru w h (l.drop i) o, perfV w h (kru w h (l.drop i) o)) := by
 induction d with
 | zero =>
  intro k i o hi hk
  obtain ⟨k, rfl⟩ : ∃ m, k = m + 1 := ⟨k - 1, by omega⟩
  simp only [spec_KruskalMaze.l1]
  rw [if_neg (by omega), List.drop_of_length_le (by omega), spec_IsPerfect_eq w h o k (by omega)]; rfl
 | succ d ih =>
  intro k i o hi hk
  obtain ⟨k, rfl⟩ : ∃ m, k = m + 1 := ⟨k - 1, by omega⟩
  have hlt : i < l.length := by omega
  have hgo := fun o' => ih k (i + 1) o' (by omega) (by omega)
  have hsg := spec_SetGap_eq (k - 1) w h o (rd l i) true
  rw [show k - 1 + 1 = k by omega] at hsg
  simp only [spec_KruskalMaze.l1]
  rw [if_pos (by omega), if_pos (by omega), spec_WouldJoin_eq w h o _ k (by omega), List.drop_eq_getElem_cons hlt, ← rd_mem l i hlt, w64_id (x := (i : Int) + 1) (by omega) (by omega), show (i : Int) + 1 = ((i + 1 : Nat) : Int) by omega]
  simp only [Option.bind_some, kru]
  by_cases hj : wouldJ w h o (rd l i) = true
  ·obtain ⟨hm, hg, _, _⟩ := wouldJ_in hj
   rw [if_pos hj, if_pos hj, hsg]
   unfold setM
   rw [if_pos ⟨hm, hg⟩]
   exact hgo _
  ·rw [if_neg hj, if_neg hj]
   exact hgo _
def kruV (w h : Int) (l : List Int) : Int × Int × Int × Bool := if gOk w h = true ∧ (l.all (gapIn w h)) = true ∧ l.length ≤ 100 then (w, h, kru w h l 0, perfV w h (kru w h l 0)) else (0, 0, 0, false)
theorem gapB_eq (w h c : Int) : gapB w h c = gapIn w h c := by
 unfold gapB; rw [isGap_eq]; rfl
theorem impl_KruskalMaze_eq (w h : Int) (l : List Int) (k : Nat) (hk : 1200 ≤ k) : impl_KruskalMaze.f k w h l = some (kruV w h l) := by
 unfold impl_KruskalMaze.f impl_areGaps.f kruV
 rw [impl_GridOk_eq]
 simp only [Option.bind_some]
 by_cases hk2 : gOk w h = true
 ·rw [if_pos hk2]
  by_cases hlen : (l.length : Int) ≤ 100
  ·rw [if_pos hlen]
   simp only [Option.bind_some]
   have e : (!(l.any fun c => !gapB w h c)) = l.all (gapIn w h) := by
    rw [List.not_any_eq_all_not]; congr 1; funext c; rw [gapB_eq]; simp
   rw [e]
   by_cases hall : l.all (gapIn w h) = true
   ·rw [if_pos hall, if_pos ⟨hk2, hall, by omega⟩]
    exact impl_kru_loop l (by omega) l.length k 0 0 (by omega) (by omega)
   ·rw [if_neg hall, if_neg (fun hh => hall hh.2.1)]
  ·rw [if_neg hlen, if_neg (fun hh => hlen (by omega))]; rfl
 ·rw [if_neg hk2, if_neg (fun hh => hk2 hh.1)]; rfl
theorem spec_kru_check {w h : Int} (l : List Int) (hl : l.length ≤ 1048576) (d : Nat) : ∀ (k i : Nat), i + d = l.length → 2300 + d ≤ k → spec_KruskalMaze.l0 k l i w h w h 0 = if gOk w h = true ∧ ((l.drop i).all (gapIn w h)) = true ∧ (i < l.length → l.length ≤ 100) then (if l.length ≤ 1000 then some (w, h, kru w h l 0, perfV w h (kru w h l 0)) else spec_KruskalMaze.l0 k l i w h w h 0) else some (0, 0, 0, false) := by
 induction d with
 | zero =>
  intro k i hi hk
  obtain ⟨k, rfl⟩ : ∃ m, k = m + 1 := ⟨k - 1, by omega⟩
  rw [List.drop_of_length_le (by omega)]
  by_cases hk2 : gOk w h = true
  ·rw [if_pos ⟨hk2, rfl, fun hh => absurd hh (by omega)⟩]
   by_cases hl1 : l.length ≤ 1000
   ·rw [if_pos hl1]
    simp only [spec_KruskalMaze.l0]
    rw [if_neg (by omega), spec_GridOk_eq]
    simp only [Option.bind_some]
    rw [if_pos hk2]
    exact spec_kru_loop l hl1 l.length k 0 0 (by omega) (by omega)
   ·rw [if_neg hl1]
  ·rw [if_neg (fun hh => hk2 hh.1)]
   simp only [spec_KruskalMaze.l0]
   rw [if_neg (by omega), spec_GridOk_eq]
   simp only [Option.bind_some]
   rw [if_neg hk2]
 | succ d ih =>
  intro k i hi hk
  obtain ⟨k, rfl⟩ : ∃ m, k = m + 1 := ⟨k - 1, by omega⟩
  have hlt : i < l.length := by omega
  have hgo := ih k (i + 1) (by omega) (by omega)
  rw [List.drop_eq_getElem_cons hlt, ← rd_mem l i hlt, List.all_cons]
  have hstep : spec_KruskalMaze.l0 (k + 1) l i w h w h 0 = if gapIn w h (rd l i) = true then (if (l.length : Int) > 100 then (some (0, 0, 0, false)) else spec_KruskalMaze.l0 k l ((i + 1 : Nat) : Int) w h w h 0) else some (0, 0, 0, false) := by
   simp only [spec_KruskalMaze.l0]
   rw [if_pos (by omega), if_pos (by omega), spec_CountGaps_eq]
   simp only [Option.bind_some]
   rw [l01In_eq, gapIn_spec, w64_id (x := (i : Int) + 1) (by omega) (by omega), show (i : Int) + 1 = ((i + 1 : Nat) : Int) by omega]
   simp only [Option.bind_some]
  rw [hstep]
  by_cases hg : gapIn w h (rd l i) = true
  ·rw [if_pos hg, hg, Bool.true_and]
   by_cases hlen : (l.length : Int) > 100
   ·rw [if_pos hlen, if_neg (fun hh => by have := hh.2.2 hlt; omega)]
   ·rw [if_neg hlen, hgo]
    have hl1 : l.length ≤ 1000 := by omega
    rw [if_pos hl1, if_pos hl1]
    by_cases hc : gOk w h = true ∧ ((l.drop (i + 1)).all (gapIn w h)) = true
    ·rw [if_pos ⟨hc.1, hc.2, fun _ => by omega⟩, if_pos ⟨hc.1, hc.2, fun _ => by omega⟩]
    ·rw [if_neg (fun hh => hc ⟨hh.1, hh.2.1⟩), if_neg (fun hh => hc ⟨hh.1, hh.2.1⟩)]
  ·rw [if_neg hg, if_neg (fun hh => hg (by have := hh.2.1; simp at this; exact this.1))]
theorem spec_KruskalMaze_eq (w h : Int) (l : List Int) (hl : l.length ≤ 1048576) (k : Nat) (hk : 2300 + l.length ≤ k) : spec_KruskalMaze.f k w h l = some (kruV w h l) := by
 unfold spec_KruskalMaze.f kruV
 have := spec_kru_check (w := w) (h := h) l hl l.length k 0 (by omega) (by omega)
 rw [List.drop_zero] at this
 rw [show (0 : Int) = ((0 : Nat) : Int) from rfl]
 rw [show ((0 : Nat) : Int) = 0 from rfl] at this ⊢
 rw [this]
 by_cases hc : gOk w h = true ∧ (l.all (gapIn w h)) = true ∧ l.length ≤ 100
 ·rw [if_pos ⟨hc.1, hc.2.1, fun _ => hc.2.2⟩, if_pos (by omega), if_pos hc]
 ·rw [if_neg hc]
  by_cases hc2 : gOk w h = true ∧ (l.all (gapIn w h)) = true ∧ (0 < l.length → l.length ≤ 100)
  ·exact absurd ⟨hc2.1, hc2.2.1, by by_cases hz : 0 < l.length; exact hc2.2.2 hz; omega⟩ hc
  ·rw [if_neg hc2]
theorem FnExactKruskalMaze : laws_FnExactKruskalMaze.Pure := by
 intro w h l _ _ _ _ _
 obtain ⟨K, hK⟩ : ∃ K, K = 2 * l.length + 3000 := ⟨_, rfl⟩
 refine ⟨K + 1, ?_⟩
 unfold laws_FnExactKruskalMaze.f
 by_cases hb : (l.length : Int) > 1048576
 ·rw [if_pos hb]
 ·rw [if_neg hb]
  have t0 := toIntS_eq l (by omega) (K + 1) (by omega)
  have t1 := toIntS_eq l (by omega) K (by omega)
  have s0 := spec_KruskalMaze_eq w h l (by omega) (K + 1) (by omega)
  have i0 := impl_KruskalMaze_eq w h l (K + 1) (by omega)
  have e1 := eqIntS_self l (by omega) K (by omega)
  simp only [toGrid_eq, t0, s0, i0, Option.bind_some, laws_eqMaze.f, laws_eqGrid.f, if_true, bne_self_eq_false, laws_FnExactKruskalMaze.j0, t1, e1, Bool.false_eq_true, if_false]

end Go.Proofs.Ytpaecckpdaiogaa.Pure
