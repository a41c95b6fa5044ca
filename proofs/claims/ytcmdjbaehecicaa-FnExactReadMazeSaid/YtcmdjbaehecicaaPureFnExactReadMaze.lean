/- The plain law FnExactReadMaze: for every input that its Go types allow, the printed functions of the program and of the reference answer so that the law's own function says true. No further condition. -/
import Derived.Test.YtcmdjbaehecicaaQx0
import Derived.Test.YtcmdjbaehecicaaQx1
import Derived.Test.YtcmdjbaehecicaaQx10
import Derived.Test.YtcmdjbaehecicaaQx11
import Derived.Test.YtcmdjbaehecicaaQx12
import Derived.Test.YtcmdjbaehecicaaQx13
import Derived.Test.YtcmdjbaehecicaaQx14
import Derived.Test.YtcmdjbaehecicaaQx15
import Derived.Test.YtcmdjbaehecicaaQx16
import Derived.Test.YtcmdjbaehecicaaQx17
import Derived.Test.YtcmdjbaehecicaaQx18
import Derived.Test.YtcmdjbaehecicaaQx19
import Derived.Test.YtcmdjbaehecicaaQx2
import Derived.Test.YtcmdjbaehecicaaQx20
import Derived.Test.YtcmdjbaehecicaaQx21
import Derived.Test.YtcmdjbaehecicaaQx22
import Derived.Test.YtcmdjbaehecicaaQx3
import Derived.Test.YtcmdjbaehecicaaQx4
import Derived.Test.YtcmdjbaehecicaaQx5
import Derived.Test.YtcmdjbaehecicaaQx6
import Derived.Test.YtcmdjbaehecicaaQx7
import Derived.Test.YtcmdjbaehecicaaQx8
import Derived.Test.YtcmdjbaehecicaaQx9
namespace Go.Proofs.Ytcmdjbaehecicaa.Q.P
open Go.RowKit Go.Proofs.Ytcmdjbaehecicaa.Q Go.Proofs.YtcmdjbaehecicaaW.PrintWords Go.Proofs.YtcmdjbaehecicaaW.PrintLast
set_option linter.unusedVariables false
set_option linter.unusedSimpArgs false

theorem w64_id {x : Int} (h0 : -9223372036854775808 ≤ x) (h1 : x ≤ 9223372036854775807) : wrap64 x = x := by
 unfold wrap64; omega
theorem shl_one {g : Int} (h0 : 0 ≤ g) (h1 : g ≤ 62) : shl .i64 1 g = 2 ^ g.toNat := by
 unfold shl
 rw [i64_w, Nat.min_eq_left (by simp only [IntKind.bits]; omega), Int.one_mul]
 have : (2 : Int) ^ g.toNat ≤ 2 ^ 62 := by
  have := Nat.pow_le_pow_right (n := 2) (by omega) (show g.toNat ≤ 62 by omega)
  exact_mod_cast this
 have h3 : (0 : Int) < 2 ^ g.toNat := by exact_mod_cast Nat.pow_pos (by omega)
 exact w64_id (by omega) (by omega)
theorem shl_pos {g : Int} (h0 : 0 ≤ g) (h1 : g ≤ 62) : 0 < shl .i64 1 g ∧ shl .i64 1 g ≤ 4611686018427387904 := by
 rw [shl_one h0 h1]
 have : (2 : Int) ^ g.toNat ≤ 2 ^ 62 := by
  have := Nat.pow_le_pow_right (n := 2) (by omega) (show g.toNat ≤ 62 by omega)
  exact_mod_cast this
 have h3 : (0 : Int) < 2 ^ g.toNat := by exact_mod_cast Nat.pow_pos (by omega)
 exact ⟨h3, by omega⟩
theorem shr_nat {o g : Int} (ho : 0 ≤ o) (h1 : g ≤ 64) : shr .i64 o g = ((o.toNat >>> g.toNat : Nat) : Int) := by
 unfold shr
 rw [Nat.min_eq_left (by simp only [IntKind.bits]; omega), Nat.shiftRight_eq_div_pow]
 obtain ⟨n, rfl⟩ := Int.eq_ofNat_of_zero_le ho
 simp only [Int.toNat_natCast]
 rw [Int.natCast_ediv, Int.natCast_pow]; rfl
def bitAt (o g : Int) : Bool := o.toNat.testBit g.toNat
theorem ofInt_nat (x : Nat) : BitVec.ofInt 64 (x : Int) = BitVec.ofNat 64 x := by
 apply BitVec.eq_of_toNat_eq; simp
theorem bits_and_nat {x y : Nat} (hx : x < 9223372036854775808) (hy : y < 9223372036854775808) : Go.bits .and .i64 (x : Int) (y : Int) = ((x &&& y : Nat) : Int) := by
 show IntKind.i64.wrap (((BitVec.ofInt 64 (x : Int)) &&& (BitVec.ofInt 64 (y : Int))).toNat : Int) = _
 rw [i64_w, ofInt_nat, ofInt_nat]
 simp only [BitVec.toNat_and, BitVec.toNat_ofNat]
 rw [Nat.mod_eq_of_lt (by omega), Nat.mod_eq_of_lt (by omega)]
 have := Nat.and_le_left (n := x) (m := y)
 exact w64_id (by omega) (by omega)
theorem bits_and_one {x : Nat} (hx : x < 9223372036854775808) : Go.bits .and .i64 (x : Int) 1 = ((x % 2 : Nat) : Int) := by
 rw [show (1 : Int) = ((1 : Nat) : Int) from rfl, bits_and_nat hx (by omega), Nat.and_one_is_mod]
theorem bit_test {o g : Int} (ho : 0 ≤ o) (ho2 : o ≤ 9223372036854775807) (h1 : g ≤ 64) : (Go.bits .and .i64 (shr .i64 o g) 1 == 1) = bitAt o g := by
 rw [shr_nat ho h1, bits_and_one (by rw [Nat.shiftRight_eq_div_pow]; have := Nat.div_le_self o.toNat (2 ^ g.toNat); omega)]
 unfold bitAt
 rw [Nat.testBit, Bool.eq_iff_iff]
 simp only [beq_iff_eq, bne_iff_ne, ne_eq, Nat.and_comm 1, Nat.and_one_is_mod]
 omega
theorem bits_or_nat {x y : Nat} (hx : x < 9223372036854775808) (hy : y < 9223372036854775808) : Go.bits .or .i64 (x : Int) (y : Int) = ((x ||| y : Nat) : Int) := by
 show IntKind.i64.wrap (((BitVec.ofInt 64 (x : Int)) ||| (BitVec.ofInt 64 (y : Int))).toNat : Int) = _
 rw [i64_w, ofInt_nat, ofInt_nat]
 simp only [BitVec.toNat_or, BitVec.toNat_ofNat]
 rw [Nat.mod_eq_of_lt (by omega), Nat.mod_eq_of_lt (by omega)]
 have := Nat.or_lt_two_pow (n := 63) (show x < 2 ^ 63 by omega) (show y < 2 ^ 63 by omega)
 exact w64_id (by omega) (by omega)
theorem bits_andNot_nat {x y : Nat} (hx : x < 9223372036854775808) (hy : y < 9223372036854775808) : ∃ z : Nat, Go.bits .andNot .i64 (x : Int) (y : Int) = (z : Int) ∧ z ≤ x ∧ ∀ i, z.testBit i = (x.testBit i && !y.testBit i) := by
 refine ⟨(BitVec.ofNat 64 x &&& ~~~ BitVec.ofNat 64 y).toNat, ?_, ?_, ?_⟩
 ·show IntKind.i64.wrap (((BitVec.ofInt 64 (x : Int)) &&& ~~~ (BitVec.ofInt 64 (y : Int))).toNat : Int) = _
  rw [i64_w, ofInt_nat, ofInt_nat]
  have h1 : (BitVec.ofNat 64 x &&& ~~~ BitVec.ofNat 64 y).toNat ≤ x := by
   rw [BitVec.toNat_and, BitVec.toNat_ofNat, Nat.mod_eq_of_lt (by omega)]; exact Nat.and_le_left
  exact w64_id (by omega) (by omega)
 ·rw [BitVec.toNat_and, BitVec.toNat_ofNat, Nat.mod_eq_of_lt (by omega)]; exact Nat.and_le_left
 ·intro i
  rw [BitVec.testBit_toNat, BitVec.getLsbD_and, BitVec.getLsbD_not, BitVec.getLsbD_ofNat, BitVec.getLsbD_ofNat]
  by_cases hi : i < 64
  ·simp [hi]
  ·have : x.testBit i = false := Nat.testBit_lt_two_pow (Nat.lt_of_lt_of_le hx (by
    have := Nat.pow_le_pow_right (n := 2) (by omega) (show 64 ≤ i by omega)
    omega))
   simp [hi, this]
def gOk (w h : Int) : Bool := decide (1 ≤ w) && decide (w ≤ 4) && decide (1 ≤ h) && decide (h ≤ 4)
theorem gOk_iff {w h : Int} : gOk w h = true ↔ 1 ≤ w ∧ w ≤ 4 ∧ 1 ≤ h ∧ h ≤ 4 := by
 unfold gOk; simp only [Bool.and_eq_true, decide_eq_true_eq]; omega
theorem gOk_cases {w h : Int} (hg : gOk w h = true) : (w = 1 ∨ w = 2 ∨ w = 3 ∨ w = 4) ∧ (h = 1 ∨ h = 2 ∨ h = 3 ∨ h = 4) := by
 have := gOk_iff.1 hg; omega
def nCells (w h : Int) : Int := if gOk w h = true then w * h else 0
def nGaps (w h : Int) : Int := if gOk w h = true then (w - 1) * h + w * (h - 1) else 0
def nCorn (w h : Int) : Int := if gOk w h = true then (w + 1) * (h + 1) else 0
def nEast (w h : Int) : Int := (w - 1) * h
theorem nCells_bd (w h : Int) : 0 ≤ nCells w h ∧ nCells w h ≤ 16 ∧ (gOk w h = true → 1 ≤ nCells w h) := by
 unfold nCells
 split
 ·rename_i hg; rcases gOk_cases hg with ⟨rfl | rfl | rfl | rfl, rfl | rfl | rfl | rfl⟩ <;> decide +kernel
 ·rename_i hg; exact ⟨by omega, by omega, fun h => absurd h hg⟩
theorem nGaps_bd (w h : Int) : 0 ≤ nGaps w h ∧ nGaps w h ≤ 24 := by
 unfold nGaps
 split
 ·rename_i hg; rcases gOk_cases hg with ⟨rfl | rfl | rfl | rfl, rfl | rfl | rfl | rfl⟩ <;> decide +kernel
 ·omega
theorem l01In_eq (a b c : Int) : spec_l01In.f a b c = some (decide (b ≤ a) && decide (a ≤ c)) := by
 unfold spec_l01In.f
 by_cases h : a ≥ b
 ·rw [if_pos h]; simp [show b ≤ a from h]
 ·rw [if_neg h]; simp [show ¬ b ≤ a from h]
theorem spec_GridOk_eq (w h : Int) : spec_GridOk.f w h = some (gOk w h) := by
 unfold spec_GridOk.f gOk
 simp only [l01In_eq, Option.bind_some]
 by_cases h1 : 1 ≤ w <;> by_cases h2 : w ≤ 4 <;> simp [h1, h2]
theorem impl_GridOk_eq (w h : Int) : impl_GridOk.f w h = some (gOk w h) := by
 unfold impl_GridOk.f gOk
 by_cases h1 : 1 ≤ w <;> by_cases h2 : w ≤ 4 <;> by_cases h3 : 1 ≤ h <;> simp [h1, h2, h3]
theorem toMaze_eq (w h o : Int) : laws_toMaze.f w h o = some (w, h, o) := rfl
theorem spec_CountCells_eq (w h : Int) : spec_CountCells.f w h = some (nCells w h) := by
 unfold spec_CountCells.f nCells
 rw [spec_GridOk_eq]; simp only [Option.bind_some]
 by_cases hg : gOk w h = true
 ·rw [if_pos hg, if_pos hg]
  rcases gOk_cases hg with ⟨rfl | rfl | rfl | rfl, rfl | rfl | rfl | rfl⟩ <;> decide +kernel
 ·rw [if_neg hg, if_neg hg]
theorem impl_CountCells_eq (w h : Int) : impl_CountCells.f w h = some (nCells w h) := by
 unfold impl_CountCells.f nCells
 rw [impl_GridOk_eq]; simp only [Option.bind_some]
 by_cases hg : gOk w h = true
 ·rw [if_pos hg, if_pos hg]
  rcases gOk_cases hg with ⟨rfl | rfl | rfl | rfl, rfl | rfl | rfl | rfl⟩ <;> decide +kernel
 ·rw [if_neg hg, if_neg hg]
theorem l02East_eq {w h : Int} (hg : gOk w h = true) : spec_l02East.f w h = some (nEast w h) := by
 unfold spec_l02East.f nEast
 rcases gOk_cases hg with ⟨rfl | rfl | rfl | rfl, rfl | rfl | rfl | rfl⟩ <;> decide +kernel
theorem spec_CountGaps_eq (w h : Int) : spec_CountGaps.f w h = some (nGaps w h) := by
 unfold spec_CountGaps.f nGaps
 rw [spec_GridOk_eq]; simp only [Option.bind_some]
 by_cases hg : gOk w h = true
 ·rw [if_pos hg, if_pos hg, l02East_eq hg]
  rcases gOk_cases hg with ⟨rfl | rfl | rfl | rfl, rfl | rfl | rfl | rfl⟩ <;> decide +kernel
 ·rw [if_neg hg, if_neg hg]
theorem impl_CountGaps_eq (w h : Int) : impl_CountGaps.f w h = some (nGaps w h) := by
 unfold impl_CountGaps.f nGaps
 rw [impl_GridOk_eq]; simp only [Option.bind_some]
 by_cases hg : gOk w h = true
 ·rw [if_pos hg, if_pos hg]
  rcases gOk_cases hg with ⟨rfl | rfl | rfl | rfl, rfl | rfl | rfl | rfl⟩ <;> decide +kernel
 ·rw [if_neg hg, if_neg hg]
def mOk (w h o : Int) : Bool := gOk w h && (decide (0 ≤ o) && decide (o < shl .i64 1 (nGaps w h)))
theorem mOk_iff {w h o : Int} : mOk w h o = true ↔ gOk w h = true ∧ 0 ≤ o ∧ o < 2 ^ (nGaps w h).toNat := by
 unfold mOk
 have := nGaps_bd w h
 rw [shl_one (by omega) (by omega)]
 simp only [Bool.and_eq_true, decide_eq_true_eq]
theorem mOk_bd {w h o : Int} (hm : mOk w h o = true) : 0 ≤ o ∧ o < 16777216 := by
 obtain ⟨_, h0, h1⟩ := mOk_iff.1 hm
 have := nGaps_bd w h
 have h2 := Nat.pow_le_pow_right (n := 2) (by omega) (show (nGaps w h).toNat ≤ 24 by omega)
 have h3 : (2 : Int) ^ (nGaps w h).toNat ≤ 2 ^ 24 := by exact_mod_cast h2
 omega
theorem spec_MazeOk_eq (w h o : Int) : spec_MazeOk.f w h o = some (mOk w h o) := by
 unfold spec_MazeOk.f mOk
 have hb := nGaps_bd w h
 have hs := shl_pos (g := nGaps w h) (by omega) (by omega)
 simp only [spec_GridOk_eq, spec_CountGaps_eq, l01In_eq, Option.bind_some]
 rw [if_pos hb.1, w64_id (by omega) (by omega)]
 by_cases hg : gOk w h = true
 ·rw [if_pos hg, hg, Bool.true_and]
  congr 2
  rw [Bool.eq_iff_iff]; simp only [decide_eq_true_eq]; omega
 ·rw [if_neg hg]; simp [hg]
theorem impl_MazeOk_eq (w h o : Int) : impl_MazeOk.f w h o = some (mOk w h o) := by
 unfold impl_MazeOk.f mOk
 have hb := nGaps_bd w h
 simp only [impl_GridOk_eq, impl_CountGaps_eq, Option.bind_some]
 rw [if_pos hb.1]
 by_cases hg : gOk w h = true
 ·rw [if_pos hg, hg, Bool.true_and]
  by_cases h0 : 0 ≤ o
  ·rw [if_pos h0]; simp [h0]
  ·rw [if_neg h0]; simp [h0]
 ·rw [if_neg hg]; simp [hg]
def gapIn (w h g : Int) : Bool := decide (0 ≤ g) && decide (g < nGaps w h)
theorem gapIn_iff {w h g : Int} : gapIn w h g = true ↔ 0 ≤ g ∧ g < nGaps w h := by unfold gapIn; simp
theorem gapIn_spec (w h g : Int) : (decide (0 ≤ g) && decide (g ≤ wrap64 (nGaps w h - 1))) = gapIn w h g := by
 have hb := nGaps_bd w h
 rw [w64_id (by omega) (by omega)]
 unfold gapIn; rw [Bool.eq_iff_iff]; simp; omega
theorem isOpen_eq {w h o g : Int} (hm : mOk w h o = true) (hg : g ≤ 64) : impl_isOpen.f w h o g = some (decide (0 ≤ g) && bitAt o g) := by
 unfold impl_isOpen.f
 have hb := mOk_bd hm
 by_cases h0 : 0 ≤ g
 ·rw [if_pos h0, if_pos h0, bit_test hb.1 (by omega) hg]; simp [h0]
 ·rw [if_neg h0]; simp [h0]
theorem l03Bit_eq {o g : Int} (ho : 0 ≤ o) (ho2 : o ≤ 9223372036854775807) (hg0 : 0 ≤ g) (hg : g ≤ 64) : spec_l03Bit.f o g = some (bitAt o g) := by
 unfold spec_l03Bit.f
 rw [if_pos hg0, bit_test ho ho2 hg]
def isPas (w h o g : Int) : Bool := mOk w h o && (gapIn w h g && bitAt o g)
theorem spec_IsPassage_eq (w h o g : Int) : spec_IsPassage.f w h o g = some (isPas w h o g) := by
 unfold spec_IsPassage.f isPas
 simp only [spec_MazeOk_eq, spec_CountGaps_eq, l01In_eq, Option.bind_some, gapIn_spec]
 by_cases hm : mOk w h o = true
 ·rw [if_pos hm, hm, Bool.true_and]
  by_cases hg : gapIn w h g = true
  ·have hb := mOk_bd hm
   have := gapIn_iff.1 hg
   have := nGaps_bd w h
   rw [if_pos hg, hg, Bool.true_and, l03Bit_eq hb.1 (by omega) (by omega) (by omega)]; rfl
  ·rw [if_neg hg]; simp [hg]
 ·rw [if_neg hm]; simp [hm]
def ends (w h g : Int) : Int × Int :=
 if gapIn w h g = true then (if g < nEast w h then (g / (w - 1) * w + g % (w - 1), g / (w - 1) * w + g % (w - 1) + 1) else (g - nEast w h, g - nEast w h + w)) else (-1, -1)
theorem spec_EndsOf_eq (w h g : Int) : spec_EndsOf.f w h g = some (ends w h g) := by
 unfold spec_EndsOf.f ends
 simp only [spec_CountGaps_eq, l01In_eq, Option.bind_some, gapIn_spec]
 by_cases hg : gapIn w h g = true
 ·rw [if_pos hg, if_pos hg]
  have h1 := gapIn_iff.1 hg
  have hk : gOk w h = true := by
   by_cases hk : gOk w h = true
   ·exact hk
   ·have := h1.2; unfold nGaps at this; rw [if_neg hk] at this; omega
  have h2 : nGaps w h = (w - 1) * h + w * (h - 1) := by unfold nGaps; rw [if_pos hk]
  rw [h2] at h1
  rw [l02East_eq hk]
  simp only [Option.bind_some]
  have e1 : wrap64 (w - 1) = w - 1 := by have := gOk_iff.1 hk; exact w64_id (by omega) (by omega)
  rw [e1]
  by_cases he : g < nEast w h
  ·rw [if_pos he, if_pos he]
   unfold nEast at he
   rcases gOk_cases hk with ⟨rfl | rfl | rfl | rfl, rfl | rfl | rfl | rfl⟩ <;> first | omega | (simp only [Int.reduceSub, Int.tdiv_eq_ediv_of_nonneg h1.1, Int.tmod_eq_emod_of_nonneg h1.1]; rw [if_neg (by decide), w64_id (x := g / _) (by omega) (by omega), w64_id (x := g / _ * _) (by omega) (by omega), w64_id (x := g / _ * _ + g % _) (by omega) (by omega), w64_id (by omega) (by omega)])
  ·rw [if_neg he, if_neg he]
   unfold nEast at he ⊢
   rcases gOk_cases hk with ⟨rfl | rfl | rfl | rfl, rfl | rfl | rfl | rfl⟩ <;> (rw [w64_id (x := g - _) (by omega) (by omega), w64_id (by omega) (by omega)])
 ·rw [if_neg hg, if_neg hg]
def nbr (w h c d : Int) : Int :=
 if 0 ≤ c ∧ c < nCells w h then (if d = 0 then (if 0 < c / w then c - w else -1) else if d = 1 then (if c % w < w - 1 then c + 1 else -1) else if d = 2 then (if c / w < h - 1 then c + w else -1) else if d = 3 then (if 0 < c % w then c - 1 else -1) else -1) else -1
theorem ok_of_cell {w h c : Int} (h0 : 0 ≤ c) (h1 : c < nCells w h) : gOk w h = true := by
 by_cases hk : gOk w h = true
 ·exact hk
 ·unfold nCells at h1; rw [if_neg hk] at h1; omega
theorem nCells_ok {w h : Int} (hk : gOk w h = true) : nCells w h = w * h := by unfold nCells; rw [if_pos hk]
theorem nGaps_ok {w h : Int} (hk : gOk w h = true) : nGaps w h = (w - 1) * h + w * (h - 1) := by unfold nGaps; rw [if_pos hk]
def cellIn (w h c : Int) : Bool := decide (0 ≤ c) && decide (c < nCells w h)
theorem cellIn_iff {w h c : Int} : cellIn w h c = true ↔ 0 ≤ c ∧ c < nCells w h := by unfold cellIn; simp
theorem cellIn_spec (w h c : Int) : (decide (0 ≤ c) && decide (c ≤ wrap64 (nCells w h - 1))) = cellIn w h c := by
 have hb := nCells_bd w h
 rw [w64_id (by omega) (by omega)]
 unfold cellIn; rw [Bool.eq_iff_iff]; simp; omega
theorem spec_Nb_j0 {w h : Int} (hk : gOk w h = true) (k : Nat) (x y : Int) (hx : -1 ≤ x ∧ x ≤ 4) (hy : -1 ≤ y ∧ y ≤ 4) :
  spec_Neighbor.j0 (k + 1) x y w h = some (if (0 ≤ x ∧ x ≤ w - 1) ∧ (0 ≤ y ∧ y ≤ h - 1) then y * w + x else -1) := by
 have hw := gOk_iff.1 hk
 have p1 : -20 ≤ y * w ∧ y * w ≤ 20 := by
  rcases gOk_cases hk with ⟨rfl | rfl | rfl | rfl, _⟩ <;> omega
 simp only [spec_Neighbor.j0, l01In_eq, Option.bind_some]
 rw [w64_id (x := w - 1) (by omega) (by omega), w64_id (x := h - 1) (by omega) (by omega), w64_id (x := y * w) (by omega) (by omega), w64_id (x := y * w + x) (by omega) (by omega)]
 by_cases h1 : 0 ≤ x ∧ x ≤ w - 1
 ·rw [if_pos (by simp [h1])]
  by_cases h2 : 0 ≤ y ∧ y ≤ h - 1
  ·rw [if_pos (by simp [h2]), if_pos ⟨h1, h2⟩]
  ·rw [if_neg (by simpa using h2), if_neg (fun hh => h2 hh.2)]
 ·rw [if_neg (by simpa using h1), if_neg (fun hh => h1 hh.1)]
theorem cell_xy {w h c : Int} (h0 : 0 ≤ c) (h1 : c < nCells w h) : (0 ≤ c % w ∧ c % w ≤ w - 1) ∧ (0 ≤ c / w ∧ c / w ≤ h - 1) ∧ c = c / w * w + c % w := by
 have hk := ok_of_cell h0 h1
 rw [nCells_ok hk] at h1
 rcases gOk_cases hk with ⟨rfl | rfl | rfl | rfl, rfl | rfl | rfl | rfl⟩ <;> omega
theorem cell_w64 {w h c : Int} (h0 : 0 ≤ c) (h1 : c < nCells w h) : wrap64 (Int.tdiv c w) = c / w ∧ Int.tmod c w = c % w := by
 have := cell_xy h0 h1
 have hw := gOk_iff.1 (ok_of_cell h0 h1)
 rw [Int.tdiv_eq_ediv_of_nonneg h0, Int.tmod_eq_emod_of_nonneg h0]
 exact ⟨w64_id (by omega) (by omega), rfl⟩
theorem spec_Neighbor_eq (k : Nat) (w h c d : Int) : spec_Neighbor.f (k + 1) w h c d = some (nbr w h c d) := by
 unfold spec_Neighbor.f nbr
 simp only [spec_CountCells_eq, l01In_eq, Option.bind_some, cellIn_spec]
 by_cases hc : cellIn w h c = true
 ·obtain ⟨h0, h1⟩ := cellIn_iff.1 hc
  have hk := ok_of_cell h0 h1
  have hw := gOk_iff.1 hk
  have hxy := cell_xy h0 h1
  obtain ⟨e1, e2⟩ := cell_w64 h0 h1
  rw [if_pos hc, if_pos (show 0 ≤ c ∧ c < nCells w h from ⟨h0, h1⟩), if_neg (show ¬ w = 0 by omega), e1, e2]
  have q1 : wrap64 (c / w - 1) = c / w - 1 := w64_id (by omega) (by omega)
  have q2 : wrap64 (c / w + 1) = c / w + 1 := w64_id (by omega) (by omega)
  have q3 : wrap64 (c % w - 1) = c % w - 1 := w64_id (by omega) (by omega)
  have q4 : wrap64 (c % w + 1) = c % w + 1 := w64_id (by omega) (by omega)
  rw [q1, q2, q3, q4]
  have t1 : (c / w - 1) * w = c / w * w - w := by rw [Int.sub_mul, Int.one_mul]
  have t2 : (c / w + 1) * w = c / w * w + w := by rw [Int.add_mul, Int.one_mul]
  by_cases d0 : d = 0
  ·rw [if_pos d0, if_pos d0, spec_Nb_j0 hk _ _ _ (by omega) (by omega)]
   congr 1; rw [t1]
   by_cases z : 0 < c / w
   ·rw [if_pos z, if_pos (by omega)]; omega
   ·rw [if_neg z, if_neg (by omega)]
  ·rw [if_neg d0, if_neg d0]
   by_cases d1 : d = 1
   ·rw [if_pos d1, if_pos d1, spec_Nb_j0 hk _ _ _ (by omega) (by omega)]
    congr 1
    by_cases z : c % w < w - 1
    ·rw [if_pos z, if_pos (by omega)]; omega
    ·rw [if_neg z, if_neg (by omega)]
   ·rw [if_neg d1, if_neg d1]
    by_cases d2 : d = 2
    ·rw [if_pos d2, if_pos d2, spec_Nb_j0 hk _ _ _ (by omega) (by omega)]
     congr 1; rw [t2]
     by_cases z : c / w < h - 1
     ·rw [if_pos z, if_pos (by omega)]; omega
     ·rw [if_neg z, if_neg (by omega)]
    ·rw [if_neg d2, if_neg d2]
     by_cases d3 : d = 3
     ·rw [if_pos d3, if_pos d3, spec_Nb_j0 hk _ _ _ (by omega) (by omega)]
      congr 1
      by_cases z : 0 < c % w
      ·rw [if_pos z, if_pos (by omega)]; omega
      ·rw [if_neg z, if_neg (by omega)]
     ·rw [if_neg d3, if_neg d3]
 ·rw [if_neg hc, if_neg (fun hh => hc (cellIn_iff.2 hh))]
theorem nbr_cases {w h c d : Int} (hn : 0 ≤ nbr w h c d) : (0 ≤ c ∧ c < nCells w h) ∧ ((d = 0 ∧ 0 < c / w ∧ nbr w h c d = c - w) ∨ (d = 1 ∧ c % w < w - 1 ∧ nbr w h c d = c + 1) ∨ (d = 2 ∧ c / w < h - 1 ∧ nbr w h c d = c + w) ∨ (d = 3 ∧ 0 < c % w ∧ nbr w h c d = c - 1)) := by
 unfold nbr at hn ⊢
 by_cases hc : 0 ≤ c ∧ c < nCells w h
 ·rw [if_pos hc] at hn ⊢
  refine ⟨hc, ?_⟩
  by_cases d0 : d = 0
  ·rw [if_pos d0] at hn ⊢
   by_cases z : 0 < c / w
   ·rw [if_pos z]; exact .inl ⟨d0, z, rfl⟩
   ·rw [if_neg z] at hn; omega
  ·rw [if_neg d0] at hn ⊢
   by_cases d1 : d = 1
   ·rw [if_pos d1] at hn ⊢
    by_cases z : c % w < w - 1
    ·rw [if_pos z]; exact .inr (.inl ⟨d1, z, rfl⟩)
    ·rw [if_neg z] at hn; omega
   ·rw [if_neg d1] at hn ⊢
    by_cases d2 : d = 2
    ·rw [if_pos d2] at hn ⊢
     by_cases z : c / w < h - 1
     ·rw [if_pos z]; exact .inr (.inr (.inl ⟨d2, z, rfl⟩))
     ·rw [if_neg z] at hn; omega
    ·rw [if_neg d2] at hn ⊢
     by_cases d3 : d = 3
     ·rw [if_pos d3] at hn ⊢
      by_cases z : 0 < c % w
      ·rw [if_pos z]; exact .inr (.inr (.inr ⟨d3, z, rfl⟩))
      ·rw [if_neg z] at hn; omega
     ·rw [if_neg d3] at hn; omega
 ·rw [if_neg hc] at hn; omega
theorem nbr_bd {w h c d : Int} (hn : 0 ≤ nbr w h c d) : nbr w h c d < nCells w h := by
 obtain ⟨⟨h0, h1⟩, hd⟩ := nbr_cases hn
 have hk := ok_of_cell h0 h1
 rw [nCells_ok hk] at h1 ⊢
 rcases gOk_cases hk with ⟨rfl | rfl | rfl | rfl, rfl | rfl | rfl | rfl⟩ <;> omega
def gapAt (w h c d : Int) : Int :=
 if nbr w h c d < 0 then -1 else if d = 1 ∨ d = 3 then mn c (nbr w h c d) / w * (w - 1) + mn c (nbr w h c d) % w else nEast w h + mn c (nbr w h c d)
theorem mn_bd {w h c d : Int} (hn : 0 ≤ nbr w h c d) : 0 ≤ mn c (nbr w h c d) ∧ mn c (nbr w h c d) < nCells w h := by
 have h1 := nbr_bd hn
 obtain ⟨⟨h2, h3⟩, _⟩ := nbr_cases hn
 unfold mn; split <;> omega
theorem gap_w64 {w h c d : Int} (hn : 0 ≤ nbr w h c d) :
  wrap64 ((wrap64 ((wrap64 (Int.tdiv (mn c (nbr w h c d)) w)) * (wrap64 (w - 1)))) + (Int.tmod (mn c (nbr w h c d)) w)) = mn c (nbr w h c d) / w * (w - 1) + mn c (nbr w h c d) % w ∧ wrap64 (nEast w h + mn c (nbr w h c d)) = nEast w h + mn c (nbr w h c d) ∧ w ≠ 0 ∧ wrap64 ((wrap64 (w - 1)) * h) = nEast w h := by
 obtain ⟨m0, m1⟩ := mn_bd hn
 generalize mn c (nbr w h c d) = m at m0 m1 ⊢
 have hk := ok_of_cell m0 m1
 have hw := gOk_iff.1 hk
 have hxy := cell_xy m0 m1
 have hb := nCells_bd w h
 obtain ⟨e1, e2⟩ := cell_w64 m0 m1
 have e3 : wrap64 (w - 1) = w - 1 := w64_id (by omega) (by omega)
 have p1 : 0 ≤ m / w * (w - 1) ∧ m / w * (w - 1) ≤ 16 := by
  have q0 : 0 ≤ m / w * (w - 1) := Int.mul_nonneg hxy.2.1.1 (by omega)
  have q1 : m / w * (w - 1) = m / w * w - m / w := by rw [Int.mul_sub, Int.mul_one]
  omega
 have p2 : 0 ≤ nEast w h ∧ nEast w h ≤ 12 := by
  unfold nEast
  rcases gOk_cases hk with ⟨rfl | rfl | rfl | rfl, rfl | rfl | rfl | rfl⟩ <;> decide
 rw [e1, e2, e3, w64_id (x := m / w * (w - 1)) (by omega) (by omega)]
 refine ⟨w64_id (by omega) (by omega), w64_id (by omega) (by omega), by omega, ?_⟩
 have : (w - 1) * h = nEast w h := rfl
 rw [this]; exact w64_id (by omega) (by omega)
theorem spec_GapAt_eq (k : Nat) (w h c d : Int) : spec_GapAt.f (k + 1) w h c d = some (gapAt w h c d) := by
 unfold spec_GapAt.f gapAt
 rw [spec_Neighbor_eq]; simp only [Option.bind_some]
 by_cases hn : nbr w h c d < 0
 ·rw [if_pos hn, if_pos hn]
 ·rw [if_neg hn, if_neg hn]
  obtain ⟨e1, e2, e3, e4⟩ := gap_w64 (w := w) (h := h) (c := c) (d := d) (by omega)
  obtain ⟨m0, m1⟩ := mn_bd (w := w) (h := h) (c := c) (d := d) (by omega)
  rw [if_neg e3, e1, l02East_eq (ok_of_cell m0 m1)]
  simp only [Option.bind_some]
  rw [e2]
  by_cases d1 : d = 1
  ·rw [if_pos d1, if_pos (.inl d1)]
  ·rw [if_neg d1]
   by_cases d3 : d = 3
   ·rw [if_pos d3, if_pos (.inr d3)]
   ·rw [if_neg d3, if_neg (by omega)]
theorem gapAt_nonneg {w h c d : Int} : 0 ≤ gapAt w h c d ↔ 0 ≤ nbr w h c d := by
 unfold gapAt
 by_cases hn : nbr w h c d < 0
 ·rw [if_pos hn]; omega
 ·rw [if_neg hn]
  have hn' : 0 ≤ nbr w h c d := by omega
  obtain ⟨m0, m1⟩ := mn_bd hn'
  have hk := ok_of_cell m0 m1
  have hw := gOk_iff.1 hk
  have hxy := cell_xy m0 m1
  have q0 : 0 ≤ mn c (nbr w h c d) / w * (w - 1) := Int.mul_nonneg hxy.2.1.1 (by omega)
  have q1 : 0 ≤ nEast w h := Int.mul_nonneg (by omega) (by omega)
  split <;> omega
theorem gapAt_bd {w h c d : Int} (hn : 0 ≤ nbr w h c d) : 0 ≤ gapAt w h c d ∧ gapAt w h c d < nGaps w h := by
 refine ⟨gapAt_nonneg.2 hn, ?_⟩
 obtain ⟨⟨h0, h1⟩, hd⟩ := nbr_cases hn
 have hk := ok_of_cell h0 h1
 unfold gapAt mn nEast
 rw [if_neg (by omega), nGaps_ok hk]
 rw [nCells_ok hk] at h1
 rcases hd with ⟨rfl, z, e⟩ | ⟨rfl, z, e⟩ | ⟨rfl, z, e⟩ | ⟨rfl, z, e⟩ <;> rw [e] <;> simp only [Int.reduceEq, or_false, or_true, false_or, or_self, if_true, if_false] <;>
  rcases gOk_cases hk with ⟨rfl | rfl | rfl | rfl, rfl | rfl | rfl | rfl⟩ <;> split <;> omega
theorem gapAt_in {w h c d : Int} : gapIn w h (gapAt w h c d) = decide (0 ≤ gapAt w h c d) := by
 rw [Bool.eq_iff_iff, gapIn_iff, decide_eq_true_eq]
 exact ⟨fun h => h.1, fun h => gapAt_bd (gapAt_nonneg.1 h)⟩
def stp (w h o c d : Int) : Int :=
 if mOk w h o = true then (if 0 ≤ gapAt w h c d ∧ bitAt o (gapAt w h c d) = true then nbr w h c d else -1) else -1
theorem spec_Step_eq (k : Nat) (w h o c d : Int) : spec_Step.f (k + 1) w h o c d = some (stp w h o c d) := by
 unfold spec_Step.f stp
 simp only [spec_MazeOk_eq, spec_GapAt_eq, spec_Neighbor_eq, spec_IsPassage_eq, Option.bind_some]
 by_cases hm : mOk w h o = true
 ·rw [if_pos hm, if_pos hm]
  have e : isPas w h o (gapAt w h c d) = true ↔ (0 ≤ gapAt w h c d ∧ bitAt o (gapAt w h c d) = true) := by
   unfold isPas; rw [gapAt_in]; simp [hm]
  by_cases hp : isPas w h o (gapAt w h c d) = true
  ·rw [if_pos hp, if_pos (e.1 hp)]
  ·rw [if_neg hp, if_neg (fun hh => hp (e.2 hh))]
 ·rw [if_neg hm, if_neg hm]
theorem stp_bd {w h o c d : Int} (hs : 0 ≤ stp w h o c d) : mOk w h o = true ∧ (0 ≤ c ∧ c < nCells w h) ∧ (0 ≤ d ∧ d ≤ 3) ∧ stp w h o c d < nCells w h ∧ stp w h o c d = nbr w h c d := by
 unfold stp at hs ⊢
 by_cases hm : mOk w h o = true
 ·rw [if_pos hm] at hs ⊢
  by_cases hp : 0 ≤ gapAt w h c d ∧ bitAt o (gapAt w h c d) = true
  ·rw [if_pos hp] at hs ⊢
   obtain ⟨h1, h2⟩ := nbr_cases hs
   exact ⟨hm, h1, by omega, nbr_bd hs, rfl⟩
  ·rw [if_neg hp] at hs; omega
 ·rw [if_neg hm] at hs; omega
theorem ok_of_gap {w h g : Int} (hg : gapIn w h g = true) : gOk w h = true := by
 have h1 := gapIn_iff.1 hg
 by_cases hk : gOk w h = true
 ·exact hk
 ·have := h1.2; unfold nGaps at this; rw [if_neg hk] at this; omega
theorem ends_bd {w h g : Int} (hg : gapIn w h g = true) : 0 ≤ (ends w h g).1 ∧ (ends w h g).1 < (ends w h g).2 ∧ (ends w h g).2 < nCells w h ∧ (g < nEast w h → (ends w h g).2 = (ends w h g).1 + 1) ∧ (¬ g < nEast w h → (ends w h g).2 = (ends w h g).1 + w) := by
 have hk := ok_of_gap hg
 have h1 := gapIn_iff.1 hg
 rw [nGaps_ok hk] at h1
 rw [nCells_ok hk]
 unfold ends
 by_cases he : g < nEast w h
 ·simp only [hg, he, ↓reduceIte, not_true_eq_false, false_imp_iff, and_true, true_imp_iff]
  unfold nEast at he
  rcases gOk_cases hk with ⟨rfl | rfl | rfl | rfl, rfl | rfl | rfl | rfl⟩ <;> omega
 ·simp only [hg, he, ↓reduceIte, not_false_eq_true, false_imp_iff, and_true, true_imp_iff, true_and]
  unfold nEast at he ⊢
  rcases gOk_cases hk with ⟨rfl | rfl | rfl | rfl, rfl | rfl | rfl | rfl⟩ <;> omega
def setG (o g : Int) (b : Bool) : Int := if bitAt o g = b then o else ((o.toNat ^^^ 2 ^ g.toNat : Nat) : Int)
theorem two_pow_le {g : Int} (h1 : g ≤ 24) : 2 ^ g.toNat ≤ 16777216 := by
 have := Nat.pow_le_pow_right (n := 2) (by omega) (show g.toNat ≤ 24 by omega)
 omega
theorem shl_nat {g : Int} (h0 : 0 ≤ g) (h1 : g ≤ 24) : shl .i64 1 g = ((2 ^ g.toNat : Nat) : Int) := by
 rw [shl_one h0 (by omega)]; simp
theorem setG_bd {o g : Int} {b : Bool} (n : Int) (ho : 0 ≤ o) (hl : o < 2 ^ n.toNat) (h0 : 0 ≤ g) (h1 : g < n) : 0 ≤ setG o g b ∧ setG o g b < 2 ^ n.toNat := by
 unfold setG
 split
 ·exact ⟨ho, hl⟩
 ·refine ⟨by omega, ?_⟩
  have a1 : o.toNat < 2 ^ n.toNat := by
   have : ((o.toNat : Nat) : Int) < ((2 ^ n.toNat : Nat) : Int) := by rw [Int.toNat_of_nonneg ho]; simpa using hl
   exact_mod_cast this
  have a2 : 2 ^ g.toNat < 2 ^ n.toNat := Nat.pow_lt_pow_right (by omega) (by omega)
  have := Nat.xor_lt_two_pow a1 a2
  exact_mod_cast this
theorem mOk_setG {w h o g : Int} {b : Bool} (hm : mOk w h o = true) (hg : gapIn w h g = true) : mOk w h (setG o g b) = true := by
 obtain ⟨hk, h0, h1⟩ := mOk_iff.1 hm
 obtain ⟨g0, g1⟩ := gapIn_iff.1 hg
 obtain ⟨s0, s1⟩ := setG_bd (b := b) (nGaps w h) h0 h1 g0 g1
 exact mOk_iff.2 ⟨hk, s0, s1⟩
theorem clear_setG {o g : Int} (ho : 0 ≤ o) (ho2 : o < 16777216) (h0 : 0 ≤ g) (h1 : g ≤ 24) : Go.bits .andNot .i64 o (shl .i64 1 g) = setG o g false := by
 have h2 := two_pow_le h1
 rw [shl_nat h0 h1]
 obtain ⟨n, rfl⟩ := Int.eq_ofNat_of_zero_le ho
 obtain ⟨z, e, _, hz⟩ := bits_andNot_nat (x := n) (y := 2 ^ g.toNat) (by omega) (by omega)
 rw [e]; unfold setG bitAt
 simp only [Int.toNat_natCast]
 by_cases hb : n.testBit g.toNat = false
 ·rw [if_pos hb]
  congr 1
  apply Nat.eq_of_testBit_eq
  intro i
  rw [hz, Nat.testBit_two_pow]
  by_cases e2 : g.toNat = i
  ·subst e2; simp [hb]
  ·simp [e2]
 ·rw [if_neg hb]
  congr 1
  apply Nat.eq_of_testBit_eq
  intro i
  rw [hz, Nat.testBit_two_pow, Nat.testBit_xor, Nat.testBit_two_pow]
  by_cases e2 : g.toNat = i
  ·subst e2; simp at hb; simp [hb]
  ·simp [e2]
theorem open_setG {o g : Int} (ho : 0 ≤ o) (ho2 : o < 16777216) (h0 : 0 ≤ g) (h1 : g ≤ 24) : Go.bits .or .i64 (Go.bits .andNot .i64 o (shl .i64 1 g)) (shl .i64 1 g) = setG o g true := by
 have h2 := two_pow_le h1
 rw [shl_nat h0 h1]
 obtain ⟨n, rfl⟩ := Int.eq_ofNat_of_zero_le ho
 obtain ⟨z, e, hle, hz⟩ := bits_andNot_nat (x := n) (y := 2 ^ g.toNat) (by omega) (by omega)
 rw [e, bits_or_nat (by omega) (by omega)]; unfold setG bitAt
 simp only [Int.toNat_natCast]
 by_cases hb : n.testBit g.toNat = true
 ·rw [if_pos hb]
  congr 1
  apply Nat.eq_of_testBit_eq
  intro i
  rw [Nat.testBit_or, hz, Nat.testBit_two_pow]
  by_cases e2 : g.toNat = i
  ·subst e2; simp [hb]
  ·simp [e2]
 ·rw [if_neg hb]
  congr 1
  apply Nat.eq_of_testBit_eq
  intro i
  rw [Nat.testBit_or, hz, Nat.testBit_two_pow, Nat.testBit_xor, Nat.testBit_two_pow]
  by_cases e2 : g.toNat = i
  ·subst e2; simp at hb; simp [hb]
  ·simp [e2]
theorem impl_with_eq {w h o g : Int} {b : Bool} (hm : mOk w h o = true) (hg : gapIn w h g = true) : impl_with.f w h o g b = some (w, h, setG o g b) := by
 unfold impl_with.f
 have hb := mOk_bd hm
 have hg2 := gapIn_iff.1 hg
 have hn := nGaps_bd w h
 rw [if_pos hg2.1]
 cases b with
 | true => rw [if_pos rfl, open_setG hb.1 hb.2 hg2.1 (by omega)]
 | false => rw [if_neg (by decide), clear_setG hb.1 hb.2 hg2.1 (by omega)]
theorem stp_iff {w h o c d : Int} : 0 ≤ stp w h o c d ↔ mOk w h o = true ∧ 0 ≤ nbr w h c d ∧ bitAt o (gapAt w h c d) = true := by
 constructor
 ·intro hs
  obtain ⟨hm, _, _, _, he⟩ := stp_bd hs
  have hn : 0 ≤ nbr w h c d := by omega
  refine ⟨hm, hn, ?_⟩
  unfold stp at hs
  rw [if_pos hm] at hs
  split at hs
  ·rename_i hq; exact hq.2
  ·omega
 ·rintro ⟨hm, hn, hb⟩
  have hg := gapAt_bd hn
  unfold stp
  rw [if_pos hm, if_pos ⟨hg.1, hb⟩]
  exact hn
theorem eqStringS_tot (l : List ByteArray) (hl : l.length ≤ 1000000000000) (d : Nat) : ∀ (k : Nat) (i : Int), 0 ≤ i → (l.length : Int) - i ≤ d → d < k → laws_eqStringS.l0 k l l i = some true := by
 induction d with
 | zero =>
  intro k i h0 hd hk
  obtain ⟨k, rfl⟩ : ∃ m, k = m + 1 := ⟨k - 1, by omega⟩
  simp only [laws_eqStringS.l0]; rw [if_neg (by omega)]
 | succ d ih =>
  intro k i h0 hd hk
  obtain ⟨k, rfl⟩ : ∃ m, k = m + 1 := ⟨k - 1, by omega⟩
  simp only [laws_eqStringS.l0]
  by_cases h1 : i < (l.length : Int)
  ·rw [if_pos h1, if_pos h0, if_pos h1, if_pos trivial, w64_id (x := i + 1) (by omega) (by omega)]
   exact ih _ _ (by omega) (by omega) (by omega)
  ·rw [if_neg h1]
theorem eqStringS_self (l : List ByteArray) (hl : l.length ≤ 1000000000000) (k : Nat) (hk : l.length < k) : laws_eqStringS.f k l l = some true := by
 unfold laws_eqStringS.f
 rw [if_pos rfl]
 exact eqStringS_tot l hl l.length k 0 (by omega) (by omega) hk
def mtx (x : Int) : ByteArray := (laws_markText.f 5 x).getD ByteArray.empty
theorem markText_tot (k : Nat) : ∀ (x : Int) (t : ByteArray), 0 ≤ x → x < 10 ^ k → k ≤ 10 → t.size + k ≤ 1000 → ∃ v, laws_markText.l0 (k + 1) x t = some v := by
 induction k with
 | zero =>
  intro x t h0 h1 _ ht
  simp only [laws_markText.l0]
  rw [if_neg (by omega), if_pos (by omega)]
  exact ⟨_, rfl⟩
 | succ k ih =>
  intro x t h0 h1 hk ht
  have hp : (10 : Int) ^ (k + 1) ≤ 10 ^ 10 := by
   have := Nat.pow_le_pow_right (show 0 < 10 by decide) hk
   exact_mod_cast this
  have hdv : wrap64 (Int.tdiv x 10) = x / 10 := by
   rw [Int.tdiv_eq_ediv_of_nonneg h0]; exact w64_id (by omega) (by omega)
  have hlt : x / 10 < 10 ^ k := by
   rw [Int.pow_succ] at h1; omega
  generalize hm : k + 1 = m
  simp only [laws_markText.l0]
  by_cases hx : x > 0
  ·rw [if_pos hx]
   simp only [Option.bind_some]
   have hs1 : ∀ y : Int, (strOfNums [y]).size = 1 := fun y => by show (strOfNums [y]).data.size = 1; simp [strOfNums]
   rw [if_pos (by rw [hs1]; omega), hdv, ← hm]
   refine ih _ _ (by omega) hlt (by omega) ?_
   rw [ByteArray.size_append, hs1]; omega
  ·rw [if_neg hx, if_pos (by omega)]
   exact ⟨_, rfl⟩
theorem mtx_some (x : Nat) (hx : x < 60) : ∃ v, laws_markText.f 5 (x : Int) = some v := by
 unfold laws_markText.f
 by_cases h0 : (x : Int) ≤ 0
 ·rw [if_pos h0]; exact ⟨_, rfl⟩
 ·rw [if_neg h0]
  exact markText_tot 4 x _ (by omega) (by omega) (by omega) (by decide)
theorem markText_eq5 (x : Nat) (hx : x < 60) (k : Nat) (hk : 5 ≤ k) : laws_markText.f k (x : Int) = some (mtx x) := by
 obtain ⟨v, hv⟩ := mtx_some x hx
 have hm : mtx x = v := by unfold mtx; rw [hv]; rfl
 rw [hm]
 clear hm
 induction hk with
 | refl => exact hv
 | step _ ih => exact laws_markText.mono _ _ _ ih
theorem rdOf_set (D : List ByteArray) (i j : Nat) (v : ByteArray) (h1 : i < D.length) : rdOf ByteArray.empty (D.set i v) (j : Int) = if j = i then v else rdOf ByteArray.empty D (j : Int) := by
 unfold rdOf
 simp only [Int.toNat_natCast]
 by_cases e : j = i
 ·subst e; rw [if_pos rfl, List.getD_eq_getElem?_getD, List.getElem?_set_self h1]; rfl
 ·rw [if_neg e, List.getD_eq_getElem?_getD, List.getElem?_set_ne (by omega), ← List.getD_eq_getElem?_getD]
theorem markStringS_tot (M : Nat → ByteArray) (hM : ∀ x : Nat, x < 60 → ∀ k, 5 ≤ k → laws_markText.f k (x : Int) = some (M x)) (n : Nat) (hn : n ≤ 50) (d : Nat) : ∀ (k : Nat) (l : List ByteArray) (i : Nat), l.length = n → n - i ≤ d → d + 6 < k → i ≤ n → (∀ j : Nat, j < i → rdOf ByteArray.empty l (j : Int) = M (j + 1)) →
  ∃ l', laws_markStringS.l0 k l ((i : Int) + 1) i = some ((n : Int) + 1, l') ∧ l'.length = n ∧ ∀ j : Nat, j < n → rdOf ByteArray.empty l' (j : Int) = M (j + 1) := by
 induction d with
 | zero =>
  intro k l i hl hd hk hi hr
  obtain ⟨k, rfl⟩ : ∃ m, k = m + 1 := ⟨k - 1, by omega⟩
  obtain rfl : i = n := by omega
  simp only [laws_markStringS.l0]; rw [if_neg (by omega)]
  exact ⟨l, rfl, hl, hr⟩
 | succ d ih =>
  intro k l i hl hd hk hi hr
  obtain ⟨k, rfl⟩ : ∃ m, k = m + 1 := ⟨k - 1, by omega⟩
  have hmt := hM (i + 1) (by omega) k (by omega)
  by_cases h1 : (i : Int) < (l.length : Int)
  ·have := ih k (l.set (i : Int).toNat (M (i + 1))) (i + 1) (by simpa using hl) (by omega) (by omega) (by omega) (fun j hj => by
    rw [Int.toNat_natCast, rdOf_set l i j _ (by omega)]
    by_cases e : j = i
    ·subst e; rw [if_pos rfl]
    ·rw [if_neg e]; exact hr j (by omega))
   simp only [laws_markStringS.l0]
   rw [if_pos h1, show (i : Int) + 1 = ((i + 1 : Nat) : Int) by omega, hmt]
   simp only [Option.bind_some]
   rw [if_pos (by omega), w64_id (x := ((i + 1 : Nat) : Int) + 1) (by omega) (by omega), w64_id (x := ((i + 1 : Nat) : Int)) (by omega) (by omega)]
   simpa using this
  ·simp only [laws_markStringS.l0]
   rw [if_neg h1]
   obtain rfl : i = n := by omega
   exact ⟨l, rfl, hl, hr⟩
theorem heldStringS_tot (M : Nat → ByteArray) (hM : ∀ x : Nat, x < 60 → ∀ k, 5 ≤ k → laws_markText.f k (x : Int) = some (M x)) (l : List ByteArray) (hl : l.length ≤ 50) (hr : ∀ j : Nat, j < l.length → rdOf ByteArray.empty l (j : Int) = M (j + 1)) (d : Nat) : ∀ (k : Nat) (i : Nat), l.length - i ≤ d → d + 6 < k → i ≤ l.length → laws_heldStringS.l0 k l ((i : Int) + 1) i = some ((l.length : Int) + 1) := by
 induction d with
 | zero =>
  intro k i hd hk hi
  obtain ⟨k, rfl⟩ : ∃ m, k = m + 1 := ⟨k - 1, by omega⟩
  obtain rfl : i = l.length := by omega
  simp only [laws_heldStringS.l0]; rw [if_neg (by omega)]
 | succ d ih =>
  intro k i hd hk hi
  obtain ⟨k, rfl⟩ : ∃ m, k = m + 1 := ⟨k - 1, by omega⟩
  have hmt := hM (i + 1) (by omega) k (by omega)
  by_cases h1 : (i : Int) < (l.length : Int)
  ·have := ih k (i + 1) (by omega) (by omega) (by omega)
   have hri := hr i (by omega)
   simp only [laws_heldStringS.l0]
   rw [if_pos h1, if_pos (by omega), hri, show (i : Int) + 1 = ((i + 1 : Nat) : Int) by omega, hmt]
   simp only [Option.bind_some]
   rw [if_pos trivial, w64_id (x := ((i + 1 : Nat) : Int) + 1) (by omega) (by omega), w64_id (x := ((i + 1 : Nat) : Int)) (by omega) (by omega)]
   simpa using this
  ·simp only [laws_heldStringS.l0]
   rw [if_neg h1]
   obtain rfl : i = l.length := by omega
   rfl
theorem mark_heldS (l : List ByteArray) (hl : l.length ≤ 50) (k : Nat) (hk : l.length + 6 < k) : ∃ l', laws_markStringS.f k l 1 = some ((l.length : Int) + 1, l') ∧ ∀ k', l.length + 6 < k' → laws_heldStringS.f k' l' 1 = some ((l.length : Int) + 1) := by
 unfold laws_markStringS.f laws_heldStringS.f
 obtain ⟨l', e, hn, hr⟩ := markStringS_tot (fun x => mtx x) (fun x hx k hk => markText_eq5 x hx k hk) l.length hl l.length k l 0 rfl (by omega) hk (by omega) (fun j hj => by omega)
 refine ⟨l', by simpa using e, fun k' hk' => ?_⟩
 have := heldStringS_tot (fun x => mtx x) (fun x hx k hk => markText_eq5 x hx k hk) l' (by omega) (fun j hj => hr j (by omega)) l.length k' 0 (by omega) hk' (by omega)
 rw [hn] at this
 simpa using this
def numsTo : Nat → List Int
 | 0 => []
 | n + 1 => numsTo n ++ [(n : Int)]
theorem numsTo_len : ∀ n, (numsTo n).length = n
 | 0 => rfl
 | n + 1 => by rw [show numsTo (n + 1) = numsTo n ++ [(n : Int)] from rfl, List.length_append, numsTo_len n]; rfl
theorem numsTo_mem {x : Int} : ∀ {n}, x ∈ numsTo n ↔ 0 ≤ x ∧ x < (n : Int)
 | 0 => by simp [numsTo]; try omega
 | n + 1 => by
  rw [show numsTo (n + 1) = numsTo n ++ [(n : Int)] from rfl, List.mem_append, numsTo_mem (n := n)]
  simp; omega
theorem rd_app (A B : List Int) (x : Nat) : rd (A ++ B) x = if x < A.length then rd A x else rd B ((x - A.length : Nat) : Int) := by
 unfold rd
 simp only [Int.toNat_natCast, List.getD_eq_getElem?_getD]
 by_cases hx : x < A.length
 ·rw [if_pos hx, List.getElem?_append_left hx]
 ·rw [if_neg hx, List.getElem?_append_right (by omega)]
theorem or_setG {o g : Int} (ho : 0 ≤ o) (ho2 : o < 16777216) (h0 : 0 ≤ g) (h1 : g ≤ 24) : Go.bits .or .i64 o (shl .i64 1 g) = setG o g true := by
 have hp : (2 : Nat) ^ g.toNat ≤ 16777216 := by
  have := Nat.pow_le_pow_right (n := 2) (by omega) (show g.toNat ≤ 24 by omega)
  omega
 rw [shl_one h0 (by omega), show o = ((o.toNat : Nat) : Int) by omega, show (2 : Int) ^ g.toNat = ((2 ^ g.toNat : Nat) : Int) by norm_cast, bits_or_nat (by omega) (by omega)]
 unfold setG bitAt
 simp only [Int.toNat_natCast]
 by_cases hb : o.toNat.testBit g.toNat = true
 ·rw [if_pos hb]
  congr 1
  apply Nat.eq_of_testBit_eq
  intro i
  rw [Nat.testBit_or, Nat.testBit_two_pow]
  by_cases e : g.toNat = i
  ·rw [← e, hb]; simp
  ·simp [e]
 ·rw [if_neg hb]
  congr 1
  apply Nat.eq_of_testBit_eq
  intro i
  rw [Nat.testBit_or, Nat.testBit_xor, Nat.testBit_two_pow]
  by_cases e : g.toNat = i
  ·rw [← e]; simp at hb; simp [hb]
  ·simp [e]
theorem numsTo_rd {n : Nat} {x : Int} (x0 : 0 ≤ x) (x1 : x < n) : rd (numsTo n) x = x := by
 induction n with
 | zero => omega
 | succ n ih =>
  obtain ⟨i, rfl⟩ : ∃ i : Nat, x = i := ⟨x.toNat, by omega⟩
  rw [show numsTo (n + 1) = numsTo n ++ [(n : Int)] from rfl, rd_app, numsTo_len]
  by_cases hi : i < n
  ·rw [if_pos hi]; exact ih (by omega)
  ·rw [if_neg hi, show i = n by omega, Nat.sub_self]; rfl
theorem mOk_zero {w h : Int} (hk : gOk w h = true) : mOk w h 0 = true := by
 refine mOk_iff.2 ⟨hk, by omega, ?_⟩
 have : 0 < (2 : Nat) ^ (nGaps w h).toNat := Nat.pow_pos (by omega)
 exact_mod_cast this
theorem nums_at {n i : Nat} (hi : i < n) (h : i < (numsTo n).length) : (numsTo n)[i]'h = (i : Int) := by
 have h2 := numsTo_rd (n := n) (x := (i : Int)) (by omega) (by omega)
 unfold rd at h2
 rw [Int.toNat_natCast, List.getD_eq_getElem?_getD, List.getElem?_eq_getElem h] at h2
 exact h2
theorem set_mapA {α : Type} {F : Int → α} {n j : Nat} (hj : j < n) (c : α) : ((numsTo n).map F).set j c = (numsTo n).map fun v => if v = (j : Int) then c else F v := by
 apply List.ext_getElem
 ·simp
 ·intro i h1 h2
  have hi : i < n := by simpa [numsTo_len] using h2
  rw [List.getElem_set, List.getElem_map, List.getElem_map, nums_at hi]
  by_cases hij : j = i
  ·subst hij; simp
  ·rw [if_neg hij, if_neg (by omega)]
theorem mapA_rep {α : Type} (n : Nat) (c : α) : (numsTo n).map (fun _ => c) = List.replicate n c := by rw [List.map_const', numsTo_len]
theorem mapA_congr {α : Type} {n : Nat} {F G : Int → α} (h : ∀ v : Int, 0 ≤ v → v < n → F v = G v) : (numsTo n).map F = (numsTo n).map G := List.map_congr_left (fun v hv => h v (numsTo_mem.1 hv).1 (numsTo_mem.1 hv).2)
theorem rd_L2_map {F : Int → List Int} {n : Nat} {y : Int} (y0 : 0 ≤ y) (y1 : y < n) : rd_L2 ((numsTo n).map F) y = F y := by
 obtain ⟨i, rfl⟩ := Int.eq_ofNat_of_zero_le y0
 unfold rd_L2
 rw [Int.toNat_natCast, List.getD_eq_getElem?_getD, List.getElem?_map, List.getElem?_eq_getElem (by rw [numsTo_len]; omega), nums_at (by omega)]
 rfl
def matF (n m : Nat) (F : Int → Int → Int) : List (List Int) := (numsTo n).map fun y => (numsTo m).map fun x => F y x
def updF (F : Int → Int → Int) (y0 x0 : Int) : Int → Int → Int := fun y x => if y = y0 ∧ x = x0 then 32 else F y x
theorem matF_len (n m : Nat) (F : Int → Int → Int) : (matF n m F).length = n := by simp [matF, numsTo_len]
theorem matF_row {n m : Nat} {F : Int → Int → Int} {y : Int} (y0 : 0 ≤ y) (y1 : y < n) : rd_L2 (matF n m F) y = (numsTo m).map fun x => F y x := by unfold matF; rw [rd_L2_map y0 y1]
theorem matF_upd {n m : Nat} {F : Int → Int → Int} {y x : Int} (y0 : 0 ≤ y) (y1 : y < n) (x0 : 0 ≤ x) (x1 : x < m) : (matF n m F).set y.toNat ((rd_L2 (matF n m F) y).set x.toNat 32) = matF n m (updF F y x) := by
 rw [matF_row y0 y1, set_mapA (by omega)]
 unfold matF
 rw [set_mapA (by omega)]
 refine mapA_congr (fun v v0 v1 => ?_)
 by_cases hv : v = (y.toNat : Int)
 ·rw [if_pos hv]
  refine mapA_congr (fun u u0 u1 => ?_)
  unfold updF
  have hvy : v = y := by omega
  by_cases hu : u = (x.toNat : Int)
  ·rw [if_pos hu, if_pos ⟨hvy, by omega⟩]
  ·rw [if_neg hu, if_neg (fun q => hu (by omega)), hvy]
 ·rw [if_neg hv]
  refine mapA_congr (fun u u0 u1 => ?_)
  unfold updF
  rw [if_neg (fun q => hv (by omega))]
def posC (w c : Int) : Int × Int := (2 * (c / w) + 1, 2 * (c % w) + 1)
def posG (w h g : Int) : Int × Int := ((ends w h g).1 / w + (ends w h g).2 / w + 1, (ends w h g).1 % w + (ends w h g).2 % w + 1)
def gapP (w h y x : Int) : Int := if y % 2 = 1 ∧ x % 2 = 0 ∧ 0 < x ∧ x < 2 * w then gapAt w h (y / 2 * w + x / 2 - 1) 1 else if x % 2 = 1 ∧ y % 2 = 0 ∧ 0 < y ∧ y < 2 * h then gapAt w h (y / 2 * w + x / 2 - w) 2 else -1
theorem posG_all {w h g : Int} (hg : gapIn w h g = true) : impl_gapPlace.f w h g = some (posG w h g) ∧ (0 ≤ (posG w h g).1 ∧ (posG w h g).1 < 2 * h + 1) ∧ (0 ≤ (posG w h g).2 ∧ (posG w h g).2 < 2 * w + 1) ∧ gapP w h (posG w h g).1 (posG w h g).2 = g := by
 have hk := ok_of_gap hg
 have h1 := gapIn_iff.1 hg
 have h2 := nGaps_bd w h
 obtain ⟨m, rfl⟩ := Int.eq_ofNat_of_zero_le h1.1
 have hm : m < 24 := by omega
 rcases gOk_cases hk with ⟨rfl | rfl | rfl | rfl, rfl | rfl | rfl | rfl⟩ <;>
 ·revert hg
  refine (show ∀ q : Fin 24, gapIn _ _ (q.val : Int) = true → impl_gapPlace.f _ _ (q.val : Int) = some (posG _ _ (q.val : Int)) ∧ (0 ≤ (posG _ _ (q.val : Int)).1 ∧ (posG _ _ (q.val : Int)).1 < 2 * _ + 1) ∧ (0 ≤ (posG _ _ (q.val : Int)).2 ∧ (posG _ _ (q.val : Int)).2 < 2 * _ + 1) ∧ gapP _ _ (posG _ _ (q.val : Int)).1 (posG _ _ (q.val : Int)).2 = (q.val : Int) from ?_) ⟨m, hm⟩
  decide +kernel
theorem gapP_pos {w h y x : Int} (hk : gOk w h = true) (y0 : 0 ≤ y) (y1 : y < 2 * h + 1) (x0 : 0 ≤ x) (x1 : x < 2 * w + 1) (hg : 0 ≤ gapP w h y x) : gapIn w h (gapP w h y x) = true ∧ posG w h (gapP w h y x) = (y, x) := by
 have hw := gOk_iff.1 hk
 obtain ⟨a, rfl⟩ := Int.eq_ofNat_of_zero_le y0
 obtain ⟨b, rfl⟩ := Int.eq_ofNat_of_zero_le x0
 have ha : a < 9 := by omega
 have hb : b < 9 := by omega
 clear hw y0 x0
 rcases gOk_cases hk with ⟨rfl | rfl | rfl | rfl, rfl | rfl | rfl | rfl⟩ <;>
 ·clear hk
  revert y1 x1 hg
  refine (show ∀ (p q : Fin 9), (q.val : Int) < 2 * _ + 1 → (p.val : Int) < 2 * _ + 1 → 0 ≤ gapP _ _ (p.val : Int) (q.val : Int) → gapIn _ _ (gapP _ _ (p.val : Int) (q.val : Int)) = true ∧ posG _ _ (gapP _ _ (p.val : Int) (q.val : Int)) = ((p.val : Int), (q.val : Int)) from ?_) ⟨a, ha⟩ ⟨b, hb⟩
  decide +kernel
def cellsF (w : Int) : Nat → Int → (Int → Int → Int) → Int → Int → Int
 | 0, _, F => F
 | d + 1, c, F => cellsF w d (c + 1) (updF F (posC w c).1 (posC w c).2)
def gapsF (w h o : Int) : Nat → Int → (Int → Int → Int) → Int → Int → Int
 | 0, _, F => F
 | d + 1, g, F => gapsF w h o d (g + 1) (if bitAt o g = true then updF F (posG w h g).1 (posG w h g).2 else F)
theorem updF_32 {F : Int → Int → Int} {y x y0 x0 : Int} : updF F y0 x0 y x = 32 ↔ (y = y0 ∧ x = x0) ∨ F y x = 32 := by
 unfold updF
 by_cases h : y = y0 ∧ x = x0
 ·rw [if_pos h]; simp [h]
 ·rw [if_neg h]; simp [h]
theorem cellsF_32 {w y x : Int} : ∀ (d : Nat) (c : Int) (F : Int → Int → Int), cellsF w d c F y x = 32 ↔ (∃ i : Int, c ≤ i ∧ i < c + d ∧ posC w i = (y, x)) ∨ F y x = 32
 | 0, c, F => by
  constructor
  ·exact fun h => .inr h
  ·rintro (⟨i, h1, h2, _⟩ | h)
   ·omega
   ·exact h
 | d + 1, c, F => by
  rw [cellsF, cellsF_32 d (c + 1), updF_32]
  constructor
  ·rintro (⟨i, h1, h2, h3⟩ | ⟨h1, h2⟩ | h)
   ·exact .inl ⟨i, by omega, by omega, h3⟩
   ·exact .inl ⟨c, Int.le_refl _, by omega, by rw [h1, h2]⟩
   ·exact .inr h
  ·rintro (⟨i, h1, h2, h3⟩ | h)
   ·by_cases hi : i = c
    ·subst hi; rw [h3]; exact .inr (.inl ⟨rfl, rfl⟩)
    ·exact .inl ⟨i, by omega, by omega, h3⟩
   ·exact .inr (.inr h)
theorem gapsF_32 {w h o y x : Int} : ∀ (d : Nat) (g : Int) (F : Int → Int → Int), gapsF w h o d g F y x = 32 ↔ (∃ i : Int, g ≤ i ∧ i < g + d ∧ bitAt o i = true ∧ posG w h i = (y, x)) ∨ F y x = 32
 | 0, c, F => by
  constructor
  ·exact fun h => .inr h
  ·rintro (⟨i, h1, h2, _⟩ | h)
   ·omega
   ·exact h
 | d + 1, c, F => by
  rw [gapsF, gapsF_32 d (c + 1)]
  by_cases hb : bitAt o c = true
  ·rw [if_pos hb, updF_32]
   constructor
   ·rintro (⟨i, h1, h2, h3⟩ | ⟨h1, h2⟩ | h)
    ·exact .inl ⟨i, by omega, by omega, h3⟩
    ·exact .inl ⟨c, Int.le_refl _, by omega, hb, by rw [h1, h2]⟩
    ·exact .inr h
   ·rintro (⟨i, h1, h2, h3, h4⟩ | h)
    ·by_cases hi : i = c
     ·subst hi; rw [h4]; exact .inr (.inl ⟨rfl, rfl⟩)
     ·exact .inl ⟨i, by omega, by omega, h3, h4⟩
    ·exact .inr (.inr h)
  ·rw [if_neg hb]
   constructor
   ·rintro (⟨i, h1, h2, h3⟩ | h)
    ·exact .inl ⟨i, by omega, by omega, h3⟩
    ·exact .inr h
   ·rintro (⟨i, h1, h2, h3, h4⟩ | h)
    ·by_cases hi : i = c
     ·subst hi; exact absurd h3 hb
     ·exact .inl ⟨i, by omega, by omega, h3, h4⟩
    ·exact .inr h
theorem cellsF_or {w y x : Int} : ∀ (d : Nat) (c : Int) (F : Int → Int → Int), (F y x = 32 ∨ F y x = 35) → (cellsF w d c F y x = 32 ∨ cellsF w d c F y x = 35)
 | 0, c, F, h => h
 | d + 1, c, F, h => cellsF_or d (c + 1) _ (by unfold updF; split; exact .inl rfl; exact h)
theorem gapsF_or {w h o y x : Int} : ∀ (d : Nat) (c : Int) (F : Int → Int → Int), (F y x = 32 ∨ F y x = 35) → (gapsF w h o d c F y x = 32 ∨ gapsF w h o d c F y x = 35)
 | 0, c, F, h => h
 | d + 1, c, F, h => gapsF_or d (c + 1) _ (by split; (unfold updF; split; exact .inl rfl; exact h); exact h)
def chF (w h o y x : Int) : Int := if (y % 2 = 1 ∧ x % 2 = 1) ∨ (y % 2 = 1 ∧ 0 < x ∧ x < 2 * w ∧ 0 ≤ stp w h o (y / 2 * w + x / 2 - 1) 1) ∨ (x % 2 = 1 ∧ 0 < y ∧ y < 2 * h ∧ 0 ≤ stp w h o (y / 2 * w + x / 2 - w) 2) then 32 else 35
theorem stp_gapAt {w h o c d : Int} (hm : mOk w h o = true) : 0 ≤ stp w h o c d ↔ 0 ≤ gapAt w h c d ∧ bitAt o (gapAt w h c d) = true := by
 rw [stp_iff, gapAt_nonneg]; simp [hm]
theorem chF_eq {w h o y x : Int} (hm : mOk w h o = true) (y0 : 0 ≤ y) (y1 : y < 2 * h + 1) (x0 : 0 ≤ x) (x1 : x < 2 * w + 1) : gapsF w h o (nGaps w h).toNat 0 (cellsF w (nCells w h).toNat 0 (fun _ _ => 35)) y x = chF w h o y x := by
 have hk := (mOk_iff.1 hm).1
 have hw := gOk_iff.1 hk
 have hn := nGaps_bd w h
 have hc := nCells_ok hk
 have key : gapsF w h o (nGaps w h).toNat 0 (cellsF w (nCells w h).toNat 0 (fun _ _ => 35)) y x = 32 ↔ ((y % 2 = 1 ∧ x % 2 = 1) ∨ (y % 2 = 1 ∧ 0 < x ∧ x < 2 * w ∧ 0 ≤ stp w h o (y / 2 * w + x / 2 - 1) 1) ∨ (x % 2 = 1 ∧ 0 < y ∧ y < 2 * h ∧ 0 ≤ stp w h o (y / 2 * w + x / 2 - w) 2)) := by
  rw [gapsF_32, cellsF_32, stp_gapAt hm, stp_gapAt hm]
  constructor
  ·rintro (⟨g, g0, g1, hb, hp⟩ | ⟨c, c0, c1, hp⟩ | h)
   ·have hgi : gapIn w h g = true := gapIn_iff.2 ⟨g0, by omega⟩
    have hgp := (posG_all hgi).2.2.2
    rw [hp] at hgp
    simp only [gapP] at hgp
    by_cases q1 : y % 2 = 1 ∧ x % 2 = 0 ∧ 0 < x ∧ x < 2 * w
    ·rw [if_pos q1] at hgp
     rw [hgp]
     exact .inr (.inl ⟨q1.1, q1.2.2.1, q1.2.2.2, g0, hb⟩)
    ·rw [if_neg q1] at hgp
     by_cases q2 : x % 2 = 1 ∧ y % 2 = 0 ∧ 0 < y ∧ y < 2 * h
     ·rw [if_pos q2] at hgp
      rw [hgp]
      exact .inr (.inr ⟨q2.1, q2.2.2.1, q2.2.2.2, g0, hb⟩)
     ·rw [if_neg q2] at hgp; omega
   ·rw [posC, Prod.mk.injEq] at hp
    exact .inl ⟨by omega, by omega⟩
   ·exact absurd h (by decide)
  ·intro hd
   by_cases qo : y % 2 = 1 ∧ x % 2 = 1
   ·refine .inr (.inl ⟨y / 2 * w + x / 2, ?_, ?_, ?_⟩)
    ·have : 0 ≤ y / 2 * w := Int.mul_nonneg (by omega) (by omega)
     omega
    ·rw [hc]
     have e1 : y / 2 ≤ h - 1 := by omega
     have e2 : y / 2 * w ≤ (h - 1) * w := Int.mul_le_mul_of_nonneg_right e1 (by omega)
     have e3 : (h - 1) * w = w * h - w := by rw [Int.sub_mul, Int.one_mul, Int.mul_comm]
     omega
    ·unfold posC
     have e1 : (y / 2 * w + x / 2) / w = y / 2 := by rw [Int.add_comm, Int.add_mul_ediv_right _ _ (by omega), Int.ediv_eq_zero_of_lt (by omega) (by omega)]; omega
     have e2 : (y / 2 * w + x / 2) % w = x / 2 := by rw [Int.add_comm, Int.add_mul_emod_self_right, Int.emod_eq_of_lt (by omega) (by omega)]
     rw [e1, e2, Prod.mk.injEq]
     exact ⟨by omega, by omega⟩
   ·have hg : 0 ≤ gapP w h y x ∧ bitAt o (gapP w h y x) = true := by
     rcases hd with hd | ⟨d1, d2, d3, d4⟩ | ⟨d1, d2, d3, d4⟩
     ·exact absurd hd qo
     ·simp only [gapP]; rw [if_pos ⟨d1, by omega, d2, d3⟩]; exact d4
     ·simp only [gapP]; rw [if_neg (by omega), if_pos ⟨d1, by omega, d2, d3⟩]; exact d4
    obtain ⟨h1, h2⟩ := gapP_pos hk y0 y1 x0 x1 hg.1
    have h3 := gapIn_iff.1 h1
    exact .inl ⟨gapP w h y x, h3.1, by omega, hg.2, h2⟩
 have hor := gapsF_or (w := w) (h := h) (o := o) (y := y) (x := x) (nGaps w h).toNat 0 _ (cellsF_or (w := w) (y := y) (x := x) (nCells w h).toNat 0 (fun _ _ => 35) (.inr rfl))
 unfold chF
 by_cases hq : (y % 2 = 1 ∧ x % 2 = 1) ∨ (y % 2 = 1 ∧ 0 < x ∧ x < 2 * w ∧ 0 ≤ stp w h o (y / 2 * w + x / 2 - 1) 1) ∨ (x % 2 = 1 ∧ 0 < y ∧ y < 2 * h ∧ 0 ≤ stp w h o (y / 2 * w + x / 2 - w) 2)
 ·rw [if_pos hq]; exact key.2 hq
 ·rw [if_neg hq]
  rcases hor with hor | hor
  ·exact absurd (key.1 hor) hq
  ·exact hor
def lineF (w h o y : Int) : ByteArray := strOfNums ((numsTo (2 * w + 1).toNat).map fun x => chF w h o y x)
def linesF (w h o : Int) (n : Nat) : List ByteArray := (numsTo n).map fun y => lineF w h o y
theorem linesF_len (w h o : Int) (n : Nat) : (linesF w h o n).length = n := by simp [linesF, numsTo_len]
theorem linesF_step (w h o : Int) (n : Nat) : linesF w h o (n + 1) = linesF w h o n ++ [lineF w h o n] := by
 unfold linesF; rw [numsTo, List.map_append]; rfl
theorem mz_l3 {w h o : Int} (hm : mOk w h o = true) {F : Int → Int → Int} {n : Nat} (hn : n ≤ 100) (hF : ∀ y : Int, 0 ≤ y → y < n → strOfNums ((numsTo (2 * w + 1).toNat).map fun x => F y x) = lineF w h o y) : ∀ (d j K : Nat), j + d = n → d < K → impl_MazeLines.l3 K (linesF w h o j) (matF n (2 * w + 1).toNat F) (n : Int) (j : Int) = some (linesF w h o n)
 | 0, j, K, hd, hK => by
  obtain ⟨K, rfl⟩ : ∃ q, K = q + 1 := ⟨K - 1, by omega⟩
  obtain rfl : j = n := by omega
  rw [impl_MazeLines.l3, if_neg (by omega)]
 | d + 1, j, K, hd, hK => by
  obtain ⟨K, rfl⟩ : ∃ q, K = q + 1 := ⟨K - 1, by omega⟩
  have ih := mz_l3 hm hn hF d (j + 1) K (by omega) (by omega)
  rw [impl_MazeLines.l3, if_pos (by omega), if_pos (by omega), matF_len, if_pos (by omega), linesF_len, if_pos (by omega), matF_row (by omega) (by omega), hF _ (by omega) (by omega), w64_id (x := (j : Int) + 1) (by omega) (by omega), show ((j : Int) + 1) = ((j + 1 : Nat) : Int) by omega, ← linesF_step]
  exact ih
theorem mz_l2 {w h o : Int} (hm : mOk w h o = true) {n m : Nat} (hn : (n : Int) = 2 * h + 1) (hmm : (m : Int) = 2 * w + 1) {r : List ByteArray} (B : Nat) : ∀ (d : Nat) (g : Int) (F : Int → Int → Int) (K : Nat), 0 ≤ g → g + d = nGaps w h → (∀ K2, B ≤ K2 → impl_MazeLines.l3 K2 [] (matF n m (gapsF w h o d g F)) (n : Int) 0 = some r) → B + d + 1 ≤ K → impl_MazeLines.l2 K (matF n m F) g w h o = some r
 | 0, g, F, K, g0, hd, hr, hK => by
  obtain ⟨K, rfl⟩ : ∃ q, K = q + 1 := ⟨K - 1, by omega⟩
  rw [impl_MazeLines.l2, impl_CountGaps_eq]
  simp only [Option.bind_some]
  rw [if_neg (by omega), matF_len]
  exact hr K (by omega)
 | d + 1, g, F, K, g0, hd, hr, hK => by
  obtain ⟨K, rfl⟩ : ∃ q, K = q + 1 := ⟨K - 1, by omega⟩
  have hgi : gapIn w h g = true := gapIn_iff.2 ⟨g0, by omega⟩
  have hgb := nGaps_bd w h
  obtain ⟨p0, p1, p2, _⟩ := posG_all hgi
  rw [impl_MazeLines.l2, impl_CountGaps_eq]
  simp only [Option.bind_some]
  rw [if_pos (by omega), isOpen_eq hm (by omega), decide_eq_true g0, Bool.true_and, w64_id (x := g + 1) (by omega) (by omega)]
  simp only [Option.bind_some]
  by_cases hb : bitAt o g = true
  ·rw [if_pos hb, p0]
   simp only [Option.bind_some]
   rw [if_pos p1.1, matF_len, if_pos (by omega), if_pos p2.1, matF_row p1.1 (by omega), List.length_map, numsTo_len, if_pos (by omega)]
   have hu := matF_upd (n := n) (m := m) (F := F) p1.1 (by omega) p2.1 (by omega)
   rw [matF_row p1.1 (by omega)] at hu
   rw [hu]
   refine mz_l2 hm hn hmm B d (g + 1) _ K (by omega) (by omega) (fun K2 hK2 => ?_) (by omega)
   have := hr K2 hK2
   rw [gapsF, if_pos hb] at this
   exact this
  ·rw [if_neg hb]
   refine mz_l2 hm hn hmm B d (g + 1) F K (by omega) (by omega) (fun K2 hK2 => ?_) (by omega)
   have := hr K2 hK2
   rw [gapsF, if_neg hb] at this
   exact this
theorem mz_l1 {w h o : Int} (hm : mOk w h o = true) {n m : Nat} (hn : (n : Int) = 2 * h + 1) (hmm : (m : Int) = 2 * w + 1) {r : List ByteArray} (B : Nat) : ∀ (d : Nat) (c : Int) (F : Int → Int → Int) (K : Nat), 0 ≤ c → c + d = nCells w h → (∀ K2, B ≤ K2 → impl_MazeLines.l2 K2 (matF n m (cellsF w d c F)) 0 w h o = some r) → B + d + 1 ≤ K → impl_MazeLines.l1 K (matF n m F) c w h o = some r
 | 0, c, F, K, c0, hd, hr, hK => by
  obtain ⟨K, rfl⟩ : ∃ q, K = q + 1 := ⟨K - 1, by omega⟩
  rw [impl_MazeLines.l1, impl_CountCells_eq]
  simp only [Option.bind_some]
  rw [if_neg (by omega)]
  exact hr K (by omega)
 | d + 1, c, F, K, c0, hd, hr, hK => by
  obtain ⟨K, rfl⟩ : ∃ q, K = q + 1 := ⟨K - 1, by omega⟩
  have hk := (mOk_iff.1 hm).1
  have hw := gOk_iff.1 hk
  have c1 : c < nCells w h := by omega
  have hcb := nCells_bd w h
  have hxy := cell_xy c0 c1
  obtain ⟨e1, e2⟩ := cell_w64 c0 c1
  rw [impl_MazeLines.l1, impl_CountCells_eq]
  simp only [Option.bind_some]
  rw [if_pos (by omega), if_neg (by omega), e1, e2, w64_id (x := 2 * (c / w)) (by omega) (by omega), w64_id (x := 2 * (c % w)) (by omega) (by omega), w64_id (x := 2 * (c / w) + 1) (by omega) (by omega), w64_id (x := 2 * (c % w) + 1) (by omega) (by omega), w64_id (x := c + 1) (by omega) (by omega)]
  rw [if_pos (by omega), matF_len, if_pos (by omega), if_pos (by omega), matF_row (by omega) (by omega), List.length_map, numsTo_len, if_pos (by omega)]
  have hu := matF_upd (n := n) (m := m) (F := F) (y := 2 * (c / w) + 1) (x := 2 * (c % w) + 1) (by omega) (by omega) (by omega) (by omega)
  rw [matF_row (by omega) (by omega)] at hu
  rw [hu]
  refine mz_l1 hm hn hmm B d (c + 1) _ K (by omega) (by omega) (fun K2 hK2 => ?_) (by omega)
  exact hr K2 hK2
theorem mz_l0 {w h o : Int} (hm : mOk w h o = true) {n m : Nat} (hn : (n : Int) = 2 * h + 1) (hmm : (m : Int) = 2 * w + 1) {r : List ByteArray} (B : Nat) (hr : ∀ K2, B ≤ K2 → impl_MazeLines.l1 K2 (matF n m (fun _ _ => 35)) 0 w h o = some r) : ∀ (d j K : Nat), j + d = n → B + d + 1 ≤ K → impl_MazeLines.l0 K ((numsTo n).map fun y => if y < (j : Int) then (numsTo m).map (fun _ => (35 : Int)) else []) (n : Int) (j : Int) w h o = some r
 | 0, j, K, hd, hK => by
  obtain ⟨K, rfl⟩ : ∃ q, K = q + 1 := ⟨K - 1, by omega⟩
  obtain rfl : j = n := by omega
  rw [impl_MazeLines.l0, if_neg (by omega)]
  have e : ((numsTo j).map fun y => if y < (j : Int) then (numsTo m).map (fun _ => (35 : Int)) else []) = matF j m (fun _ _ => 35) := by
   unfold matF
   exact mapA_congr (fun v _ v1 => by rw [if_pos v1])
  rw [e]
  exact hr K (by omega)
 | d + 1, j, K, hd, hK => by
  obtain ⟨K, rfl⟩ : ∃ q, K = q + 1 := ⟨K - 1, by omega⟩
  have hw := gOk_iff.1 (mOk_iff.1 hm).1
  have ih := mz_l0 hm hn hmm B hr d (j + 1) K (by omega) (by omega)
  have hrep : slices_Repeat_byte_byte.f [35] (2 * w + 1) = some ((numsTo m).map (fun _ => (35 : Int))) := by
   unfold slices_Repeat_byte_byte.f
   rw [if_pos ⟨rfl, by omega, by omega⟩, mapA_rep, ← hmm, Int.toNat_natCast]; rfl
  rw [impl_MazeLines.l0, if_pos (by omega), w64_id (x := 2 * w) (by omega) (by omega), w64_id (x := 2 * w + 1) (by omega) (by omega), hrep]
  simp only [Option.bind_some, List.length_map, numsTo_len]
  rw [if_pos (by omega), if_pos (by omega), Int.toNat_natCast, set_mapA (by omega), w64_id (x := (j : Int) + 1) (by omega) (by omega), show ((j : Int) + 1) = ((j + 1 : Nat) : Int) by omega]
  rw [← ih]
  congr 1
  refine mapA_congr (fun v _ _ => ?_)
  by_cases hv : v = (j : Int)
  ·rw [if_pos hv, if_pos (by omega)]
  ·rw [if_neg hv]
   by_cases hlt : v < (j : Int)
   ·rw [if_pos hlt, if_pos (by omega)]
   ·rw [if_neg hlt, if_neg (by omega)]
def linesV (w h o : Int) : List ByteArray := if mOk w h o = true then linesF w h o (2 * h + 1).toNat else []
theorem impl_MazeLines_eq (w h o : Int) (k : Nat) (hk : 200 ≤ k) : impl_MazeLines.f k w h o = some (linesV w h o) := by
 unfold impl_MazeLines.f linesV
 rw [impl_MazeOk_eq]; simp only [Option.bind_some]
 by_cases hm : mOk w h o = true
 ·rw [if_pos hm, if_pos hm]
  have hw := gOk_iff.1 (mOk_iff.1 hm).1
  have hg := nGaps_bd w h
  have hc := nCells_bd w h
  rw [w64_id (x := 2 * h) (by omega) (by omega), w64_id (x := 2 * h + 1) (by omega) (by omega), if_pos (by omega), if_pos (by omega)]
  obtain ⟨n, hn⟩ : ∃ n : Nat, (n : Int) = 2 * h + 1 := ⟨(2 * h + 1).toNat, by omega⟩
  obtain ⟨m, hmm⟩ : ∃ m : Nat, (m : Int) = 2 * w + 1 := ⟨(2 * w + 1).toNat, by omega⟩
  rw [← hn, Int.toNat_natCast]
  have h3 := fun K2 (hK2 : 20 ≤ K2) => mz_l3 hm (n := n) (F := gapsF w h o (nGaps w h).toNat 0 (cellsF w (nCells w h).toNat 0 (fun _ _ => 35))) (by omega) (fun y y0 y1 => by
   unfold lineF
   congr 1
   exact mapA_congr (fun x x0 x1 => chF_eq hm y0 (by omega) x0 (by omega))) n 0 K2 (by omega) (by omega)
  have e0 : linesF w h o 0 = [] := rfl
  rw [e0, ← hmm, Int.toNat_natCast] at h3
  have h2 := fun K2 (hK2 : 60 ≤ K2) => mz_l2 hm hn hmm 20 (nGaps w h).toNat 0 (cellsF w (nCells w h).toNat 0 (fun _ _ => 35)) K2 (Int.le_refl _) (by omega) h3 (by omega)
  have h1 := fun K2 (hK2 : 90 ≤ K2) => mz_l1 hm hn hmm 60 (nCells w h).toNat 0 (fun _ _ => 35) K2 (Int.le_refl _) (by omega) h2 (by omega)
  have h0 := mz_l0 hm hn hmm 90 h1 n 0 k (by omega) (by omega)
  have e1 : ((numsTo n).map fun y => if y < ((0 : Nat) : Int) then (numsTo m).map (fun _ => (35 : Int)) else []) = List.replicate n [] := by
   rw [mapA_congr (G := fun _ => ([] : List Int)) (fun v v0 _ => by rw [if_neg (by omega)]), mapA_rep]
  rw [e1] at h0
  simp only [Option.bind_some, List.length_replicate]
  exact h0
 ·rw [if_neg hm, if_neg hm]
def rowF (w h o y : Int) (m j : Nat) : List Int := (numsTo m).map fun x => if x < (j : Int) then chF w h o y x else 0
theorem rowF_len (w h o y : Int) (m j : Nat) : (rowF w h o y m j).length = m := by simp [rowF, numsTo_len]
theorem rowF_step {w h o y : Int} {m j : Nat} (hj : j < m) : (rowF w h o y m j).set j (chF w h o y j) = rowF w h o y m (j + 1) := by
 unfold rowF
 rw [set_mapA hj]
 refine mapA_congr (fun v _ _ => ?_)
 by_cases hv : v = (j : Int)
 ·subst hv; rw [if_pos rfl, if_pos (by omega)]
 ·rw [if_neg hv]
  by_cases hlt : v < (j : Int)
  ·rw [if_pos hlt, if_pos (by omega)]
  ·rw [if_neg hlt, if_neg (by omega)]
theorem rowF_zero (w h o y : Int) (m : Nat) : rowF w h o y m 0 = List.replicate m 0 := by
 unfold rowF
 rw [mapA_congr (G := fun _ => (0 : Int)) (fun v v0 _ => by rw [if_neg (by omega)]), mapA_rep]
theorem set_twice (l : List Int) (j : Nat) (a b : Int) : (l.set j a).set j b = l.set j b := by
 apply List.ext_getElem
 ·simp
 ·intro i _ _
  rw [List.getElem_set, List.getElem_set, List.getElem_set]
  by_cases hij : j = i
  ·rw [if_pos hij, if_pos hij]
  ·rw [if_neg hij, if_neg hij, if_neg hij]
theorem sp_cell {w h y j : Int} (w1 : 1 ≤ w) (w4 : w ≤ 4) (h4 : h ≤ 4) (y0 : 0 ≤ y) (y1 : y ≤ 2 * h) (j0 : 0 ≤ j) (j1 : j ≤ 2 * w) : ∃ c, c = y / 2 * w + j / 2 ∧ wrap64 ((wrap64 ((wrap64 (Int.tdiv y 2)) * w)) + (wrap64 (Int.tdiv j 2))) = c ∧ wrap64 (c - 1) = c - 1 ∧ wrap64 (c - w) = c - w := by
 have t3 : Int.tdiv y 2 = y / 2 := Int.tdiv_eq_ediv_of_nonneg y0
 have t4 : Int.tdiv j 2 = j / 2 := Int.tdiv_eq_ediv_of_nonneg j0
 have b0 : 0 ≤ y / 2 ∧ y / 2 ≤ 4 := by omega
 have b1 : 0 ≤ j / 2 ∧ j / 2 ≤ 4 := by omega
 rw [t3, t4]
 generalize y / 2 = a at b0
 generalize j / 2 = b at b1
 clear t3 t4 y0 y1 j0 j1
 have m0 : 0 ≤ a * w := Int.mul_nonneg (by omega) (by omega)
 have m1 : a * w ≤ 4 * w := Int.mul_le_mul_of_nonneg_right (by omega) (by omega)
 rw [w64_id (x := a) (by omega) (by omega), w64_id (x := b) (by omega) (by omega)]
 generalize a * w = e at m0 m1
 rw [w64_id (x := e) (by omega) (by omega), w64_id (x := e + b) (by omega) (by omega)]
 exact ⟨_, rfl, rfl, w64_id (by omega) (by omega), w64_id (by omega) (by omega)⟩
theorem beq_eq_true_of {a b : Int} (h : a = b) : (a == b) = true := by simpa using h
theorem beq_eq_false_of {a b : Int} (h : ¬ a = b) : (a == b) = false := by simpa using h
theorem sp_j3t {w h o y c : Int} {x3 : List ByteArray} {j m K : Nat} {R T : List Int} {r : List ByteArray} (hRl : R.length = m) (hj : j < m) (wj : wrap64 ((j : Int) + 1) = ((j + 1 : Nat) : Int)) (e32 : R.set j 32 = T)
  (ih : ∀ q, K ≤ q → spec_MazeLines.l1 q x3 y T ((j + 1 : Nat) : Int) w h o = some r) : spec_MazeLines.j3 (K + 1) x3 y R (j : Int) c true w h o = some r := by
 rw [spec_MazeLines.j3, if_pos rfl, if_pos (Int.natCast_nonneg j), hRl, if_pos (Int.ofNat_lt.2 hj), Int.toNat_natCast, e32, wj]
 exact ih _ (Nat.le_refl _)
theorem sp_j3f {w h o y c : Int} {x3 : List ByteArray} {j m K : Nat} {R T : List Int} {r : List ByteArray} (hRl : R.length = m) (hj : j < m) (wj : wrap64 ((j : Int) + 1) = ((j + 1 : Nat) : Int)) (w2h : wrap64 (2 * h) = 2 * h) (wcw : wrap64 (c - w) = c - w)
  (e32 : ((j : Int) % 2 = 1 ∧ 0 < y ∧ y < 2 * h ∧ 0 ≤ stp w h o (c - w) 2) → R.set j 32 = T) (e35 : ¬ ((j : Int) % 2 = 1 ∧ 0 < y ∧ y < 2 * h ∧ 0 ≤ stp w h o (c - w) 2) → R = T)
  (ih : ∀ q, K ≤ q → spec_MazeLines.l1 q x3 y T ((j + 1 : Nat) : Int) w h o = some r) : spec_MazeLines.j3 (K + 2) x3 y R (j : Int) c false w h o = some r := by
 have t2 : Int.tmod (j : Int) 2 = (j : Int) % 2 := Int.tmod_eq_emod_of_nonneg (Int.natCast_nonneg j)
 have s2 : ∀ q, spec_Step.f (q + 1) w h o (c - w) 2 = some (stp w h o (c - w) 2) := fun q => spec_Step_eq q w h o _ _
 rw [show K + 2 = (K + 1) + 1 from rfl, spec_MazeLines.j3, if_neg (by decide), t2]
 by_cases q1 : (j : Int) % 2 = 1
 ·rw [if_pos q1]
  by_cases q2 : y > 0
  ·rw [if_pos q2]
   by_cases q3 : y < 2 * h
   ·rw [w2h, if_pos q3, wcw, s2]
    simp only [Option.bind_some]
    by_cases q4 : stp w h o (c - w) 2 ≥ 0
    ·rw [if_pos q4, if_pos (Int.natCast_nonneg j), hRl, if_pos (Int.ofNat_lt.2 hj), Int.toNat_natCast, e32 ⟨q1, q2, q3, q4⟩, wj]
     exact ih _ (Nat.le_succ _)
    ·rw [if_neg q4, e35 (fun q => q4 q.2.2.2), wj]
     exact ih _ (Nat.le_succ _)
   ·rw [w2h, if_neg q3, e35 (fun q => q3 q.2.2.1), wj]
    exact ih _ (Nat.le_succ _)
  ·rw [if_neg q2, e35 (fun q => q2 q.2.1), wj]
   exact ih _ (Nat.le_succ _)
 ·rw [if_neg q1, e35 (fun q => q1 q.1), wj]
  exact ih _ (Nat.le_succ _)
theorem sp_step {w h o y c : Int} {x3 : List ByteArray} {j m K : Nat} {R T : List Int} {r : List ByteArray} (y0 : 0 ≤ y) (hRl : R.length = m) (hj : j < m) (wj : wrap64 ((j : Int) + 1) = ((j + 1 : Nat) : Int)) (w2h : wrap64 (2 * h) = 2 * h) (wcw : wrap64 (c - w) = c - w) (wc1 : wrap64 (c - 1) = c - 1) (wm : wrap64 ((m : Int) - 1) = 2 * w)
  (e32 : ((y % 2 = 1 ∧ (j : Int) % 2 = 1) ∨ (y % 2 = 1 ∧ 0 < (j : Int) ∧ (j : Int) < 2 * w ∧ 0 ≤ stp w h o (c - 1) 1) ∨ ((j : Int) % 2 = 1 ∧ 0 < y ∧ y < 2 * h ∧ 0 ≤ stp w h o (c - w) 2)) → R.set j 32 = T)
  (e35 : ¬ ((y % 2 = 1 ∧ (j : Int) % 2 = 1) ∨ (y % 2 = 1 ∧ 0 < (j : Int) ∧ (j : Int) < 2 * w ∧ 0 ≤ stp w h o (c - 1) 1) ∨ ((j : Int) % 2 = 1 ∧ 0 < y ∧ y < 2 * h ∧ 0 ≤ stp w h o (c - w) 2)) → R = T)
  (ih : ∀ q, K ≤ q → spec_MazeLines.l1 q x3 y T ((j + 1 : Nat) : Int) w h o = some r) : (if y % 2 = 1 then spec_MazeLines.j2 (K + 3) x3 y R (j : Int) c ((j : Int) % 2 == 1) w h o else spec_MazeLines.j2 (K + 3) x3 y R (j : Int) c false w h o) = some r := by
 have t1 : Int.tmod y 2 = y % 2 := Int.tmod_eq_emod_of_nonneg y0
 have s1 : ∀ q, spec_Step.f (q + 1) w h o (c - 1) 1 = some (stp w h o (c - 1) 1) := fun q => spec_Step_eq q w h o _ _
 by_cases a1 : y % 2 = 1
 ·rw [if_pos a1]
  by_cases a2 : (j : Int) % 2 = 1
  ·rw [beq_eq_true_of a2, show K + 3 = (K + 2) + 1 from rfl, spec_MazeLines.j2, if_pos rfl, if_pos (Int.natCast_nonneg j), hRl, if_pos (Int.ofNat_lt.2 hj), Int.toNat_natCast, e32 (.inl ⟨a1, a2⟩), wj]
   exact ih _ (Nat.le_add_right K 2)
  ·have nof : ¬ ((j : Int) % 2 = 1 ∧ 0 < y ∧ y < 2 * h ∧ 0 ≤ stp w h o (c - w) 2) := fun q => a2 q.1
   rw [beq_eq_false_of a2, show K + 3 = (K + 2) + 1 from rfl, spec_MazeLines.j2, if_neg (by decide), t1, if_pos a1]
   by_cases a3 : (j : Int) > 0
   ·rw [if_pos a3, hRl, wm]
    by_cases a4 : (j : Int) < 2 * w
    ·rw [if_pos a4, wc1, show K + 2 = (K + 1) + 1 from rfl, s1]
     simp only [Option.bind_some]
     by_cases a5 : stp w h o (c - 1) 1 ≥ 0
     ·rw [decide_eq_true a5]
      exact sp_j3t hRl hj wj (e32 (.inr (.inl ⟨a1, a3, a4, a5⟩))) (fun q hq => ih q (by omega))
     ·rw [decide_eq_false a5]
      exact sp_j3f hRl hj wj w2h wcw (fun z => absurd z nof) (fun _ => e35 (by rintro (q | q | q); exact a2 q.2; exact a5 q.2.2.2; exact a2 q.1)) ih
    ·rw [if_neg a4]
     exact sp_j3f hRl hj wj w2h wcw (fun z => absurd z nof) (fun _ => e35 (by rintro (q | q | q); exact a2 q.2; exact a4 q.2.2.1; exact a2 q.1)) ih
   ·rw [if_neg a3]
    exact sp_j3f hRl hj wj w2h wcw (fun z => absurd z nof) (fun _ => e35 (by rintro (q | q | q); exact a2 q.2; exact a3 q.2.1; exact a2 q.1)) ih
 ·rw [if_neg a1, show K + 3 = (K + 2) + 1 from rfl, spec_MazeLines.j2, if_neg (by decide), t1, if_neg a1]
  exact sp_j3f hRl hj wj w2h wcw (fun z => e32 (.inr (.inr z))) (fun z => e35 (by rintro (q | q | q); exact a1 q.1; exact a1 q.1; exact z q)) ih
theorem sp_l1 {w h o : Int} (hm : mOk w h o = true) {m : Nat} (hmm : (m : Int) = 2 * w + 1) {x3 : List ByteArray} {y : Int} (y0 : 0 ≤ y) (y1 : y ≤ 2 * h) (hx : x3.length ≤ 100) {r : List ByteArray} (B : Nat) (hr : ∀ K2, B ≤ K2 → spec_MazeLines.l0 K2 (x3 ++ [strOfNums (rowF w h o y m m)]) (y + 1) w h o = some r) :
  ∀ (d j K : Nat), j + d = m → B + 4 * d + 4 ≤ K → spec_MazeLines.l1 K x3 y (rowF w h o y m j) (j : Int) w h o = some r
 | 0, j, K, hd, hK => by
  obtain ⟨K, rfl⟩ : ∃ q, K = q + 1 := ⟨K - 1, by omega⟩
  obtain rfl : j = m := by omega
  have hw := gOk_iff.1 (mOk_iff.1 hm).1
  rw [spec_MazeLines.l1, rowF_len, if_neg (by omega), if_pos (by omega), w64_id (x := y + 1) (by omega) (by omega)]
  exact hr K (by omega)
 | d + 1, j, K, hd, hK => by
  have hw := gOk_iff.1 (mOk_iff.1 hm).1
  have hj : j < m := by omega
  have j1 : (j : Int) ≤ 2 * w := by omega
  obtain ⟨c, hc, wc, wc1, wcw⟩ := sp_cell (w := w) (h := h) (y := y) (j := (j : Int)) hw.1 hw.2.1 hw.2.2.2 y0 y1 (Int.natCast_nonneg j) j1
  obtain ⟨K, rfl⟩ : ∃ q, K = q + 4 := ⟨K - 4, by omega⟩
  have ih : ∀ K2, K ≤ K2 → spec_MazeLines.l1 K2 x3 y (rowF w h o y m (j + 1)) ((j + 1 : Nat) : Int) w h o = some r := fun K2 hK2 => sp_l1 hm hmm y0 y1 hx B hr d (j + 1) K2 (by omega) (by omega)
  clear hK hr
  have t1 : Int.tmod y 2 = y % 2 := Int.tmod_eq_emod_of_nonneg y0
  have t2 : Int.tmod (j : Int) 2 = (j : Int) % 2 := Int.tmod_eq_emod_of_nonneg (by omega)
  have wj : wrap64 ((j : Int) + 1) = ((j + 1 : Nat) : Int) := by rw [w64_id (by omega) (by omega)]; omega
  have w2h : wrap64 (2 * h) = 2 * h := w64_id (by omega) (by omega)
  have wm : wrap64 (((m : Int)) - 1) = 2 * w := by rw [w64_id (by omega) (by omega)]; omega
  have hRl : (rowF w h o y m j).length = m := rowF_len ..
  rw [show K + 4 = (K + 3) + 1 from rfl, spec_MazeLines.l1, hRl, if_pos (Int.ofNat_lt.2 hj), if_pos (Int.natCast_nonneg j)]
  simp only [Option.bind_some, Int.toNat_natCast, wc, t1, t2]
  refine sp_step (T := rowF w h o y m (j + 1)) y0 (by rw [List.length_set, hRl]) hj wj w2h wcw wc1 wm (fun z => ?_) (fun z => ?_) ih
  ·rw [set_twice, ← rowF_step hj]
   congr 1
   rw [hc] at z
   exact (if_pos z).symm
  ·rw [← rowF_step hj]
   congr 1
   rw [hc] at z
   exact (if_neg z).symm
theorem sp_l0 {w h o : Int} (hm : mOk w h o = true) {n : Nat} (hn : (n : Int) = 2 * h + 1) : ∀ (d y K : Nat), y + d = n → 60 * d + 1 ≤ K → spec_MazeLines.l0 K (linesF w h o y) (y : Int) w h o = some (linesF w h o n)
 | 0, y, K, hd, hK => by
  obtain ⟨K, rfl⟩ : ∃ q, K = q + 1 := ⟨K - 1, by omega⟩
  obtain rfl : y = n := by omega
  have hw := gOk_iff.1 (mOk_iff.1 hm).1
  rw [spec_MazeLines.l0, w64_id (x := 2 * h) (by omega) (by omega), if_neg (by omega)]
 | d + 1, y, K, hd, hK => by
  obtain ⟨K, rfl⟩ : ∃ q, K = q + 1 := ⟨K - 1, by omega⟩
  have hw := gOk_iff.1 (mOk_iff.1 hm).1
  obtain ⟨m, hmm⟩ : ∃ m : Nat, (m : Int) = 2 * w + 1 := ⟨(2 * w + 1).toNat, by omega⟩
  have hl := linesF_len w h o y
  have e : rowF w h o (y : Int) m m = (numsTo (2 * w + 1).toNat).map fun x => chF w h o y x := by
   rw [← hmm, Int.toNat_natCast]
   exact mapA_congr (fun v _ v1 => by rw [if_pos v1])
  have h1 := sp_l1 hm hmm (x3 := linesF w h o y) (y := (y : Int)) (by omega) (by omega) (by omega) (60 * d + 1) (r := linesF w h o n) (fun K2 hK2 => by
   have := sp_l0 hm hn d (y + 1) K2 (by omega) hK2
   rw [linesF_step] at this
   rw [e, show ((y : Int) + 1) = ((y + 1 : Nat) : Int) by omega]
   exact this) m 0 K (by omega) (by omega)
  rw [rowF_zero] at h1
  rw [spec_MazeLines.l0, w64_id (x := 2 * h) (by omega) (by omega), if_pos (by omega), w64_id (x := 2 * w) (by omega) (by omega), w64_id (x := 2 * w + 1) (by omega) (by omega), if_pos (by omega), if_pos (by omega), ← hmm, Int.toNat_natCast]
  exact h1
theorem spec_MazeLines_eq (w h o : Int) (k : Nat) (hk : 600 ≤ k) : spec_MazeLines.f k w h o = some (linesV w h o) := by
 unfold spec_MazeLines.f linesV
 rw [spec_MazeOk_eq]; simp only [Option.bind_some]
 by_cases hm : mOk w h o = true
 ·rw [if_pos hm, if_pos hm]
  have hw := gOk_iff.1 (mOk_iff.1 hm).1
  obtain ⟨n, hn⟩ : ∃ n : Nat, (n : Int) = 2 * h + 1 := ⟨(2 * h + 1).toNat, by omega⟩
  rw [← hn, Int.toNat_natCast]
  exact sp_l0 hm hn n 0 k (by omega) (by omega)
 ·rw [if_neg hm, if_neg hm]
theorem linesV_len (w h o : Int) : (linesV w h o).length ≤ 9 := by
 unfold linesV
 by_cases hm : mOk w h o = true
 ·have hw := gOk_iff.1 (mOk_iff.1 hm).1
  rw [if_pos hm, linesF_len]; omega
 ·rw [if_neg hm]; simp
theorem FnExactMazeLines : laws_FnExactMazeLines.Pure := by
 intro w h o _ _ _
 refine ⟨1000, ?_⟩
 have hl := linesV_len w h o
 obtain ⟨l', m1, m2⟩ := mark_heldS (linesV w h o) (by omega) 1000 (by omega)
 have h1 := m2 1000 (by omega)
 have e0 := eqStringS_self (linesV w h o) (by omega) 1000 (by omega)
 unfold laws_FnExactMazeLines.f
 simp only [toMaze_eq, Option.bind_some, spec_MazeLines_eq w h o 1000 (by omega), impl_MazeLines_eq w h o 1000 (by omega), e0, m1, h1, if_true, show ¬ (((linesV w h o).length : Int) + 1 < 0) by omega, if_false]
def sameL (a b : List ByteArray) : Prop := a.map ByteArray.toList = b.map ByteArray.toList
instance (a b : List ByteArray) : Decidable (sameL a b) := inferInstanceAs (Decidable (_ = _))
theorem drop_strs {l : List ByteArray} {i : Nat} (hi : i < l.length) : (l.drop i).map ByteArray.toList = (rdOf ByteArray.empty l (i : Int)).toList :: (l.drop (i + 1)).map ByteArray.toList := by
 have e : rdOf ByteArray.empty l (i : Int) = l[i] := by
  unfold rdOf
  rw [Int.toNat_natCast, List.getD_eq_getElem?_getD, List.getElem?_eq_getElem hi]; rfl
 rw [List.drop_eq_getElem_cons hi, e]; rfl
theorem same_step {a b : List ByteArray} {i : Nat} (ha : i < a.length) (hb : i < b.length) : sameL (a.drop i) (b.drop i) ↔ (rdOf ByteArray.empty a (i : Int)).toList = (rdOf ByteArray.empty b (i : Int)).toList ∧ sameL (a.drop (i + 1)) (b.drop (i + 1)) := by
 unfold sameL
 rw [drop_strs ha, drop_strs hb, List.cons.injEq]
theorem equal_loop {a b : List ByteArray} {n : Nat} (ha : a.length = n) (hb : b.length = n) (hn : n ≤ 2000000) : ∀ (d i K : Nat), i + d = n → d < K → slices_Equal_string_string.l0 K a b (n : Int) (i : Int) = some (decide (sameL (a.drop i) (b.drop i)))
 | 0, i, K, hd, hK => by
  obtain ⟨K, rfl⟩ : ∃ q, K = q + 1 := ⟨K - 1, by omega⟩
  rw [slices_Equal_string_string.l0, if_neg (by omega), List.drop_eq_nil_of_le (by omega), List.drop_eq_nil_of_le (by omega)]
  rfl
 | d + 1, i, K, hd, hK => by
  obtain ⟨K, rfl⟩ : ∃ q, K = q + 1 := ⟨K - 1, by omega⟩
  have ih := equal_loop ha hb hn d (i + 1) K (by omega) (by omega)
  have hs := same_step (a := a) (b := b) (i := i) (by omega) (by omega)
  rw [slices_Equal_string_string.l0, if_pos (by omega), if_pos (by omega), if_pos (by omega), if_pos (by omega), w64_id (x := (i : Int) + 1) (by omega) (by omega), show ((i : Int) + 1) = ((i + 1 : Nat) : Int) by omega]
  by_cases he : (rdOf ByteArray.empty a (i : Int)).toList = (rdOf ByteArray.empty b (i : Int)).toList
  ·rw [if_pos he, ih]
   congr 1
   rw [decide_eq_decide, hs]; simp [he]
  ·rw [if_neg he, decide_eq_false (fun q => he (hs.1 q).1)]
theorem equal_tot {a b : List ByteArray} (ha : a.length ≤ 2000000) (K : Nat) (hK : a.length < K) : slices_Equal_string_string.f K a b = some (decide (sameL a b)) := by
 unfold slices_Equal_string_string.f
 by_cases h : a.length = b.length
 ·rw [if_pos (by omega)]
  have := equal_loop (a := a) (b := b) rfl h.symm ha a.length 0 K (by omega) hK
  exact this
 ·rw [if_neg (by omega), decide_eq_false]
  intro q
  have := congrArg List.length q
  rw [List.length_map, List.length_map] at this
  exact h this
theorem spec_cmp {a b : List ByteArray} {n : Nat} (ha : a.length = n) (hb : b.length = n) (hn : n ≤ 2000000) (w h o : Int) : ∀ (d i K : Nat), i + d = n → d < K → spec_ReadMaze.l1 K b a (i : Int) w h o = some (if sameL (a.drop i) (b.drop i) then (w, h, o, true) else (0, 0, 0, false))
 | 0, i, K, hd, hK => by
  obtain ⟨K, rfl⟩ : ∃ q, K = q + 1 := ⟨K - 1, by omega⟩
  rw [spec_ReadMaze.l1, if_neg (by omega), List.drop_eq_nil_of_le (by omega), List.drop_eq_nil_of_le (by omega), if_pos (show sameL [] [] from rfl)]
 | d + 1, i, K, hd, hK => by
  obtain ⟨K, rfl⟩ : ∃ q, K = q + 1 := ⟨K - 1, by omega⟩
  have ih := spec_cmp ha hb hn w h o d (i + 1) K (by omega) (by omega)
  have hs := same_step (a := a) (b := b) (i := i) (by omega) (by omega)
  rw [spec_ReadMaze.l1, if_pos (by omega), if_pos (by omega), if_pos (by omega), w64_id (x := (i : Int) + 1) (by omega) (by omega), show ((i : Int) + 1) = ((i + 1 : Nat) : Int) by omega]
  by_cases he : (rdOf ByteArray.empty a (i : Int)).toList = (rdOf ByteArray.empty b (i : Int)).toList
  ·rw [if_pos he, ih]
   by_cases hq : sameL (a.drop (i + 1)) (b.drop (i + 1))
   ·rw [if_pos hq, if_pos (hs.2 ⟨he, hq⟩)]
   ·rw [if_neg hq, if_neg (fun q => hq (hs.1 q).2)]
  ·rw [if_neg he, if_neg (fun q => he (hs.1 q).1)]
def posS (w h g : Int) : Int × Int := if (ends w h g).2 = (ends w h g).1 + 1 ∧ g < nEast w h then (2 * ((ends w h g).1 / w) + 1, 2 * ((ends w h g).1 % w) + 1 + 1) else (2 * ((ends w h g).1 / w) + 1 + 1, 2 * ((ends w h g).1 % w) + 1)
theorem posS_eq {w h g : Int} (hg : gapIn w h g = true) : posS w h g = posG w h g := by
 have hk := ok_of_gap hg
 have h1 := gapIn_iff.1 hg
 have h2 := nGaps_bd w h
 obtain ⟨m, rfl⟩ := Int.eq_ofNat_of_zero_le h1.1
 have hm : m < 24 := by omega
 rcases gOk_cases hk with ⟨rfl | rfl | rfl | rfl, rfl | rfl | rfl | rfl⟩ <;>
 ·revert hg
  refine (show ∀ q : Fin 24, gapIn _ _ (q.val : Int) = true → posS _ _ (q.val : Int) = posG _ _ (q.val : Int) from ?_) ⟨m, hm⟩
  decide +kernel
def seen (L : List ByteArray) (y x : Int) : Bool := decide (y < (L.length : Int)) && (decide (x < ((rdOf ByteArray.empty L y).size : Int)) && decide (bt (rdOf ByteArray.empty L y) x = 32))
def readO (L : List ByteArray) (w h : Int) : Nat → Int → Int → Int
 | 0, _, o => o
 | d + 1, g, o => readO L w h d (g + 1) (if seen L (posG w h g).1 (posG w h g).2 = true then setG o g true else o)
def readE (L : List ByteArray) (w h o : Int) : Int × Int × Int × Bool := if sameL (linesV w h o) L then (w, h, o, true) else (0, 0, 0, false)
theorem readI {L : List ByteArray} {w h : Int} : ∀ (d : Nat) (g o : Int) (K : Nat), 0 ≤ g → g + d = nGaps w h → mOk w h o = true → 1000 + d ≤ K → impl_ReadMaze.l0 K L g w h w h o = some (readE L w h (readO L w h d g o))
 | 0, g, o, K, g0, hd, hm, hK => by
  obtain ⟨K, rfl⟩ : ∃ q, K = q + 1 := ⟨K - 1, by omega⟩
  have hl := linesV_len w h o
  rw [impl_ReadMaze.l0, impl_CountGaps_eq]
  simp only [Option.bind_some]
  rw [if_neg (by omega), impl_MazeOk_eq, hm, impl_MazeLines_eq w h o K (by omega)]
  simp only [Option.bind_some, if_true]
  rw [show readO L w h 0 g o = o from rfl]
  unfold readE
  rw [equal_tot (by omega) K (by omega)]
  simp only [Option.bind_some, decide_eq_true_eq]
  by_cases hs : sameL (linesV w h o) L
  ·rw [if_pos hs, if_pos hs]
  ·rw [if_neg hs, if_neg hs]
 | d + 1, g, o, K, g0, hd, hm, hK => by
  obtain ⟨K, rfl⟩ : ∃ q, K = q + 1 := ⟨K - 1, by omega⟩
  have hgi : gapIn w h g = true := gapIn_iff.2 ⟨g0, by omega⟩
  have hgb := nGaps_bd w h
  obtain ⟨p0, p1, p2, _⟩ := posG_all hgi
  have ihs := readI (L := L) d (g + 1) (setG o g true) K (by omega) (by omega) (mOk_setG hm hgi) (by omega)
  have ihn := readI (L := L) d (g + 1) o K (by omega) (by omega) hm (by omega)
  rw [impl_ReadMaze.l0, impl_CountGaps_eq]
  simp only [Option.bind_some]
  rw [if_pos (by omega), p0]
  simp only [Option.bind_some, readO]
  rw [w64_id (x := g + 1) (by omega) (by omega)]
  by_cases h1 : (posG w h g).1 < (L.length : Int)
  ·rw [if_pos h1, if_pos p1.1]
   by_cases h2 : (posG w h g).2 < ((rdOf ByteArray.empty L (posG w h g).1).size : Int)
   ·rw [if_pos h2, if_pos p2.1]
    by_cases h3 : bt (rdOf ByteArray.empty L (posG w h g).1) (posG w h g).2 = 32
    ·rw [if_pos h3, if_pos (by simp [seen, h1, h2, h3]), impl_with_eq hm hgi]
     exact ihs
    ·rw [if_neg h3, if_neg (by simp [seen, h3])]; exact ihn
   ·rw [if_neg h2, if_neg (by simp [seen, h2])]; exact ihn
  ·rw [if_neg h1, if_neg (by simp [seen, h1])]; exact ihn
theorem readS {L : List ByteArray} {w h : Int} (hk : gOk w h = true) (hL : L.length ≤ 2000000) : ∀ (d : Nat) (g o : Int) (K : Nat), 0 ≤ g → g + d = nGaps w h → mOk w h o = true → 1000 + 2 * d ≤ K → spec_ReadMaze.l0 K L g w h o = some (readE L w h (readO L w h d g o))
 | 0, g, o, K, g0, hd, hm, hK => by
  obtain ⟨K, rfl⟩ : ∃ q, K = q + 1 := ⟨K - 1, by omega⟩
  have hl := linesV_len w h o
  rw [spec_ReadMaze.l0, spec_CountGaps_eq]
  simp only [Option.bind_some]
  rw [if_neg (by omega), spec_MazeLines_eq w h o K (by omega), show readO L w h 0 g o = o from rfl]
  simp only [Option.bind_some]
  unfold readE
  by_cases he : (linesV w h o).length = L.length
  ·rw [if_pos (by omega)]
   have := spec_cmp (a := linesV w h o) (b := L) he rfl hL w h o L.length 0 K (by omega) (by omega)
   exact this
  ·rw [if_neg (by omega), if_neg (fun q => he (by have := congrArg List.length q; simpa using this))]
 | d + 1, g, o, K, g0, hd, hm, hK => by
  obtain ⟨K, rfl⟩ : ∃ q, K = q + 1 + 1 := ⟨K - 2, by omega⟩
  have hgi : gapIn w h g = true := gapIn_iff.2 ⟨g0, by omega⟩
  have hgb := nGaps_bd w h
  have hw := gOk_iff.1 hk
  obtain ⟨p0, p1, p2, _⟩ := posG_all hgi
  have hps := posS_eq hgi
  obtain ⟨a0, ab, b1, _⟩ := ends_bd hgi
  have hcb := nCells_bd w h
  have ac : (ends w h g).1 < nCells w h := by omega
  have hxy := cell_xy a0 ac
  obtain ⟨e1, e2⟩ := cell_w64 a0 ac
  have ob := mOk_bd hm
  have ihs := readS hk hL d (g + 1) (setG o g true) K (by omega) (by omega) (mOk_setG hm hgi) (by omega)
  have ihn := readS hk hL d (g + 1) o K (by omega) (by omega) hm (by omega)
  rw [spec_ReadMaze.l0, spec_CountGaps_eq, spec_EndsOf_eq]
  simp only [Option.bind_some]
  rw [if_pos (by omega), if_neg (by omega), e1, e2, l02East_eq hk]
  simp only [Option.bind_some, readO]
  rw [w64_id (x := 2 * ((ends w h g).1 / w)) (by omega) (by omega), w64_id (x := 2 * ((ends w h g).1 % w)) (by omega) (by omega), w64_id (x := 2 * ((ends w h g).1 / w) + 1) (by omega) (by omega), w64_id (x := 2 * ((ends w h g).1 % w) + 1) (by omega) (by omega), w64_id (x := (ends w h g).1 + 1) (by omega) (by omega)]
  have jt : (ends w h g).2 = (ends w h g).1 + 1 → g < nEast w h → spec_ReadMaze.j1 (K + 1) L g (2 * ((ends w h g).1 / w) + 1) (2 * ((ends w h g).1 % w) + 1) true w h o = some (readE L w h (readO L w h d (g + 1) (if seen L (posG w h g).1 (posG w h g).2 = true then setG o g true else o))) := fun q1 q2 => by
   rw [posS, if_pos ⟨q1, q2⟩] at hps
   rw [← hps] at p1 p2 ⊢
   simp only at p1 p2 ⊢
   rw [spec_ReadMaze.j1, if_pos rfl, w64_id (x := g + 1) (by omega) (by omega), w64_id (x := 2 * ((ends w h g).1 % w) + 1 + 1) (by omega) (by omega)]
   by_cases h1 : 2 * ((ends w h g).1 / w) + 1 < (L.length : Int)
   ·rw [if_pos h1, if_pos p1.1]
    by_cases h2 : 2 * ((ends w h g).1 % w) + 1 + 1 < ((rdOf ByteArray.empty L (2 * ((ends w h g).1 / w) + 1)).size : Int)
    ·rw [if_pos h2, if_pos p2.1]
     by_cases h3 : bt (rdOf ByteArray.empty L (2 * ((ends w h g).1 / w) + 1)) (2 * ((ends w h g).1 % w) + 1 + 1) = 32
     ·rw [if_pos h3, if_pos g0, or_setG ob.1 ob.2 g0 (by omega), if_pos (by simp [seen, h1, h2, h3])]
      exact ihs
     ·rw [if_neg h3, if_neg (by simp [seen, h3])]; exact ihn
    ·rw [if_neg h2, if_neg (by simp [seen, h2])]; exact ihn
   ·rw [if_neg h1, if_neg (by simp [seen, h1])]; exact ihn
  have jf : ¬ ((ends w h g).2 = (ends w h g).1 + 1 ∧ g < nEast w h) → spec_ReadMaze.j1 (K + 1) L g (2 * ((ends w h g).1 / w) + 1) (2 * ((ends w h g).1 % w) + 1) false w h o = some (readE L w h (readO L w h d (g + 1) (if seen L (posG w h g).1 (posG w h g).2 = true then setG o g true else o))) := fun q => by
   rw [posS, if_neg q] at hps
   rw [← hps] at p1 p2 ⊢
   simp only at p1 p2 ⊢
   rw [spec_ReadMaze.j1, if_neg (by decide), w64_id (x := g + 1) (by omega) (by omega), w64_id (x := 2 * ((ends w h g).1 / w) + 1 + 1) (by omega) (by omega)]
   by_cases h1 : 2 * ((ends w h g).1 / w) + 1 + 1 < (L.length : Int)
   ·rw [if_pos h1, if_pos p1.1]
    by_cases h2 : 2 * ((ends w h g).1 % w) + 1 < ((rdOf ByteArray.empty L (2 * ((ends w h g).1 / w) + 1 + 1)).size : Int)
    ·rw [if_pos h2, if_pos p2.1]
     by_cases h3 : bt (rdOf ByteArray.empty L (2 * ((ends w h g).1 / w) + 1 + 1)) (2 * ((ends w h g).1 % w) + 1) = 32
     ·rw [if_pos h3, if_pos g0, or_setG ob.1 ob.2 g0 (by omega), if_pos (by simp [seen, h1, h2, h3])]
      exact ihs
     ·rw [if_neg h3, if_neg (by simp [seen, h3])]; exact ihn
    ·rw [if_neg h2, if_neg (by simp [seen, h2])]; exact ihn
   ·rw [if_neg h1, if_neg (by simp [seen, h1])]; exact ihn
  by_cases q1 : (ends w h g).2 = (ends w h g).1 + 1
  ·rw [if_pos q1]
   by_cases q2 : g < nEast w h
   ·rw [decide_eq_true q2]; exact jt q1 q2
   ·rw [decide_eq_false q2]; exact jf (fun q => q2 q.2)
  ·rw [if_neg q1]; exact jf (fun q => q1 q.1)
theorem ReadMaze_same (L : List ByteArray) (hL : L.length ≤ 1048576) (h0 : (rdOf ByteArray.empty L 0).size ≤ 1048576) : ∃ r, ∀ K, 2000 ≤ K → spec_ReadMaze.f K L = some r ∧ impl_ReadMaze.f K L = some r := by
 by_cases hz : (L.length : Int) = 0
 ·exact ⟨(0, 0, 0, false), fun K _ => ⟨by unfold spec_ReadMaze.f; rw [if_pos hz], by unfold impl_ReadMaze.f; rw [if_pos hz]⟩⟩
 ·obtain ⟨w, hw⟩ : ∃ w, w = wrap64 (((rdOf ByteArray.empty L 0).size : Int) / 2) := ⟨_, rfl⟩
  obtain ⟨h, hh⟩ : ∃ h, h = wrap64 ((L.length : Int) / 2) := ⟨_, rfl⟩
  by_cases hk : gOk w h = true
  ·refine ⟨readE L w h (readO L w h (nGaps w h).toNat 0 0), fun K hK => ⟨?_, ?_⟩⟩
   ·have hgb := nGaps_bd w h
    unfold spec_ReadMaze.f
    rw [if_neg hz, if_pos (by omega), ← hw, ← hh]
    exact readS hk (by omega) (nGaps w h).toNat 0 0 K (Int.le_refl _) (by omega) (mOk_zero hk) (by omega)
   ·have hgb := nGaps_bd w h
    unfold impl_ReadMaze.f
    rw [if_neg hz, if_pos (by omega), ← hw, ← hh]
    exact readI (nGaps w h).toNat 0 0 K (Int.le_refl _) (by omega) (mOk_zero hk) (by omega)
  ·have hn : nGaps w h = 0 := by unfold nGaps; rw [if_neg hk]
   have hm : mOk w h 0 = false := by
    cases e : mOk w h 0 with
    | false => rfl
    | true => exact absurd (mOk_iff.1 e).1 hk
   refine ⟨(0, 0, 0, false), fun K hK => ⟨?_, ?_⟩⟩
   ·obtain ⟨K, rfl⟩ : ∃ q, K = q + 1 := ⟨K - 1, by omega⟩
    unfold spec_ReadMaze.f
    rw [if_neg hz, if_pos (by omega), ← hw, ← hh, spec_ReadMaze.l0, spec_CountGaps_eq]
    simp only [Option.bind_some]
    rw [hn, if_neg (by omega), spec_MazeLines_eq w h 0 K (by omega)]
    simp only [Option.bind_some]
    unfold linesV
    simp only [hm, Bool.false_eq_true, if_false]
    rw [if_neg (by simp; omega)]
   ·obtain ⟨K, rfl⟩ : ∃ q, K = q + 1 := ⟨K - 1, by omega⟩
    unfold impl_ReadMaze.f
    rw [if_neg hz, if_pos (by omega), ← hw, ← hh, impl_ReadMaze.l0, impl_CountGaps_eq]
    simp only [Option.bind_some]
    rw [hn, if_neg (by omega), impl_MazeOk_eq, hm]
    simp only [Option.bind_some]
    rw [if_neg (by decide)]
theorem szS_tot (L : List ByteArray) (hL : ∀ x ∈ L, x.size ≤ 9223372036854775807) (hn : L.length ≤ 1048576) : ∀ (d i : Nat) (b : Int), i + d = L.length → 0 ≤ b → b ≤ 1048576 → ∃ r, (∀ K, d < K → laws_szStringS.l0 K L b (i : Int) = some r) ∧ (0 ≤ r → ∀ j : Nat, i ≤ j → j < L.length → (rdOf ByteArray.empty L (j : Int)).size ≤ 1048576)
 | 0, i, b, hd, b0, b1 => ⟨b, fun K hK => by
   obtain ⟨K, rfl⟩ : ∃ q, K = q + 1 := ⟨K - 1, by omega⟩
   rw [laws_szStringS.l0, if_neg (by omega)], fun _ j h1 h2 => by omega⟩
 | d + 1, i, b, hd, b0, b1 => by
  have hi : i < L.length := by omega
  have hs : (rdOf ByteArray.empty L (i : Int)).size ≤ 9223372036854775807 := by
   unfold rdOf
   rw [Int.toNat_natCast, List.getD_eq_getElem?_getD, List.getElem?_eq_getElem hi]
   exact hL _ (List.getElem_mem hi)
  have hw : wrap64 (b - ((rdOf ByteArray.empty L (i : Int)).size : Int)) = b - ((rdOf ByteArray.empty L (i : Int)).size : Int) := w64_id (by omega) (by omega)
  by_cases hneg : b - ((rdOf ByteArray.empty L (i : Int)).size : Int) < 0
  ·refine ⟨-1, fun K hK => ?_, fun h => by omega⟩
   obtain ⟨K, rfl⟩ : ∃ q, K = q + 1 := ⟨K - 1, by omega⟩
   rw [laws_szStringS.l0, if_pos (by omega), if_pos (by omega), hw, if_pos hneg]
  ·obtain ⟨r, h1, h2⟩ := szS_tot L hL hn d (i + 1) (b - ((rdOf ByteArray.empty L (i : Int)).size : Int)) (by omega) (by omega) (by omega)
   refine ⟨r, fun K hK => ?_, fun h j hj1 hj2 => ?_⟩
   ·obtain ⟨K, rfl⟩ : ∃ q, K = q + 1 := ⟨K - 1, by omega⟩
    rw [laws_szStringS.l0, if_pos (by omega), if_pos (by omega), hw, if_neg hneg, w64_id (x := (i : Int) + 1) (by omega) (by omega), show ((i : Int) + 1) = ((i + 1 : Nat) : Int) by omega]
    exact h1 K (by omega)
   ·by_cases hji : j = i
    ·subst hji; omega
    ·exact h2 h j (by omega) hj2
theorem toS_tot (L : List ByteArray) (hn : L.length ≤ 1048576) : ∀ (d i K : Nat), i + d = L.length → d < K → laws_toStringS.l0 K L (L.take i ++ List.replicate d (⟨#[]⟩ : ByteArray)) (i : Int) = some L
 | 0, i, K, hd, hK => by
  obtain ⟨K, rfl⟩ : ∃ q, K = q + 1 := ⟨K - 1, by omega⟩
  obtain rfl : i = L.length := by omega
  rw [laws_toStringS.l0, if_neg (by omega)]
  simp
 | d + 1, i, K, hd, hK => by
  obtain ⟨K, rfl⟩ : ∃ q, K = q + 1 := ⟨K - 1, by omega⟩
  have hi : i < L.length := by omega
  have ih := toS_tot L hn d (i + 1) K (by omega) (by omega)
  have hl : (L.take i).length = i := by simp; omega
  have e : rdOf ByteArray.empty L (i : Int) = L[i] := by
   unfold rdOf
   rw [Int.toNat_natCast, List.getD_eq_getElem?_getD, List.getElem?_eq_getElem hi]; rfl
  rw [laws_toStringS.l0, if_pos (by omega), if_pos (by omega), if_pos (by rw [List.length_append, hl, List.length_replicate]; omega), e, w64_id (x := (i : Int) + 1) (by omega) (by omega), show ((i : Int) + 1) = ((i + 1 : Nat) : Int) by omega, Int.toNat_natCast]
  rw [List.set_append_right _ _ (by omega), hl, Nat.sub_self, List.replicate_succ, List.set_cons_zero]
  rw [List.take_add_one, List.getElem?_eq_getElem hi, List.append_assoc] at ih
  exact ih
theorem toS_eq (L : List ByteArray) (hn : L.length ≤ 1048576) (K : Nat) (hK : L.length < K) : laws_toStringS.f K L = some L := by
 unfold laws_toStringS.f
 rw [if_pos (by omega), Int.toNat_natCast, if_pos (by omega)]
 have := toS_tot L hn L.length 0 K (by omega) hK
 simpa using this
theorem FnExactReadMaze : laws_FnExactReadMaze.Pure := by
 intro L hL _ hs
 have hs2 : ∀ x ∈ L, x.size ≤ 9223372036854775807 := fun x hx => by have := hs x hx; unfold maxLen at this; omega
 have hL2 : (L.length : Int) ≤ 9223372036854775807 := by unfold maxLen at hL; omega
 unfold laws_FnExactReadMaze.f laws_szStringS.f
 rw [w64_id (x := 1048576 - (L.length : Int)) (by omega) (by omega)]
 by_cases hb : 1048576 - (L.length : Int) < 0
 ·refine ⟨0, ?_⟩
  rw [if_pos hb]; rfl
 ·obtain ⟨r, h1, h2⟩ := szS_tot L hs2 (by omega) L.length 0 (1048576 - (L.length : Int)) (by omega) (by omega) (by omega)
  refine ⟨L.length + 3000, ?_⟩
  have h1' : laws_szStringS.l0 (L.length + 3000) L (1048576 - (L.length : Int)) 0 = some r := h1 (L.length + 3000) (by omega)
  rw [if_neg hb, h1']
  simp only [Option.bind_some]
  by_cases hr : r < 0
  ·rw [if_pos hr]
  ·rw [if_neg hr]
   have h0 : (rdOf ByteArray.empty L 0).size ≤ 1048576 := by
    by_cases hz : 0 < L.length
    ·exact h2 (by omega) 0 (by omega) hz
    ·have : L = [] := List.length_eq_zero_iff.1 (by omega)
     subst this; decide
   obtain ⟨v, hv⟩ := ReadMaze_same L (by omega) h0
   obtain ⟨v1, v2⟩ := hv (L.length + 3000) (by omega)
   have t1 := toS_eq L (by omega) (L.length + 3000) (by omega)
   have t2 := toS_eq L (by omega) (L.length + 2999) (by omega)
   have e1 := eqStringS_self L (by omega) (L.length + 2999) (by omega)
   have eg : laws_eqMaze.f v.1 v.2.1 v.2.2.1 v.1 v.2.1 v.2.2.1 = some true := by
    unfold laws_eqMaze.f laws_eqGrid.f
    rw [if_pos rfl, if_pos rfl]
    simp only [Option.bind_some, if_true]
   simp only [t1, v1, v2, eg, Option.bind_some, if_true, bne_self_eq_false]
   rw [show L.length + 3000 = (L.length + 2999) + 1 by omega, laws_FnExactReadMaze.j0, if_neg (by decide), t2]
   simp only [Option.bind_some, e1, if_true]

end Go.Proofs.Ytcmdjbaehecicaa.Q.P
namespace Go.Proofs.Ytcmdjbaehecicaa.Pure
theorem FnExactReadMaze : Go.Proofs.Ytcmdjbaehecicaa.Q.laws_FnExactReadMaze.Pure := Go.Proofs.Ytcmdjbaehecicaa.Q.P.FnExactReadMaze
end Go.Proofs.Ytcmdjbaehecicaa.Pure
