/- The plain law FnDeadEnds: for every input that its Go types allow, the printed functions of the program and of the reference answer so that the law's own function says true. No further condition. -/
import Derived.Test.YtkldibidhjonnaaQx0
import Derived.Test.YtkldibidhjonnaaQx1
import Derived.Test.YtkldibidhjonnaaQx10
import Derived.Test.YtkldibidhjonnaaQx11
import Derived.Test.YtkldibidhjonnaaQx2
import Derived.Test.YtkldibidhjonnaaQx22
import Derived.Test.YtkldibidhjonnaaQx23
import Derived.Test.YtkldibidhjonnaaQx24
import Derived.Test.YtkldibidhjonnaaQx25
import Derived.Test.YtkldibidhjonnaaQx26
import Derived.Test.YtkldibidhjonnaaQx27
import Derived.Test.YtkldibidhjonnaaQx28
import Derived.Test.YtkldibidhjonnaaQx29
import Derived.Test.YtkldibidhjonnaaQx3
import Derived.Test.YtkldibidhjonnaaQx30
import Derived.Test.YtkldibidhjonnaaQx4
import Derived.Test.YtkldibidhjonnaaQx5
import Derived.Test.YtkldibidhjonnaaQx6
import Derived.Test.YtkldibidhjonnaaQx7
import Derived.Test.YtkldibidhjonnaaQx8
import Derived.Test.YtkldibidhjonnaaQx9
namespace Go.Proofs.Ytkldibidhjonnaa.Q.P
open Go.RowKit Go.Proofs.Ytkldibidhjonnaa.Q Go.Proofs.YtkldibidhjonnaaW.PrintWords Go.Proofs.YtkldibidhjonnaaW.PrintLast
set_option linter.unusedVariables false
set_option linter.unusedSimpArgs false

theorem w64_id {x : Int} (h0 : -9223372036854775808 ≤ x) (h1 : x ≤ 9223372036854775807) : wrap64 x = x := by
 unfold wrap64; omega
theorem shl_one {g : Int} (h0 : 0 ≤ g) (h1 : g ≤ 62) : shl .i64 1 g = 2 ^ g.toNat := by
 unfold shl
 rw [i64_w, Nat.min_eq_left (by simp only [IntKind.bits]; omega), Int.one_mul]
 have : (2 : Int) ^ g.toNat ≤ 2 ^ 62 := by
  have := Nat.pow_le_pow_right (n := 2) (by omega) (show g.toNat ≤ 62 by omega)
  exact_mod_cast this
 have h3 : (0 : Int) < 2 ^ g.toNat := by exact_mod_cast Nat.pow_pos (by omega)
 exact w64_id (by omega) (by omega)
theorem shr_nat {o g : Int} (ho : 0 ≤ o) (h1 : g ≤ 64) : shr .i64 o g = ((o.toNat >>> g.toNat : Nat) : Int) := by
 unfold shr
 rw [Nat.min_eq_left (by simp only [IntKind.bits]; omega), Nat.shiftRight_eq_div_pow]
 obtain ⟨n, rfl⟩ := Int.eq_ofNat_of_zero_le ho
 simp only [Int.toNat_natCast]
 rw [Int.natCast_ediv, Int.natCast_pow]; rfl
def bitAt (o g : Int) : Bool := o.toNat.testBit g.toNat
theorem ofInt_nat (x : Nat) : BitVec.ofInt 64 (x : Int) = BitVec.ofNat 64 x := by
 apply BitVec.eq_of_toNat_eq; simp
theorem bits_and_nat {x y : Nat} (hx : x < 9223372036854775808) (hy : y < 9223372036854775808) : Go.bits .and .i64 (x : Int) (y : Int) = ((x &&& y : Nat) : Int) := by
 show IntKind.i64.wrap (((BitVec.ofInt 64 (x : Int)) &&& (BitVec.ofInt 64 (y : Int))).toNat : Int) = _
 rw [i64_w, ofInt_nat, ofInt_nat]
 simp only [BitVec.toNat_and, BitVec.toNat_ofNat]
 rw [Nat.mod_eq_of_lt (by omega), Nat.mod_eq_of_lt (by omega)]
 have := Nat.and_le_left (n := x) (m := y)
 exact w64_id (by omega) (by omega)
theorem bits_and_one {x : Nat} (hx : x < 9223372036854775808) : Go.bits .and .i64 (x : Int) 1 = ((x % 2 : Nat) : Int) := by
 rw [show (1 : Int) = ((1 : Nat) : Int) from rfl, bits_and_nat hx (by omega), Nat.and_one_is_mod]
theorem bit_test {o g : Int} (ho : 0 ≤ o) (ho2 : o ≤ 9223372036854775807) (h1 : g ≤ 64) : (Go.bits .and .i64 (shr .i64 o g) 1 == 1) = bitAt o g := by
 rw [shr_nat ho h1, bits_and_one (by rw [Nat.shiftRight_eq_div_pow]; have := Nat.div_le_self o.toNat (2 ^ g.toNat); omega)]
 unfold bitAt
 rw [Nat.testBit, Bool.eq_iff_iff]
 simp only [beq_iff_eq, bne_iff_ne, ne_eq, Nat.and_comm 1, Nat.and_one_is_mod]
 omega
theorem bits_or_nat {x y : Nat} (hx : x < 9223372036854775808) (hy : y < 9223372036854775808) : Go.bits .or .i64 (x : Int) (y : Int) = ((x ||| y : Nat) : Int) := by
 show IntKind.i64.wrap (((BitVec.ofInt 64 (x : Int)) ||| (BitVec.ofInt 64 (y : Int))).toNat : Int) = _
 rw [i64_w, ofInt_nat, ofInt_nat]
 simp only [BitVec.toNat_or, BitVec.toNat_ofNat]
 rw [Nat.mod_eq_of_lt (by omega), Nat.mod_eq_of_lt (by omega)]
 have := Nat.or_lt_two_pow (n := 63) (show x < 2 ^ 63 by omega) (show y < 2 ^ 63 by omega)
 exact w64_id (by omega) (by omega)
theorem bits_andNot_nat {x y : Nat} (hx : x < 9223372036854775808) (hy : y < 9223372036854775808) : ∃ z : Nat, Go.bits .andNot .i64 (x : Int) (y : Int) = (z : Int) ∧ z ≤ x ∧ ∀ i, z.testBit i = (x.testBit i && !y.testBit i) := by
 refine ⟨(BitVec.ofNat 64 x &&& ~~~ BitVec.ofNat 64 y).toNat, ?_, ?_, ?_⟩
 ·show IntKind.i64.wrap (((BitVec.ofInt 64 (x : Int)) &&& ~~~ (BitVec.ofInt 64 (y : Int))).toNat : Int) = _
  rw [i64_w, ofInt_nat, ofInt_nat]
  have h1 : (BitVec.ofNat 64 x &&& ~~~ BitVec.ofNat 64 y).toNat ≤ x := by
   rw [BitVec.toNat_and, BitVec.toNat_ofNat, Nat.mod_eq_of_lt (by omega)]; exact Nat.and_le_left
  exact w64_id (by omega) (by omega)
 ·rw [BitVec.toNat_and, BitVec.toNat_ofNat, Nat.mod_eq_of_lt (by omega)]; exact Nat.and_le_left
 ·intro i
  rw [BitVec.testBit_toNat, BitVec.getLsbD_and, BitVec.getLsbD_not, BitVec.getLsbD_ofNat, BitVec.getLsbD_ofNat]
  by_cases hi : i < 64
  ·simp [hi]
  ·have : x.testBit i = false := Nat.testBit_lt_two_pow (Nat.lt_of_lt_of_le hx (by
    have := Nat.pow_le_pow_right (n := 2) (by omega) (show 64 ≤ i by omega)
    omega))
   simp [hi, this]
theorem bits_and_255 (y : Int) : 0 ≤ Go.bits .and .i64 y 255 ∧ Go.bits .and .i64 y 255 ≤ 255 := by
 have e : Go.bits .and .i64 y 255 = (((BitVec.ofInt 64 y) &&& (BitVec.ofInt 64 255)).toNat : Int) := by
  show IntKind.i64.wrap (((BitVec.ofInt 64 y) &&& (BitVec.ofInt 64 255)).toNat : Int) = _
  rw [i64_w]
  have h1 : ((BitVec.ofInt 64 y) &&& (BitVec.ofInt 64 255)).toNat ≤ 255 := by rw [BitVec.toNat_and]; exact Nat.and_le_right
  exact w64_id (by omega) (by omega)
 have h1 : ((BitVec.ofInt 64 y) &&& (BitVec.ofInt 64 255)).toNat ≤ 255 := by rw [BitVec.toNat_and]; exact Nat.and_le_right
 omega
def gOk (w h : Int) : Bool := decide (1 ≤ w) && decide (w ≤ 4) && decide (1 ≤ h) && decide (h ≤ 4)
theorem gOk_iff {w h : Int} : gOk w h = true ↔ 1 ≤ w ∧ w ≤ 4 ∧ 1 ≤ h ∧ h ≤ 4 := by
 unfold gOk; simp only [Bool.and_eq_true, decide_eq_true_eq]; omega
theorem gOk_cases {w h : Int} (hg : gOk w h = true) : (w = 1 ∨ w = 2 ∨ w = 3 ∨ w = 4) ∧ (h = 1 ∨ h = 2 ∨ h = 3 ∨ h = 4) := by
 have := gOk_iff.1 hg; omega
def nCells (w h : Int) : Int := if gOk w h = true then w * h else 0
def nGaps (w h : Int) : Int := if gOk w h = true then (w - 1) * h + w * (h - 1) else 0
def nCorn (w h : Int) : Int := if gOk w h = true then (w + 1) * (h + 1) else 0
def nEast (w h : Int) : Int := (w - 1) * h
theorem nCells_bd (w h : Int) : 0 ≤ nCells w h ∧ nCells w h ≤ 16 ∧ (gOk w h = true → 1 ≤ nCells w h) := by
 unfold nCells
 split
 ·rename_i hg; rcases gOk_cases hg with ⟨rfl | rfl | rfl | rfl, rfl | rfl | rfl | rfl⟩ <;> decide +kernel
 ·rename_i hg; exact ⟨by omega, by omega, fun h => absurd h hg⟩
theorem nGaps_bd (w h : Int) : 0 ≤ nGaps w h ∧ nGaps w h ≤ 24 := by
 unfold nGaps
 split
 ·rename_i hg; rcases gOk_cases hg with ⟨rfl | rfl | rfl | rfl, rfl | rfl | rfl | rfl⟩ <;> decide +kernel
 ·omega
theorem l01In_eq (a b c : Int) : spec_l01In.f a b c = some (decide (b ≤ a) && decide (a ≤ c)) := by
 unfold spec_l01In.f
 by_cases h : a ≥ b
 ·rw [if_pos h]; simp [show b ≤ a from h]
 ·rw [if_neg h]; simp [show ¬ b ≤ a from h]
theorem spec_GridOk_eq (w h : Int) : spec_GridOk.f w h = some (gOk w h) := by
 unfold spec_GridOk.f gOk
 simp only [l01In_eq, Option.bind_some]
 by_cases h1 : 1 ≤ w <;> by_cases h2 : w ≤ 4 <;> simp [h1, h2]
theorem impl_GridOk_eq (w h : Int) : impl_GridOk.f w h = some (gOk w h) := by
 unfold impl_GridOk.f gOk
 by_cases h1 : 1 ≤ w <;> by_cases h2 : w ≤ 4 <;> by_cases h3 : 1 ≤ h <;> simp [h1, h2, h3]
theorem spec_CountCells_eq (w h : Int) : spec_CountCells.f w h = some (nCells w h) := by
 unfold spec_CountCells.f nCells
 rw [spec_GridOk_eq]; simp only [Option.bind_some]
 by_cases hg : gOk w h = true
 ·rw [if_pos hg, if_pos hg]
  rcases gOk_cases hg with ⟨rfl | rfl | rfl | rfl, rfl | rfl | rfl | rfl⟩ <;> decide +kernel
 ·rw [if_neg hg, if_neg hg]
theorem impl_CountCells_eq (w h : Int) : impl_CountCells.f w h = some (nCells w h) := by
 unfold impl_CountCells.f nCells
 rw [impl_GridOk_eq]; simp only [Option.bind_some]
 by_cases hg : gOk w h = true
 ·rw [if_pos hg, if_pos hg]
  rcases gOk_cases hg with ⟨rfl | rfl | rfl | rfl, rfl | rfl | rfl | rfl⟩ <;> decide +kernel
 ·rw [if_neg hg, if_neg hg]
theorem l02East_eq {w h : Int} (hg : gOk w h = true) : spec_l02East.f w h = some (nEast w h) := by
 unfold spec_l02East.f nEast
 rcases gOk_cases hg with ⟨rfl | rfl | rfl | rfl, rfl | rfl | rfl | rfl⟩ <;> decide +kernel
theorem spec_CountGaps_eq (w h : Int) : spec_CountGaps.f w h = some (nGaps w h) := by
 unfold spec_CountGaps.f nGaps
 rw [spec_GridOk_eq]; simp only [Option.bind_some]
 by_cases hg : gOk w h = true
 ·rw [if_pos hg, if_pos hg, l02East_eq hg]
  rcases gOk_cases hg with ⟨rfl | rfl | rfl | rfl, rfl | rfl | rfl | rfl⟩ <;> decide +kernel
 ·rw [if_neg hg, if_neg hg]
theorem impl_CountGaps_eq (w h : Int) : impl_CountGaps.f w h = some (nGaps w h) := by
 unfold impl_CountGaps.f nGaps
 rw [impl_GridOk_eq]; simp only [Option.bind_some]
 by_cases hg : gOk w h = true
 ·rw [if_pos hg, if_pos hg]
  rcases gOk_cases hg with ⟨rfl | rfl | rfl | rfl, rfl | rfl | rfl | rfl⟩ <;> decide +kernel
 ·rw [if_neg hg, if_neg hg]
def mOk (w h o : Int) : Bool := gOk w h && (decide (0 ≤ o) && decide (o < shl .i64 1 (nGaps w h)))
theorem mOk_iff {w h o : Int} : mOk w h o = true ↔ gOk w h = true ∧ 0 ≤ o ∧ o < 2 ^ (nGaps w h).toNat := by
 unfold mOk
 have := nGaps_bd w h
 rw [shl_one (by omega) (by omega)]
 simp only [Bool.and_eq_true, decide_eq_true_eq]
theorem mOk_bd {w h o : Int} (hm : mOk w h o = true) : 0 ≤ o ∧ o < 16777216 := by
 obtain ⟨_, h0, h1⟩ := mOk_iff.1 hm
 have := nGaps_bd w h
 have h2 := Nat.pow_le_pow_right (n := 2) (by omega) (show (nGaps w h).toNat ≤ 24 by omega)
 have h3 : (2 : Int) ^ (nGaps w h).toNat ≤ 2 ^ 24 := by exact_mod_cast h2
 omega
theorem impl_MazeOk_eq (w h o : Int) : impl_MazeOk.f w h o = some (mOk w h o) := by
 unfold impl_MazeOk.f mOk
 have hb := nGaps_bd w h
 simp only [impl_GridOk_eq, impl_CountGaps_eq, Option.bind_some]
 rw [if_pos hb.1]
 by_cases hg : gOk w h = true
 ·rw [if_pos hg, hg, Bool.true_and]
  by_cases h0 : 0 ≤ o
  ·rw [if_pos h0]; simp [h0]
  ·rw [if_neg h0]; simp [h0]
 ·rw [if_neg hg]; simp [hg]
def gapIn (w h g : Int) : Bool := decide (0 ≤ g) && decide (g < nGaps w h)
theorem gapIn_iff {w h g : Int} : gapIn w h g = true ↔ 0 ≤ g ∧ g < nGaps w h := by unfold gapIn; simp
theorem gapIn_spec (w h g : Int) : (decide (0 ≤ g) && decide (g ≤ wrap64 (nGaps w h - 1))) = gapIn w h g := by
 have hb := nGaps_bd w h
 rw [w64_id (by omega) (by omega)]
 unfold gapIn; rw [Bool.eq_iff_iff]; simp; omega
theorem isOpen_eq {w h o g : Int} (hm : mOk w h o = true) (hg : g ≤ 64) : impl_isOpen.f w h o g = some (decide (0 ≤ g) && bitAt o g) := by
 unfold impl_isOpen.f
 have hb := mOk_bd hm
 by_cases h0 : 0 ≤ g
 ·rw [if_pos h0, if_pos h0, bit_test hb.1 (by omega) hg]; simp [h0]
 ·rw [if_neg h0]; simp [h0]
def ends (w h g : Int) : Int × Int :=
 if gapIn w h g = true then (if g < nEast w h then (g / (w - 1) * w + g % (w - 1), g / (w - 1) * w + g % (w - 1) + 1) else (g - nEast w h, g - nEast w h + w)) else (-1, -1)
theorem spec_EndsOf_eq (w h g : Int) : spec_EndsOf.f w h g = some (ends w h g) := by
 unfold spec_EndsOf.f ends
 simp only [spec_CountGaps_eq, l01In_eq, Option.bind_some, gapIn_spec]
 by_cases hg : gapIn w h g = true
 ·rw [if_pos hg, if_pos hg]
  have h1 := gapIn_iff.1 hg
  have hk : gOk w h = true := by
   by_cases hk : gOk w h = true
   ·exact hk
   ·have := h1.2; unfold nGaps at this; rw [if_neg hk] at this; omega
  have h2 : nGaps w h = (w - 1) * h + w * (h - 1) := by unfold nGaps; rw [if_pos hk]
  rw [h2] at h1
  rw [l02East_eq hk]
  simp only [Option.bind_some]
  have e1 : wrap64 (w - 1) = w - 1 := by have := gOk_iff.1 hk; exact w64_id (by omega) (by omega)
  rw [e1]
  by_cases he : g < nEast w h
  ·rw [if_pos he, if_pos he]
   unfold nEast at he
   rcases gOk_cases hk with ⟨rfl | rfl | rfl | rfl, rfl | rfl | rfl | rfl⟩ <;> first | omega | (simp only [Int.reduceSub, Int.tdiv_eq_ediv_of_nonneg h1.1, Int.tmod_eq_emod_of_nonneg h1.1]; rw [if_neg (by decide), w64_id (x := g / _) (by omega) (by omega), w64_id (x := g / _ * _) (by omega) (by omega), w64_id (x := g / _ * _ + g % _) (by omega) (by omega), w64_id (by omega) (by omega)])
  ·rw [if_neg he, if_neg he]
   unfold nEast at he ⊢
   rcases gOk_cases hk with ⟨rfl | rfl | rfl | rfl, rfl | rfl | rfl | rfl⟩ <;> (rw [w64_id (x := g - _) (by omega) (by omega), w64_id (by omega) (by omega)])
 ·rw [if_neg hg, if_neg hg]
def nbr (w h c d : Int) : Int :=
 if 0 ≤ c ∧ c < nCells w h then (if d = 0 then (if 0 < c / w then c - w else -1) else if d = 1 then (if c % w < w - 1 then c + 1 else -1) else if d = 2 then (if c / w < h - 1 then c + w else -1) else if d = 3 then (if 0 < c % w then c - 1 else -1) else -1) else -1
theorem ok_of_cell {w h c : Int} (h0 : 0 ≤ c) (h1 : c < nCells w h) : gOk w h = true := by
 by_cases hk : gOk w h = true
 ·exact hk
 ·unfold nCells at h1; rw [if_neg hk] at h1; omega
theorem nCells_ok {w h : Int} (hk : gOk w h = true) : nCells w h = w * h := by unfold nCells; rw [if_pos hk]
theorem nGaps_ok {w h : Int} (hk : gOk w h = true) : nGaps w h = (w - 1) * h + w * (h - 1) := by unfold nGaps; rw [if_pos hk]
def cellIn (w h c : Int) : Bool := decide (0 ≤ c) && decide (c < nCells w h)
theorem cellIn_iff {w h c : Int} : cellIn w h c = true ↔ 0 ≤ c ∧ c < nCells w h := by unfold cellIn; simp
theorem isCell_eq (w h c : Int) : impl_isCell.f w h c = some (cellIn w h c) := by
 unfold impl_isCell.f cellIn
 rw [impl_CountCells_eq]
 by_cases h0 : 0 ≤ c
 ·rw [if_pos h0]; simp [h0]
 ·rw [if_neg h0]; simp [h0]
theorem cell_xy {w h c : Int} (h0 : 0 ≤ c) (h1 : c < nCells w h) : (0 ≤ c % w ∧ c % w ≤ w - 1) ∧ (0 ≤ c / w ∧ c / w ≤ h - 1) ∧ c = c / w * w + c % w := by
 have hk := ok_of_cell h0 h1
 rw [nCells_ok hk] at h1
 rcases gOk_cases hk with ⟨rfl | rfl | rfl | rfl, rfl | rfl | rfl | rfl⟩ <;> omega
theorem cell_w64 {w h c : Int} (h0 : 0 ≤ c) (h1 : c < nCells w h) : wrap64 (Int.tdiv c w) = c / w ∧ Int.tmod c w = c % w := by
 have := cell_xy h0 h1
 have hw := gOk_iff.1 (ok_of_cell h0 h1)
 rw [Int.tdiv_eq_ediv_of_nonneg h0, Int.tmod_eq_emod_of_nonneg h0]
 exact ⟨w64_id (by omega) (by omega), rfl⟩
theorem impl_Neighbor_eq (k : Nat) (w h c d : Int) : impl_Neighbor.f (k + 3) w h c d = some (nbr w h c d) := by
 unfold impl_Neighbor.f nbr
 simp only [isCell_eq, Option.bind_some]
 by_cases hc : cellIn w h c = true
 ·obtain ⟨h0, h1⟩ := cellIn_iff.1 hc
  have hk := ok_of_cell h0 h1
  have hw := gOk_iff.1 hk
  have hxy := cell_xy h0 h1
  have hb := nCells_bd w h
  obtain ⟨e1, e2⟩ := cell_w64 h0 h1
  rw [if_pos hc, if_pos (show 0 ≤ c ∧ c < nCells w h from ⟨h0, h1⟩), if_neg (show ¬ w = 0 by omega), e1, e2]
  simp only [impl_Neighbor.j0, impl_Neighbor.j1, impl_Neighbor.j2]
  rw [w64_id (x := w - 1) (by omega) (by omega), w64_id (x := h - 1) (by omega) (by omega), w64_id (x := c - w) (by omega) (by omega), w64_id (x := c + w) (by omega) (by omega), w64_id (x := c - 1) (by omega) (by omega), w64_id (x := c + 1) (by omega) (by omega)]
  simp only [decide_eq_true_eq, gt_iff_lt, Bool.false_eq_true, if_false]
  by_cases d0 : d = 0
  ·subst d0; simp; split <;> rfl
  ·by_cases d1 : d = 1
   ·subst d1; simp; split <;> rfl
   ·by_cases d2 : d = 2
    ·subst d2; simp; split <;> rfl
    ·by_cases d3 : d = 3
     ·subst d3; simp
      split <;> rfl
     ·simp [d0, d1, d2, d3]
 ·rw [if_neg hc, if_neg (fun hh => hc (cellIn_iff.2 hh))]
theorem nbr_cases {w h c d : Int} (hn : 0 ≤ nbr w h c d) : (0 ≤ c ∧ c < nCells w h) ∧ ((d = 0 ∧ 0 < c / w ∧ nbr w h c d = c - w) ∨ (d = 1 ∧ c % w < w - 1 ∧ nbr w h c d = c + 1) ∨ (d = 2 ∧ c / w < h - 1 ∧ nbr w h c d = c + w) ∨ (d = 3 ∧ 0 < c % w ∧ nbr w h c d = c - 1)) := by
 unfold nbr at hn ⊢
 by_cases hc : 0 ≤ c ∧ c < nCells w h
 ·rw [if_pos hc] at hn ⊢
  refine ⟨hc, ?_⟩
  by_cases d0 : d = 0
  ·rw [if_pos d0] at hn ⊢
   by_cases z : 0 < c / w
   ·rw [if_pos z]; exact .inl ⟨d0, z, rfl⟩
   ·rw [if_neg z] at hn; omega
  ·rw [if_neg d0] at hn ⊢
   by_cases d1 : d = 1
   ·rw [if_pos d1] at hn ⊢
    by_cases z : c % w < w - 1
    ·rw [if_pos z]; exact .inr (.inl ⟨d1, z, rfl⟩)
    ·rw [if_neg z] at hn; omega
   ·rw [if_neg d1] at hn ⊢
    by_cases d2 : d = 2
    ·rw [if_pos d2] at hn ⊢
     by_cases z : c / w < h - 1
     ·rw [if_pos z]; exact .inr (.inr (.inl ⟨d2, z, rfl⟩))
     ·rw [if_neg z] at hn; omega
    ·rw [if_neg d2] at hn ⊢
     by_cases d3 : d = 3
     ·rw [if_pos d3] at hn ⊢
      by_cases z : 0 < c % w
      ·rw [if_pos z]; exact .inr (.inr (.inr ⟨d3, z, rfl⟩))
      ·rw [if_neg z] at hn; omega
     ·rw [if_neg d3] at hn; omega
 ·rw [if_neg hc] at hn; omega
theorem nbr_bd {w h c d : Int} (hn : 0 ≤ nbr w h c d) : nbr w h c d < nCells w h := by
 obtain ⟨⟨h0, h1⟩, hd⟩ := nbr_cases hn
 have hk := ok_of_cell h0 h1
 rw [nCells_ok hk] at h1 ⊢
 rcases gOk_cases hk with ⟨rfl | rfl | rfl | rfl, rfl | rfl | rfl | rfl⟩ <;> omega
def gapAt (w h c d : Int) : Int :=
 if nbr w h c d < 0 then -1 else if d = 1 ∨ d = 3 then mn c (nbr w h c d) / w * (w - 1) + mn c (nbr w h c d) % w else nEast w h + mn c (nbr w h c d)
theorem mn_bd {w h c d : Int} (hn : 0 ≤ nbr w h c d) : 0 ≤ mn c (nbr w h c d) ∧ mn c (nbr w h c d) < nCells w h := by
 have h1 := nbr_bd hn
 obtain ⟨⟨h2, h3⟩, _⟩ := nbr_cases hn
 unfold mn; split <;> omega
theorem gap_w64 {w h c d : Int} (hn : 0 ≤ nbr w h c d) :
  wrap64 ((wrap64 ((wrap64 (Int.tdiv (mn c (nbr w h c d)) w)) * (wrap64 (w - 1)))) + (Int.tmod (mn c (nbr w h c d)) w)) = mn c (nbr w h c d) / w * (w - 1) + mn c (nbr w h c d) % w ∧ wrap64 (nEast w h + mn c (nbr w h c d)) = nEast w h + mn c (nbr w h c d) ∧ w ≠ 0 ∧ wrap64 ((wrap64 (w - 1)) * h) = nEast w h := by
 obtain ⟨m0, m1⟩ := mn_bd hn
 generalize mn c (nbr w h c d) = m at m0 m1 ⊢
 have hk := ok_of_cell m0 m1
 have hw := gOk_iff.1 hk
 have hxy := cell_xy m0 m1
 have hb := nCells_bd w h
 obtain ⟨e1, e2⟩ := cell_w64 m0 m1
 have e3 : wrap64 (w - 1) = w - 1 := w64_id (by omega) (by omega)
 have p1 : 0 ≤ m / w * (w - 1) ∧ m / w * (w - 1) ≤ 16 := by
  have q0 : 0 ≤ m / w * (w - 1) := Int.mul_nonneg hxy.2.1.1 (by omega)
  have q1 : m / w * (w - 1) = m / w * w - m / w := by rw [Int.mul_sub, Int.mul_one]
  omega
 have p2 : 0 ≤ nEast w h ∧ nEast w h ≤ 12 := by
  unfold nEast
  rcases gOk_cases hk with ⟨rfl | rfl | rfl | rfl, rfl | rfl | rfl | rfl⟩ <;> decide
 rw [e1, e2, e3, w64_id (x := m / w * (w - 1)) (by omega) (by omega)]
 refine ⟨w64_id (by omega) (by omega), w64_id (by omega) (by omega), by omega, ?_⟩
 have : (w - 1) * h = nEast w h := rfl
 rw [this]; exact w64_id (by omega) (by omega)
theorem impl_GapAt_eq (k : Nat) (w h c d : Int) : impl_GapAt.f (k + 3) w h c d = some (gapAt w h c d) := by
 unfold impl_GapAt.f gapAt
 rw [impl_Neighbor_eq]; simp only [Option.bind_some]
 by_cases hn : nbr w h c d < 0
 ·rw [if_pos hn, if_pos hn]
 ·rw [if_neg hn, if_neg hn]
  obtain ⟨e1, e2, e3, e4⟩ := gap_w64 (w := w) (h := h) (c := c) (d := d) (by omega)
  rw [if_neg e3, e1, e4, e2]
  by_cases d1 : d = 1
  ·rw [if_pos d1, if_pos (.inl d1)]
  ·rw [if_neg d1]
   by_cases d3 : d = 3
   ·rw [if_pos d3, if_pos (.inr d3)]
   ·rw [if_neg d3, if_neg (by omega)]
theorem gapAt_nonneg {w h c d : Int} : 0 ≤ gapAt w h c d ↔ 0 ≤ nbr w h c d := by
 unfold gapAt
 by_cases hn : nbr w h c d < 0
 ·rw [if_pos hn]; omega
 ·rw [if_neg hn]
  have hn' : 0 ≤ nbr w h c d := by omega
  obtain ⟨m0, m1⟩ := mn_bd hn'
  have hk := ok_of_cell m0 m1
  have hw := gOk_iff.1 hk
  have hxy := cell_xy m0 m1
  have q0 : 0 ≤ mn c (nbr w h c d) / w * (w - 1) := Int.mul_nonneg hxy.2.1.1 (by omega)
  have q1 : 0 ≤ nEast w h := Int.mul_nonneg (by omega) (by omega)
  split <;> omega
theorem gapAt_bd {w h c d : Int} (hn : 0 ≤ nbr w h c d) : 0 ≤ gapAt w h c d ∧ gapAt w h c d < nGaps w h := by
 refine ⟨gapAt_nonneg.2 hn, ?_⟩
 obtain ⟨⟨h0, h1⟩, hd⟩ := nbr_cases hn
 have hk := ok_of_cell h0 h1
 unfold gapAt mn nEast
 rw [if_neg (by omega), nGaps_ok hk]
 rw [nCells_ok hk] at h1
 rcases hd with ⟨rfl, z, e⟩ | ⟨rfl, z, e⟩ | ⟨rfl, z, e⟩ | ⟨rfl, z, e⟩ <;> rw [e] <;> simp only [Int.reduceEq, or_false, or_true, false_or, or_self, if_true, if_false] <;>
  rcases gOk_cases hk with ⟨rfl | rfl | rfl | rfl, rfl | rfl | rfl | rfl⟩ <;> split <;> omega
def stp (w h o c d : Int) : Int :=
 if mOk w h o = true then (if 0 ≤ gapAt w h c d ∧ bitAt o (gapAt w h c d) = true then nbr w h c d else -1) else -1
theorem gapAt_le {w h c d : Int} : gapAt w h c d ≤ 64 := by
 by_cases hn : 0 ≤ nbr w h c d
 ·have := gapAt_bd hn
  have := nGaps_bd w h
  omega
 ·have : ¬ 0 ≤ gapAt w h c d := fun hh => hn (gapAt_nonneg.1 hh)
  omega
theorem impl_Step_eq (k : Nat) (w h o c d : Int) : impl_Step.f (k + 3) w h o c d = some (stp w h o c d) := by
 unfold impl_Step.f stp
 simp only [impl_MazeOk_eq, impl_GapAt_eq, impl_Neighbor_eq, Option.bind_some]
 by_cases hm : mOk w h o = true
 ·rw [if_pos hm, if_pos hm, isOpen_eq hm gapAt_le]
  simp only [Option.bind_some, Bool.and_eq_true, decide_eq_true_eq]
  split <;> rfl
 ·rw [if_neg hm, if_neg hm]
theorem stp_bd {w h o c d : Int} (hs : 0 ≤ stp w h o c d) : mOk w h o = true ∧ (0 ≤ c ∧ c < nCells w h) ∧ (0 ≤ d ∧ d ≤ 3) ∧ stp w h o c d < nCells w h ∧ stp w h o c d = nbr w h c d := by
 unfold stp at hs ⊢
 by_cases hm : mOk w h o = true
 ·rw [if_pos hm] at hs ⊢
  by_cases hp : 0 ≤ gapAt w h c d ∧ bitAt o (gapAt w h c d) = true
  ·rw [if_pos hp] at hs ⊢
   obtain ⟨h1, h2⟩ := nbr_cases hs
   exact ⟨hm, h1, by omega, nbr_bd hs, rfl⟩
  ·rw [if_neg hp] at hs; omega
 ·rw [if_neg hm] at hs; omega
def waysL (w h o c : Int) : List Int := [0, 1, 2, 3].filter fun d => decide (0 ≤ stp w h o c d)
theorem impl_WaysFrom_eq (k : Nat) (w h o c : Int) : impl_WaysFrom.f (k + 8) w h o c = some (waysL w h o c) := by
 unfold impl_WaysFrom.f waysL
 simp only [impl_WaysFrom.l0, impl_Step_eq, Option.bind_some, show wrap64 (0 + 1) = 1 from by decide +kernel, show wrap64 (1 + 1) = 2 from by decide +kernel, show wrap64 (2 + 1) = 3 from by decide +kernel, show wrap64 (3 + 1) = 4 from by decide +kernel]
 by_cases h0 : 0 ≤ stp w h o c 0 <;> by_cases h1 : 0 ≤ stp w h o c 1 <;> by_cases h2 : 0 ≤ stp w h o c 2 <;> by_cases h3 : 0 ≤ stp w h o c 3 <;> simp [h0, h1, h2, h3, List.filter]
theorem l01New_tot (l : List Int) (hl : l.length ≤ 140737488351232) (d : Nat) : ∀ (k : Nat) (h i : Int), 0 ≤ i → (l.length : Int) - i ≤ d → d < k → ∃ h', spec_l01New.l0 k l h i = some (l, 0, h') := by
 induction d with
 | zero =>
  intro k h i h0 hd hk
  obtain ⟨k, rfl⟩ : ∃ m, k = m + 1 := ⟨k - 1, by omega⟩
  simp only [spec_l01New.l0]; rw [if_neg (by omega)]; exact ⟨_, rfl⟩
 | succ d ih =>
  intro k h i h0 hd hk
  obtain ⟨k, rfl⟩ : ∃ m, k = m + 1 := ⟨k - 1, by omega⟩
  simp only [spec_l01New.l0]
  by_cases h1 : i < (l.length : Int)
  ·rw [if_pos h1]
   by_cases h2 : i < 4000
   ·rw [if_pos h2, if_pos h0, w64_id (x := i + 1) (by omega) (by omega)]
    exact ih _ _ _ (by omega) (by omega) (by omega)
   ·rw [if_neg h2]; exact ⟨_, rfl⟩
  ·rw [if_neg h1]; exact ⟨_, rfl⟩
theorem l01New_eq (l : List Int) (hl : l.length ≤ 140737488351232) (k : Nat) (hk : l.length < k) : ∃ h', spec_l01New.f k l = some (l, 0, h') := by
 unfold spec_l01New.f
 exact l01New_tot l hl l.length k _ _ (by omega) (by omega) hk
theorem l01Byte_tot (l : List Int) (hl : l.length ≤ 140737488351232) (i h : Int) (h0 : 0 ≤ i) : ∃ x i' h', spec_l01Byte.f l i h = some (x, i', h') ∧ 0 ≤ x ∧ x ≤ 255 ∧ 0 ≤ i' := by
 unfold spec_l01Byte.f
 by_cases h1 : i < (l.length : Int)
 ·rw [if_pos h1, if_pos h0, w64_id (x := i + 1) (by omega) (by omega)]
  exact ⟨_, _, _, rfl, (bits_and_255 _).1, (bits_and_255 _).2, by omega⟩
 ·rw [if_neg h1]
  exact ⟨_, _, _, rfl, (bits_and_255 _).1, (bits_and_255 _).2, h0⟩
theorem l01Below_tot (l : List Int) (hl : l.length ≤ 140737488351232) (i h n : Int) (h0 : 0 ≤ i) : ∃ x i' h', spec_l01Below.f l i h n = some (x, i', h') ∧ 0 ≤ x ∧ (0 < n → x < n) ∧ (n ≤ 0 → x = 0) ∧ 0 ≤ i' := by
 unfold spec_l01Below.f
 by_cases h1 : n ≤ 0
 ·rw [if_pos h1]; exact ⟨_, _, _, rfl, by omega, by omega, fun _ => rfl, h0⟩
 ·rw [if_neg h1]
  by_cases h2 : n ≤ 256
  ·rw [if_pos h2]
   obtain ⟨x, i', h', e, x0, x1, i0⟩ := l01Byte_tot l hl i h h0
   rw [e]; simp only [Option.bind_some]
   rw [if_neg (by omega), Int.tmod_eq_emod_of_nonneg x0]
   exact ⟨_, _, _, rfl, Int.emod_nonneg _ (by omega), fun _ => Int.emod_lt_of_pos _ (by omega), fun hh => by omega, i0⟩
  ·rw [if_neg h2]
   obtain ⟨x, i1, h1', e, x0, x1, i0⟩ := l01Byte_tot l hl i h h0
   rw [e]; simp only [Option.bind_some]
   obtain ⟨y, i2, h2', e, y0, y1, i0⟩ := l01Byte_tot l hl i1 h1' i0
   rw [e]; simp only [Option.bind_some]
   obtain ⟨z, i3, h3', e, z0, z1, i0⟩ := l01Byte_tot l hl i2 h2' i0
   rw [e]; simp only [Option.bind_some]
   obtain ⟨u, i4, h4', e, u0, u1, i0⟩ := l01Byte_tot l hl i3 h3' i0
   rw [e]; simp only [Option.bind_some]
   rw [if_neg (by omega), w64_id (x := x * 16777216) (by omega) (by omega), w64_id (x := y * 65536) (by omega) (by omega), w64_id (x := z * 256) (by omega) (by omega), w64_id (x := x * 16777216 + y * 65536) (by omega) (by omega), w64_id (x := x * 16777216 + y * 65536 + z * 256) (by omega) (by omega), w64_id (by omega) (by omega), Int.tmod_eq_emod_of_nonneg (by omega)]
   exact ⟨_, _, _, rfl, Int.emod_nonneg _ (by omega), fun _ => Int.emod_lt_of_pos _ (by omega), fun hh => by omega, i0⟩
theorem l01PickInt_tot (l : List Int) (hl : l.length ≤ 140737488351232) (i h : Int) (xs : List Int) (hx : 0 < xs.length) (h0 : 0 ≤ i) : ∃ x i' h', spec_l01PickInt.f l i h xs = some (x, i', h') ∧ x ∈ xs ∧ 0 ≤ i' := by
 unfold spec_l01PickInt.f
 obtain ⟨x, i', h', e, x0, x1, _, i0⟩ := l01Below_tot l hl i h xs.length h0
 rw [e]; simp only [Option.bind_some]
 have hlt := x1 (by omega)
 rw [if_pos x0, if_pos hlt]
 refine ⟨_, _, _, rfl, ?_, i0⟩
 unfold rd
 rw [List.getD_eq_getElem?_getD, List.getElem?_eq_getElem (by omega)]
 exact List.getElem_mem _
theorem l02Grid_tot (l : List Int) (hl : l.length ≤ 140737488351232) (i h : Int) (h0 : 0 ≤ i) : ∃ x y i' h', spec_l02Grid.f l i h = some (x, y, i', h') ∧ gOk x y = true ∧ 0 ≤ i' := by
 unfold spec_l02Grid.f
 obtain ⟨x, i1, h1, e, hx, i0⟩ := l01PickInt_tot l hl i h [1, 2, 3, 3, 4] (by decide) h0
 rw [e]; simp only [Option.bind_some]
 obtain ⟨y, i2, h2, e, hy, i0⟩ := l01PickInt_tot l hl i1 h1 [1, 2, 3, 3, 4] (by decide) i0
 rw [e]; simp only [Option.bind_some]
 refine ⟨_, _, _, _, rfl, ?_, i0⟩
 simp only [List.mem_cons, List.not_mem_nil, or_false] at hx hy
 rw [gOk_iff]; omega
theorem ok_of_gap {w h g : Int} (hg : gapIn w h g = true) : gOk w h = true := by
 have h1 := gapIn_iff.1 hg
 by_cases hk : gOk w h = true
 ·exact hk
 ·have := h1.2; unfold nGaps at this; rw [if_neg hk] at this; omega
def setG (o g : Int) (b : Bool) : Int := if bitAt o g = b then o else ((o.toNat ^^^ 2 ^ g.toNat : Nat) : Int)
theorem two_pow_le {g : Int} (h1 : g ≤ 24) : 2 ^ g.toNat ≤ 16777216 := by
 have := Nat.pow_le_pow_right (n := 2) (by omega) (show g.toNat ≤ 24 by omega)
 omega
theorem shl_nat {g : Int} (h0 : 0 ≤ g) (h1 : g ≤ 24) : shl .i64 1 g = ((2 ^ g.toNat : Nat) : Int) := by
 rw [shl_one h0 (by omega)]; simp
theorem bit_setG {o g : Int} {b : Bool} (g2 : Int) (h0 : 0 ≤ g) (h2 : 0 ≤ g2) : bitAt (setG o g b) g2 = if g2 = g then b else bitAt o g2 := by
 unfold setG
 by_cases e : bitAt o g = b
 ·rw [if_pos e]
  by_cases e2 : g2 = g
  ·rw [if_pos e2, e2, e]
  ·rw [if_neg e2]
 ·rw [if_neg e]
  unfold bitAt at e ⊢
  rw [Int.toNat_natCast, Nat.testBit_xor, Nat.testBit_two_pow]
  by_cases e2 : g2 = g
  ·subst e2
   rw [if_pos rfl]
   simp only [decide_true, Bool.xor_true]
   cases b <;> simp_all
  ·rw [if_neg e2]
   have : ¬ g.toNat = g2.toNat := by omega
   simp [this]
theorem setG_bd {o g : Int} {b : Bool} (n : Int) (ho : 0 ≤ o) (hl : o < 2 ^ n.toNat) (h0 : 0 ≤ g) (h1 : g < n) : 0 ≤ setG o g b ∧ setG o g b < 2 ^ n.toNat := by
 unfold setG
 split
 ·exact ⟨ho, hl⟩
 ·refine ⟨by omega, ?_⟩
  have a1 : o.toNat < 2 ^ n.toNat := by
   have : ((o.toNat : Nat) : Int) < ((2 ^ n.toNat : Nat) : Int) := by rw [Int.toNat_of_nonneg ho]; simpa using hl
   exact_mod_cast this
  have a2 : 2 ^ g.toNat < 2 ^ n.toNat := Nat.pow_lt_pow_right (by omega) (by omega)
  have := Nat.xor_lt_two_pow a1 a2
  exact_mod_cast this
theorem mOk_setG {w h o g : Int} {b : Bool} (hm : mOk w h o = true) (hg : gapIn w h g = true) : mOk w h (setG o g b) = true := by
 obtain ⟨hk, h0, h1⟩ := mOk_iff.1 hm
 obtain ⟨g0, g1⟩ := gapIn_iff.1 hg
 obtain ⟨s0, s1⟩ := setG_bd (b := b) (nGaps w h) h0 h1 g0 g1
 exact mOk_iff.2 ⟨hk, s0, s1⟩
theorem clear_setG {o g : Int} (ho : 0 ≤ o) (ho2 : o < 16777216) (h0 : 0 ≤ g) (h1 : g ≤ 24) : Go.bits .andNot .i64 o (shl .i64 1 g) = setG o g false := by
 have h2 := two_pow_le h1
 rw [shl_nat h0 h1]
 obtain ⟨n, rfl⟩ := Int.eq_ofNat_of_zero_le ho
 obtain ⟨z, e, _, hz⟩ := bits_andNot_nat (x := n) (y := 2 ^ g.toNat) (by omega) (by omega)
 rw [e]; unfold setG bitAt
 simp only [Int.toNat_natCast]
 by_cases hb : n.testBit g.toNat = false
 ·rw [if_pos hb]
  congr 1
  apply Nat.eq_of_testBit_eq
  intro i
  rw [hz, Nat.testBit_two_pow]
  by_cases e2 : g.toNat = i
  ·subst e2; simp [hb]
  ·simp [e2]
 ·rw [if_neg hb]
  congr 1
  apply Nat.eq_of_testBit_eq
  intro i
  rw [hz, Nat.testBit_two_pow, Nat.testBit_xor, Nat.testBit_two_pow]
  by_cases e2 : g.toNat = i
  ·subst e2; simp at hb; simp [hb]
  ·simp [e2]
theorem open_setG {o g : Int} (ho : 0 ≤ o) (ho2 : o < 16777216) (h0 : 0 ≤ g) (h1 : g ≤ 24) : Go.bits .or .i64 (Go.bits .andNot .i64 o (shl .i64 1 g)) (shl .i64 1 g) = setG o g true := by
 have h2 := two_pow_le h1
 rw [shl_nat h0 h1]
 obtain ⟨n, rfl⟩ := Int.eq_ofNat_of_zero_le ho
 obtain ⟨z, e, hle, hz⟩ := bits_andNot_nat (x := n) (y := 2 ^ g.toNat) (by omega) (by omega)
 rw [e, bits_or_nat (by omega) (by omega)]; unfold setG bitAt
 simp only [Int.toNat_natCast]
 by_cases hb : n.testBit g.toNat = true
 ·rw [if_pos hb]
  congr 1
  apply Nat.eq_of_testBit_eq
  intro i
  rw [Nat.testBit_or, hz, Nat.testBit_two_pow]
  by_cases e2 : g.toNat = i
  ·subst e2; simp [hb]
  ·simp [e2]
 ·rw [if_neg hb]
  congr 1
  apply Nat.eq_of_testBit_eq
  intro i
  rw [Nat.testBit_or, hz, Nat.testBit_two_pow, Nat.testBit_xor, Nat.testBit_two_pow]
  by_cases e2 : g.toNat = i
  ·subst e2; simp at hb; simp [hb]
  ·simp [e2]
theorem impl_with_eq {w h o g : Int} {b : Bool} (hm : mOk w h o = true) (hg : gapIn w h g = true) : impl_with.f w h o g b = some (w, h, setG o g b) := by
 unfold impl_with.f
 have hb := mOk_bd hm
 have hg2 := gapIn_iff.1 hg
 have hn := nGaps_bd w h
 rw [if_pos hg2.1]
 cases b with
 | true => rw [if_pos rfl, open_setG hb.1 hb.2 hg2.1 (by omega)]
 | false => rw [if_neg (by decide), clear_setG hb.1 hb.2 hg2.1 (by omega)]
theorem waysL_len (w h o c : Int) : (waysL w h o c).length ≤ 4 := by
 unfold waysL
 exact Nat.le_trans (List.length_filter_le _ _) (by decide)
theorem at_tot (l : List Int) (hl : l.length ≤ 140737488351232) (hw : ∀ x ∈ l, (Lit.int .u8 x).wf = true) (i : Int) (i0 : 0 ≤ i) (i1 : i ≤ 1000000) : ∃ x, laws_at.f l i = some x ∧ 0 ≤ x ∧ x ≤ 255 := by
 unfold laws_at.f
 rw [w64_id (x := i * 5) (by omega) (by omega), w64_id (x := i * 5 + 1) (by omega) (by omega), Int.tmod_eq_emod_of_nonneg (by omega)]
 by_cases h0 : (l.length : Int) = 0
 ·rw [if_pos h0]; exact ⟨_, rfl, by omega, by omega⟩
 ·rw [if_neg h0]
  have q0 := Int.emod_nonneg (i * 5 + 1) h0
  have q1 := Int.emod_lt_of_pos (i * 5 + 1) (show 0 < (l.length : Int) by omega)
  rw [if_pos q0, if_pos q1]
  have hm : rd l ((i * 5 + 1) % (l.length : Int)) ∈ l := by
   unfold rd
   rw [List.getD_eq_getElem?_getD, List.getElem?_eq_getElem (by omega)]
   exact List.getElem_mem _
  have hb := hw _ hm
  simp only [Lit.wf, IntKind.min, IntKind.max, IntKind.signed, IntKind.bits, Bool.and_eq_true, decide_eq_true_eq] at hb
  have b0 : 0 ≤ rd l ((i * 5 + 1) % (l.length : Int)) := by simpa using hb.1
  have b1 : rd l ((i * 5 + 1) % (l.length : Int)) ≤ 255 := by simpa using hb.2
  rw [w64_id (by omega) (by omega)]
  exact ⟨_, rfl, b0, b1⟩
def pcN (o : Nat) : Nat → Nat
 | 0 => 0
 | n + 1 => pcN o n + (if o.testBit n then 1 else 0)
theorem pcN_le (o n : Nat) : pcN o n ≤ n := by
 induction n with
 | zero => simp [pcN]
 | succ n ih => simp only [pcN]; split <;> omega
theorem tb_hi (b t i : Nat) (hb : b < 256) : (256 * t + b).testBit i = if i < 8 then b.testBit i else t.testBit (i - 8) := by
 have := Nat.testBit_two_pow_mul_add t (i := 8) (show b < 2 ^ 8 by omega) i
 simpa using this
theorem and_byte (b t m M : Nat) (hb : b < 256) (hm : m < 256) : (256 * t + b) &&& (256 * M + m) = 256 * (t &&& M) + (b &&& m) := by
 have hbm : b &&& m < 256 := Nat.lt_of_le_of_lt Nat.and_le_left hb
 apply Nat.eq_of_testBit_eq
 intro i
 rw [Nat.testBit_and, tb_hi b t i hb, tb_hi m M i hm, tb_hi (b &&& m) (t &&& M) i hbm, Nat.testBit_and, Nat.testBit_and]
 split <;> rfl
theorem and_three (b0 b1 b2 m M : Nat) (h0 : b0 < 256) (h1 : b1 < 256) (hm : m < 256) : (256 * (256 * b2 + b1) + b0) &&& (256 * (256 * (256 * M + m) + m) + m) = 256 * (256 * (b2 &&& (256 * M + m)) + (b1 &&& m)) + (b0 &&& m) := by
 rw [and_byte _ _ _ _ h0 hm, and_byte _ _ _ _ h1 hm]
theorem and_top (b m M : Nat) (h : b < 256) (hm : m < 256) : b &&& (256 * M + m) = b &&& m := by
 have := and_byte b 0 m M h hm
 simpa using this
theorem pc_byte (b t n : Nat) (hb : b < 256) : pcN (256 * t + b) (8 + n) = pcN b 8 + pcN t n := by
 induction n with
 | zero =>
  simp only [pcN, Nat.add_zero, tb_hi b t _ hb]
  simp
 | succ n ih =>
  rw [show 8 + (n + 1) = (8 + n) + 1 by omega]
  rw [show pcN (256 * t + b) (8 + n + 1) = pcN (256 * t + b) (8 + n) + (if (256 * t + b).testBit (8 + n) then 1 else 0) from rfl, show pcN t (n + 1) = pcN t n + (if t.testBit n then 1 else 0) from rfl, ih, tb_hi b t _ hb, if_neg (show ¬ 8 + n < 8 by omega), show 8 + n - 8 = n by omega]
  omega
def stA (b : Nat) : Nat := (b / 2 &&& 85) + (b &&& 85)
def stB (b : Nat) : Nat := (b / 4 &&& 51) + (b &&& 51)
theorem st_all : (∀ b : Fin 256, ∀ e : Fin 2, ((b.val / 2 + 128 * e.val) &&& 85) = (b.val / 2 &&& 85)) ∧ (∀ b : Fin 256, ∀ e : Fin 4, ((b.val / 4 + 64 * e.val) &&& 51) = (b.val / 4 &&& 51)) ∧ (∀ b : Fin 256, stA b.val < 256 ∧ stB (stA b.val) ≤ 68 ∧ stB (stA b.val) % 16 ≤ 4 ∧ stB (stA b.val) / 16 + stB (stA b.val) % 16 = pcN b.val 8) := by decide +kernel
theorem stage1 (b0 b1 b2 : Nat) (h0 : b0 < 256) (h1 : b1 < 256) (h2 : b2 < 256) : ((256 * (256 * b2 + b1) + b0) / 2 &&& 6148914691236517205) + ((256 * (256 * b2 + b1) + b0) &&& 6148914691236517205) = 256 * (256 * stA b2 + stA b1) + stA b0 := by
 have s := st_all.1
 have e0 := s ⟨b0, h0⟩ ⟨b1 % 2, by omega⟩
 have e1 := s ⟨b1, h1⟩ ⟨b2 % 2, by omega⟩
 simp only at e0 e1
 rw [show (256 * (256 * b2 + b1) + b0) / 2 = 256 * (256 * (b2 / 2) + (b1 / 2 + 128 * (b2 % 2))) + (b0 / 2 + 128 * (b1 % 2)) by omega, show 6148914691236517205 = 256 * (256 * (256 * 366503875925 + 85) + 85) + 85 by rfl,
  and_three _ _ _ _ _ (by omega) (by omega) (by omega), and_three _ _ _ _ _ h0 h1 (by omega), and_top _ _ _ (by omega) (by omega), and_top _ _ _ h2 (by omega), e0, e1]
 unfold stA
 omega
theorem stage2 (b0 b1 b2 : Nat) (h0 : b0 < 256) (h1 : b1 < 256) (h2 : b2 < 256) : ((256 * (256 * b2 + b1) + b0) / 4 &&& 3689348814741910323) + ((256 * (256 * b2 + b1) + b0) &&& 3689348814741910323) = 256 * (256 * stB b2 + stB b1) + stB b0 := by
 have s := st_all.2.1
 have e0 := s ⟨b0, h0⟩ ⟨b1 % 4, by omega⟩
 have e1 := s ⟨b1, h1⟩ ⟨b2 % 4, by omega⟩
 simp only at e0 e1
 rw [show (256 * (256 * b2 + b1) + b0) / 4 = 256 * (256 * (b2 / 4) + (b1 / 4 + 64 * (b2 % 4))) + (b0 / 4 + 64 * (b1 % 4)) by omega, show 3689348814741910323 = 256 * (256 * (256 * 219902325555 + 51) + 51) + 51 by rfl,
  and_three _ _ _ _ _ (by omega) (by omega) (by omega), and_three _ _ _ _ _ h0 h1 (by omega), and_top _ _ _ (by omega) (by omega), and_top _ _ _ h2 (by omega), e0, e1]
 unfold stB
 omega
theorem stage3 (c0 c1 c2 : Nat) (h0 : c0 ≤ 68) (h1 : c1 ≤ 68) (h2 : c2 ≤ 68) (g0 : c0 % 16 ≤ 4) (g1 : c1 % 16 ≤ 4) (g2 : c2 % 16 ≤ 4) : ((256 * (256 * c2 + c1) + c0) / 16 + (256 * (256 * c2 + c1) + c0)) &&& 1085102592571150095 = 256 * (256 * (c2 / 16 + c2 % 16) + (c1 / 16 + c1 % 16)) + (c0 / 16 + c0 % 16) := by
 rw [show (256 * (256 * c2 + c1) + c0) / 16 + (256 * (256 * c2 + c1) + c0) = 256 * (256 * (c2 / 16 + c2) + (c1 / 16 + 16 * (c2 % 16) + c1)) + (c0 / 16 + 16 * (c1 % 16) + c0) by omega, show 1085102592571150095 = 256 * (256 * (256 * 64677154575 + 15) + 15) + 15 by rfl,
  and_three _ _ _ _ _ (by omega) (by omega) (by omega), and_top _ _ _ (by omega) (by omega)]
 have a15 : ∀ x : Nat, x &&& 15 = x % 16 := fun x => Nat.and_two_pow_sub_one_eq_mod x 4
 have z0 : (c0 / 16 + 16 * (c1 % 16) + c0) % 16 = c0 / 16 + c0 % 16 := by omega
 have z1 : (c1 / 16 + 16 * (c2 % 16) + c1) % 16 = c1 / 16 + c1 % 16 := by omega
 have z2 : (c2 / 16 + c2) % 16 = c2 / 16 + c2 % 16 := by omega
 rw [a15, a15, a15, z0, z1, z2]
def pop64 (x : Nat) : Nat :=
 let y1 := (x / 2 &&& 6148914691236517205) + (x &&& 6148914691236517205)
 let y2 := (y1 / 4 &&& 3689348814741910323) + (y1 &&& 3689348814741910323)
 let y3 := (y2 / 16 + y2) &&& 1085102592571150095
 let y4 := y3 + y3 / 256
 let y5 := y4 + y4 / 65536
 (y5 + y5 / 4294967296) &&& 127
theorem pop64_eq (x : Nat) (hx : x < 16777216) : pop64 x = pcN x 24 ∧ (x / 2 &&& 6148914691236517205) + (x &&& 6148914691236517205) < 16777216 ∧ (((x / 2 &&& 6148914691236517205) + (x &&& 6148914691236517205)) / 4 &&& 3689348814741910323) + (((x / 2 &&& 6148914691236517205) + (x &&& 6148914691236517205)) &&& 3689348814741910323) < 16777216 := by
 obtain ⟨b0, b1, b2, rfl, h0, h1, h2⟩ : ∃ b0 b1 b2 : Nat, x = 256 * (256 * b2 + b1) + b0 ∧ b0 < 256 ∧ b1 < 256 ∧ b2 < 256 := ⟨x % 256, x / 256 % 256, x / 65536, by omega, by omega, by omega, by omega⟩
 obtain ⟨p0, p1, p2, p3⟩ := st_all.2.2 ⟨b0, h0⟩
 obtain ⟨q0, q1, q2, q3⟩ := st_all.2.2 ⟨b1, h1⟩
 obtain ⟨r0, r1, r2, r3⟩ := st_all.2.2 ⟨b2, h2⟩
 simp only at p0 p1 p2 p3 q0 q1 q2 q3 r0 r1 r2 r3
 have e1 := stage1 b0 b1 b2 h0 h1 h2
 have e2 := stage2 _ _ _ p0 q0 r0
 have e3 := stage3 _ _ _ p1 q1 r1 p2 q2 r2
 have l0 := pcN_le b0 8
 have l1 := pcN_le b1 8
 have l2 := pcN_le b2 8
 have hp : pcN (256 * (256 * b2 + b1) + b0) 24 = pcN b0 8 + (pcN b1 8 + pcN b2 8) := by
  have z1 := pc_byte b0 (256 * b2 + b1) 16 h0
  have z2 := pc_byte b1 b2 8 h1
  rw [z2] at z1; exact z1
 refine ⟨?_, ?_, ?_⟩
 ·unfold pop64
  simp only []
  rw [e1, e2, e3, p3, q3, r3, hp, show (127 : Nat) = 2 ^ 7 - 1 by rfl, Nat.and_two_pow_sub_one_eq_mod]
  clear hp e1 e2 e3 p0 p1 p2 p3 q0 q1 q2 q3 r0 r1 r2 r3
  generalize pcN b0 8 = x0 at l0 ⊢
  generalize pcN b1 8 = x1 at l1 ⊢
  generalize pcN b2 8 = x2 at l2 ⊢
  have f1 : (256 * (256 * x2 + x1) + x0) / 256 = 256 * x2 + x1 := by omega
  rw [f1]
  have f2 : (256 * (256 * x2 + x1) + x0 + (256 * x2 + x1)) / 65536 = x2 := by omega
  rw [f2]
  have f3 : (256 * (256 * x2 + x1) + x0 + (256 * x2 + x1) + x2) / 4294967296 = 0 := by omega
  rw [f3]
  omega
 ·rw [e1]; omega
 ·rw [e1, e2]; omega
theorem u64_wrap {x : Int} (h0 : 0 ≤ x) (h1 : x < 18446744073709551616) : IntKind.u64.wrap x = x := by
 unfold IntKind.wrap
 simp only [IntKind.bits, IntKind.signed, Bool.false_and, Bool.false_eq_true, if_false]
 exact Int.emod_eq_of_lt h0 (by simpa using h1)
theorem u64_add (x y : Nat) (h : x + y < 18446744073709551616) : IntKind.u64.wrap ((x : Int) + (y : Int)) = ((x + y : Nat) : Int) := by
 rw [u64_wrap (by omega) (by omega)]; simp
theorem and_u64 (x y : Nat) (hx : x < 18446744073709551616) (hy : y < 18446744073709551616) : Go.bits .and .u64 (x : Int) (y : Int) = ((x &&& y : Nat) : Int) := by
 show IntKind.u64.wrap (((BitVec.ofInt 64 (x : Int)) &&& (BitVec.ofInt 64 (y : Int))).toNat : Int) = _
 rw [ofInt_nat, ofInt_nat]
 simp only [BitVec.toNat_and, BitVec.toNat_ofNat]
 rw [Nat.mod_eq_of_lt (by omega), Nat.mod_eq_of_lt (by omega)]
 have := Nat.and_le_left (n := x) (m := y)
 exact u64_wrap (by omega) (by omega)
theorem y3_bd (y : Nat) (hy : y < 16777216) : (y / 16 + y) &&& 1085102592571150095 < 33554432 := by
 have := Nat.and_le_left (n := y / 16 + y) (m := 1085102592571150095)
 omega
theorem OnesCount64_eq (x : Nat) (hx : x < 16777216) : bits_OnesCount64.f (x : Int) = some ((pcN x 24 : Nat) : Int) := by
 obtain ⟨e, l1, l2⟩ := pop64_eq x hx
 have a1 : IntKind.u64.wrap ((Go.bits .and .u64 ((x : Int) / 2) 6148914691236517205) + (Go.bits .and .u64 (x : Int) 6148914691236517205)) = (((x / 2 &&& 6148914691236517205) + (x &&& 6148914691236517205) : Nat) : Int) := by
  rw [show ((x : Int) / 2) = ((x / 2 : Nat) : Int) by omega, show (6148914691236517205 : Int) = ((6148914691236517205 : Nat) : Int) from rfl, and_u64 _ _ (by omega) (by omega), and_u64 _ _ (by omega) (by omega), u64_add _ _ (by omega)]
 unfold bits_OnesCount64.f
 rw [a1]
 generalize hy1 : (x / 2 &&& 6148914691236517205) + (x &&& 6148914691236517205) = y1 at l1 l2 e ⊢
 have a2 : IntKind.u64.wrap ((Go.bits .and .u64 ((y1 : Int) / 4) 3689348814741910323) + (Go.bits .and .u64 (y1 : Int) 3689348814741910323)) = (((y1 / 4 &&& 3689348814741910323) + (y1 &&& 3689348814741910323) : Nat) : Int) := by
  rw [show ((y1 : Int) / 4) = ((y1 / 4 : Nat) : Int) by omega, show (3689348814741910323 : Int) = ((3689348814741910323 : Nat) : Int) from rfl, and_u64 _ _ (by omega) (by omega), and_u64 _ _ (by omega) (by omega), u64_add _ _ (by omega)]
 rw [a2]
 generalize hy2 : (y1 / 4 &&& 3689348814741910323) + (y1 &&& 3689348814741910323) = y2 at l2 e ⊢
 have a3 : Go.bits .and .u64 (IntKind.u64.wrap (((y2 : Int) / 16) + (y2 : Int))) 1085102592571150095 = (((y2 / 16 + y2) &&& 1085102592571150095 : Nat) : Int) := by
  rw [show ((y2 : Int) / 16) = ((y2 / 16 : Nat) : Int) by omega, u64_add _ _ (by omega), show (1085102592571150095 : Int) = ((1085102592571150095 : Nat) : Int) from rfl, and_u64 _ _ (by omega) (by omega)]
 rw [a3]
 have b3 := y3_bd y2 l2
 generalize hy3 : (y2 / 16 + y2) &&& 1085102592571150095 = y3 at b3 e ⊢
 have a4 : IntKind.u64.wrap ((y3 : Int) + ((y3 : Int) / 256)) = ((y3 + y3 / 256 : Nat) : Int) := by
  rw [show ((y3 : Int) / 256) = ((y3 / 256 : Nat) : Int) by omega, u64_add _ _ (by omega)]
 rw [a4]
 have b4 : y3 + y3 / 256 < 67108864 := by omega
 generalize hy4 : y3 + y3 / 256 = y4 at b4 e ⊢
 have a5 : IntKind.u64.wrap ((y4 : Int) + ((y4 : Int) / 65536)) = ((y4 + y4 / 65536 : Nat) : Int) := by
  rw [show ((y4 : Int) / 65536) = ((y4 / 65536 : Nat) : Int) by omega, u64_add _ _ (by omega)]
 rw [a5]
 have b5 : y4 + y4 / 65536 < 134217728 := by omega
 generalize hy5 : y4 + y4 / 65536 = y5 at b5 e ⊢
 have a6 : IntKind.u64.wrap ((y5 : Int) + ((y5 : Int) / 4294967296)) = ((y5 + y5 / 4294967296 : Nat) : Int) := by
  rw [show ((y5 : Int) / 4294967296) = ((y5 / 4294967296 : Nat) : Int) by omega, u64_add _ _ (by omega)]
 rw [a6, w64_id (by omega) (by omega), show (127 : Int) = ((127 : Nat) : Int) from rfl, bits_and_nat (by omega) (by omega), ← e]
 unfold pop64
 simp only [hy1, hy2, hy3, hy4, hy5]
def pcnt (w h o : Int) : Int := if mOk w h o = true then ((pcN o.toNat (nGaps w h).toNat : Nat) : Int) else 0
theorem pcN_top (x n m : Nat) (hx : x < 2 ^ n) (hn : n ≤ m) : pcN x m = pcN x n := by
 induction m with
 | zero =>
  obtain rfl : n = 0 := by omega
  rfl
 | succ m ih =>
  by_cases e : n = m + 1
  ·rw [e]
  ·have hm : n ≤ m := by omega
   have : x.testBit m = false := Nat.testBit_lt_two_pow (Nat.lt_of_lt_of_le hx (Nat.pow_le_pow_right (by omega) hm))
   simp only [pcN, this]
   rw [ih hm]; simp
theorem open_nat {w h o : Int} (hm : mOk w h o = true) : o.toNat < 2 ^ (nGaps w h).toNat ∧ o.toNat < 16777216 ∧ ((o.toNat : Nat) : Int) = o := by
 obtain ⟨_, h0, h1⟩ := mOk_iff.1 hm
 have hb := mOk_bd hm
 have : ((o.toNat : Nat) : Int) < ((2 ^ (nGaps w h).toNat : Nat) : Int) := by rw [Int.toNat_of_nonneg h0]; simpa using h1
 exact ⟨by exact_mod_cast this, by omega, by omega⟩
theorem impl_CountPassages_eq (w h o : Int) : impl_CountPassages.f w h o = some (pcnt w h o) := by
 unfold impl_CountPassages.f pcnt
 rw [impl_MazeOk_eq]; simp only [Option.bind_some]
 by_cases hm : mOk w h o = true
 ·obtain ⟨o1, o2, o3⟩ := open_nat hm
  have hn := nGaps_bd w h
  rw [if_pos hm, if_pos hm, u64_wrap (by omega) (by omega)]
  unfold bits_OnesCount.f
  rw [← o3, OnesCount64_eq _ o2]
  simp only [Option.bind_some, Int.toNat_natCast]
  rw [pcN_top _ _ 24 o1 (by omega)]
 ·rw [if_neg hm, if_neg hm]
theorem rd_mem (l : List Int) (i : Nat) (h1 : i < l.length) : rd l i = l[i] := by
 unfold rd; simp [List.getD_eq_getElem?_getD, h1]
def bfs1 (w h o c : Int) (s : List Int × List Int) (d : Int) : List Int × List Int :=
 if 0 ≤ stp w h o c d ∧ rd s.1 (stp w h o c d) < 0 then (s.1.set (stp w h o c d).toNat (rd s.1 c + 1), s.2 ++ [stp w h o c d]) else s
def bfsCell (w h o c : Int) (s : List Int × List Int) : List Int × List Int := [0, 1, 2, 3].foldl (bfs1 w h o c) s
def bfsRun (w h o : Int) : Nat → Int → List Int × List Int → List Int
 | 0, _, s => s.1
 | n + 1, i, s => if i < (s.2.length : Int) then bfsRun w h o n (i + 1) (bfsCell w h o (rd s.2 i) s) else s.1
def distL (w h o c : Int) : List Int := bfsRun w h o 17 0 ((List.replicate (nCells w h).toNat (-1)).set c.toNat 0, [c])
def negs (D : List Int) : Nat := (D.filter fun x => decide (x < 0)).length
theorem negs_set (D : List Int) (v : Int) (hv : 0 ≤ v) : ∀ (i : Nat), i < D.length → rd D i < 0 → negs (D.set i v) + 1 = negs D := by
 induction D with
 | nil => intro i hi; simp at hi
 | cons x D ih =>
  intro i hi hr
  cases i with
  | zero =>
   have hx : x < 0 := by simpa [rd] using hr
   simp [negs, hx, show ¬ v < 0 by omega]
  | succ i =>
   have := ih i (by simpa using hi) (by simpa [rd] using hr)
   unfold negs at this ⊢
   rw [List.set_cons_succ, List.filter_cons, List.filter_cons]
   split <;> (try simp only [List.length_cons]) <;> omega
theorem rd_set (D : List Int) (i j v : Int) (h0 : 0 ≤ i) (h1 : i < D.length) (h2 : 0 ≤ j) : rd (D.set i.toNat v) j = if j = i then v else rd D j := by
 unfold rd
 by_cases e : j = i
 ·subst e; rw [if_pos rfl, List.getD_eq_getElem?_getD, List.getElem?_set_self (by omega)]; rfl
 ·rw [if_neg e, List.getD_eq_getElem?_getD, List.getElem?_set_ne (by omega), ← List.getD_eq_getElem?_getD]
def bfsOk (w h : Int) (s : List Int × List Int) : Prop :=
 (s.1.length : Int) = nCells w h ∧ (∀ x ∈ s.2, 0 ≤ x ∧ x < nCells w h ∧ 0 ≤ rd s.1 x) ∧ (∀ x : Int, 0 ≤ x → x < nCells w h → -1 ≤ rd s.1 x ∧ rd s.1 x < s.2.length) ∧ negs s.1 + s.2.length = (nCells w h).toNat
theorem bfs1_ok {w h o c : Int} {s : List Int × List Int} (hs : bfsOk w h s) (hc : c ∈ s.2) (d : Int) : bfsOk w h (bfs1 w h o c s d) ∧ c ∈ (bfs1 w h o c s d).2 ∧ s.2 <+: (bfs1 w h o c s d).2 := by
 unfold bfs1
 split
 ·rename_i hq
  obtain ⟨_, _, _, hb, _⟩ := stp_bd hq.1
  obtain ⟨h1, h2, h3, h4⟩ := hs
  obtain ⟨c0, c1, c2⟩ := h2 c hc
  have hlen : stp w h o c d < s.1.length := by omega
  have hsz : ∀ j : Int, 0 ≤ j → rd (s.1.set (stp w h o c d).toNat (rd s.1 c + 1)) j = if j = stp w h o c d then rd s.1 c + 1 else rd s.1 j := fun j hj => rd_set s.1 _ j _ hq.1 hlen hj
  refine ⟨⟨?_, ?_, ?_, ?_⟩, ?_, ?_⟩
  ·simpa using h1
  ·intro x hx
   rcases List.mem_append.1 hx with hx | hx
   ·obtain ⟨a, b, e⟩ := h2 x hx
    refine ⟨a, b, ?_⟩
    show 0 ≤ rd (s.1.set _ _) x
    rw [hsz x a]; split <;> omega
   ·have hx : x = stp w h o c d := by simpa using hx
    subst hx
    refine ⟨hq.1, hb, ?_⟩
    show 0 ≤ rd (s.1.set _ _) _
    rw [hsz _ hq.1, if_pos rfl]; omega
  ·intro x x0 x1
   have := h3 x x0 x1
   have := h3 c c0 c1
   show -1 ≤ rd (s.1.set _ _) x ∧ rd (s.1.set _ _) x < ((s.2 ++ [_]).length : Nat)
   rw [hsz x x0]
   simp only [List.length_append, List.length_cons, List.length_nil]
   split <;> omega
  ·have := negs_set s.1 (rd s.1 c + 1) (by omega) (stp w h o c d).toNat (by omega) (by rw [Int.toNat_of_nonneg hq.1]; exact hq.2)
   show negs (s.1.set _ _) + (s.2 ++ [_]).length = _
   simp only [List.length_append, List.length_cons, List.length_nil]
   omega
  ·exact List.mem_append_left _ hc
  ·exact List.prefix_append _ _
 ·exact ⟨hs, hc, List.prefix_refl _⟩
theorem bfs_fold_ok {w h o c : Int} (L : List Int) : ∀ {s : List Int × List Int} (_ : bfsOk w h s) (_ : c ∈ s.2), bfsOk w h (L.foldl (bfs1 w h o c) s) ∧ c ∈ (L.foldl (bfs1 w h o c) s).2 ∧ s.2 <+: (L.foldl (bfs1 w h o c) s).2 := by
 induction L with
 | nil => intro s hs hc; exact ⟨hs, hc, List.prefix_refl _⟩
 | cons d L ih =>
  intro s hs hc
  obtain ⟨a, b, e⟩ := bfs1_ok (o := o) hs hc d
  obtain ⟨a2, b2, e2⟩ := ih a b
  exact ⟨a2, b2, e.trans e2⟩
theorem bfs_fold_ways {w h o c : Int} (L : List Int) : ∀ (s : List Int × List Int), (L.filter fun d => decide (0 ≤ stp w h o c d)).foldl (bfs1 w h o c) s = L.foldl (bfs1 w h o c) s := by
 induction L with
 | nil => intro s; rfl
 | cons d L ih =>
  intro s
  rw [List.filter_cons]
  by_cases hd : 0 ≤ stp w h o c d
  ·rw [if_pos (by simpa using hd), List.foldl_cons, List.foldl_cons, ih]
  ·rw [if_neg (by simpa using hd), List.foldl_cons, ih]
   congr 1
   unfold bfs1; rw [if_neg (fun hh => hd hh.1)]
theorem ok_len {w h : Int} {s : List Int × List Int} (hs : bfsOk w h s) : s.2.length ≤ 16 := by
 have := nCells_bd w h
 have := hs.2.2.2
 omega
theorem prefix_rd {p q : List Int} (hp : p <+: q) (i : Int) (h0 : 0 ≤ i) (h1 : i < p.length) : rd q i = rd p i := by
 obtain ⟨t, rfl⟩ := hp
 unfold rd
 rw [List.getD_eq_getElem?_getD, List.getD_eq_getElem?_getD, List.getElem?_append_left (by omega)]
theorem rd_in {q : List Int} {i : Int} (h0 : 0 ≤ i) (h1 : i < q.length) : rd q i ∈ q := by
 unfold rd; rw [List.getD_eq_getElem?_getD, List.getElem?_eq_getElem (by omega)]; exact List.getElem_mem _
theorem bfsCell_ok {w h o c : Int} {s : List Int × List Int} (hs : bfsOk w h s) (hc : c ∈ s.2) : bfsOk w h (bfsCell w h o c s) ∧ s.2 <+: (bfsCell w h o c s).2 := by
 obtain ⟨a, _, b⟩ := bfs_fold_ok (o := o) [0, 1, 2, 3] hs hc
 exact ⟨a, b⟩
theorem replicate_rd (n : Nat) (v i : Int) (h0 : 0 ≤ i) (h1 : i < n) : rd (List.replicate n v) i = v := by
 unfold rd; rw [List.getD_eq_getElem?_getD, List.getElem?_replicate, if_pos (by omega)]; rfl
theorem bfs_start {w h c : Int} (h0 : 0 ≤ c) (h1 : c < nCells w h) : bfsOk w h ((List.replicate (nCells w h).toNat (-1)).set c.toNat 0, [c]) := by
 have hn := nCells_bd w h
 have hlen : ((List.replicate (nCells w h).toNat (-1 : Int)).length : Int) = nCells w h := by simp; omega
 refine ⟨by simp; omega, ?_, ?_, ?_⟩
 ·intro x hx
  have hx : x = c := by simpa using hx
  subst hx
  refine ⟨h0, h1, ?_⟩
  show 0 ≤ rd (List.set _ _ _) x
  rw [rd_set _ _ _ _ h0 (by omega) h0, if_pos rfl]; omega
 ·intro x x0 x1
  show -1 ≤ rd (List.set _ _ _) x ∧ rd (List.set _ _ _) x < (([c] : List Int).length : Nat)
  rw [rd_set _ _ _ _ h0 (by omega) x0, replicate_rd _ _ _ x0 (by omega)]
  split <;> simp
 ·have := negs_set (List.replicate (nCells w h).toNat (-1)) 0 (by omega) c.toNat (by omega) (by rw [Int.toNat_of_nonneg h0, replicate_rd _ _ _ h0 (by omega)]; omega)
  have e : negs (List.replicate (nCells w h).toNat (-1)) = (nCells w h).toNat := by unfold negs; rw [List.filter_replicate]; simp
  show negs (List.set _ _ _) + 1 = _
  omega
theorem impl_l1 {w h o c : Int} (L : List Int) (hL : ∀ d ∈ L, 0 ≤ stp w h o c d) (hL4 : L.length ≤ 4) (i : Int) (i0 : 0 ≤ i) (rest : List Int) : ∀ (k j : Nat) (s : List Int × List Int), bfsOk w h s → rd s.2 i = c → i < s.2.length → L.drop j = rest → j ≤ L.length →
  impl_distances.l1 (k + 3 + rest.length + 1) s.1 s.2 i L (L.length : Int) j w h o = impl_distances.l0 (k + 3) (rest.foldl (bfs1 w h o c) s).1 (rest.foldl (bfs1 w h o c) s).2 (i + 1) w h o := by
 induction rest with
 | nil =>
  intro k j s hs hc i1 hd hj
  have hl := ok_len hs
  have := List.drop_eq_nil_iff.1 hd
  have e : j = L.length := by omega
  subst e
  simp only [List.length_nil, Nat.add_zero, List.foldl_nil]
  generalize k + 3 = m
  simp only [impl_distances.l1]
  rw [if_neg (by omega), w64_id (x := i + 1) (by omega) (by omega)]
 | cons d rest ih =>
  intro k j s hs hc i1 hd hj
  have hl := ok_len hs
  have hjl : j < L.length := by
   have := congrArg List.length hd
   simp at this; omega
  have hdj : L[j] = d ∧ L.drop (j + 1) = rest := by
   rw [List.drop_eq_getElem_cons hjl] at hd
   exact ⟨(List.cons.inj hd).1, (List.cons.inj hd).2⟩
  have hcm : c ∈ s.2 := hc ▸ rd_in i0 i1
  have hst := hL d (hdj.1 ▸ List.getElem_mem hjl)
  obtain ⟨a1, b1, e1⟩ := bfs1_ok (o := o) hs hcm d
  have hgo := ih k (j + 1) (bfs1 w h o c s d) a1 (by rw [prefix_rd e1 i i0 i1, hc]) (by have := e1.length_le; omega) hdj.2 (by omega)
  have est : impl_Step.f (k + 3 + rest.length + 1) w h o c d = some (stp w h o c d) := by
   rw [show k + 3 + rest.length + 1 = (k + rest.length + 1) + 3 by omega]; exact impl_Step_eq _ _ _ _ _ _
  rw [show k + 3 + (d :: rest).length + 1 = (k + 3 + rest.length + 1) + 1 by simp; omega]
  generalize k + 3 + rest.length + 1 = m at hgo est ⊢
  simp only [impl_distances.l1]
  have erd : rd L (j : Int) = d := by rw [← hdj.1]; unfold rd; simp [List.getD_eq_getElem?_getD, hjl]
  obtain ⟨h1, h2, h3, h4⟩ := hs
  obtain ⟨c0, c1, c2⟩ := h2 _ hcm
  have hv := h3 _ c0 c1
  obtain ⟨_, _, _, hb, _⟩ := stp_bd hst
  rw [if_pos (by omega), if_pos (by omega), if_pos (by omega), if_pos i0, if_pos i1, hc, erd, est, w64_id (x := (j : Int) + 1) (by omega) (by omega)]
  simp only [Option.bind_some, List.foldl_cons]
  rw [if_pos hst, if_pos (by omega)]
  by_cases hr : rd s.1 (stp w h o c d) < 0
  ·rw [if_pos hr, if_pos c0, if_pos (by omega), if_pos (by omega), w64_id (x := rd s.1 c + 1) (by omega) (by omega)]
   have e : bfs1 w h o c s d = (s.1.set (stp w h o c d).toNat (rd s.1 c + 1), s.2 ++ [stp w h o c d]) := by unfold bfs1; rw [if_pos ⟨hst, hr⟩]
   rw [e] at hgo ⊢
   simpa using hgo
  ·rw [if_neg hr]
   have e : bfs1 w h o c s d = s := by unfold bfs1; rw [if_neg (fun hh => hr hh.2)]
   rw [e] at hgo ⊢
   simpa using hgo
theorem impl_run {w h o : Int} (n : Nat) : ∀ (k : Nat) (s : List Int × List Int) (i : Int), bfsOk w h s → 0 ≤ i → 17 - i ≤ n → i ≤ s.2.length → 20 * n + 20 ≤ k → impl_distances.l0 k s.1 s.2 i w h o = some (bfsRun w h o n i s) := by
 induction n with
 | zero =>
  intro k s i hs i0 hn hi hk
  have hl := ok_len hs
  omega
 | succ n ih =>
  intro k s i hs i0 hn hi hk
  have hl := ok_len hs
  obtain ⟨k, rfl⟩ : ∃ m, k = m + 20 := ⟨k - 20, by omega⟩
  have hwy : impl_WaysFrom.f (k + 19) w h o (rd s.2 i) = some (waysL w h o (rd s.2 i)) := impl_WaysFrom_eq (k + 11) _ _ _ _
  have h4 := waysL_len w h o (rd s.2 i)
  have hgo := impl_l1 (w := w) (h := h) (o := o) (c := rd s.2 i) (waysL w h o (rd s.2 i)) (fun d hd => by
   unfold waysL at hd
   have := (List.mem_filter.1 hd).2
   simpa using this) h4 i i0 (waysL w h o (rd s.2 i)) (k + 15 - (waysL w h o (rd s.2 i)).length) 0 s hs rfl
  rw [show k + 15 - (waysL w h o (rd s.2 i)).length + 3 + (waysL w h o (rd s.2 i)).length + 1 = k + 19 by omega] at hgo
  generalize hM : k + 19 = M at hwy hgo
  rw [show k + 20 = M + 1 by omega]
  simp only [impl_distances.l0, bfsRun]
  by_cases h1 : i < (s.2.length : Int)
  ·rw [if_pos h1, if_pos h1, if_pos i0, hwy]
   simp only [Option.bind_some]
   have hgo := hgo h1 rfl (by omega)
   have e : (waysL w h o (rd s.2 i)).foldl (bfs1 w h o (rd s.2 i)) s = bfsCell w h o (rd s.2 i) s := bfs_fold_ways [0, 1, 2, 3] s
   rw [e] at hgo
   obtain ⟨a, b⟩ := bfsCell_ok (o := o) hs (c := rd s.2 i) (rd_in i0 h1)
   have hlen := b.length_le
   generalize bfsCell w h o (rd s.2 i) s = s' at a hlen hgo ⊢
   refine Eq.trans hgo (ih _ s' (i + 1) a (by omega) (by omega) (by omega) (by omega))
  ·rw [if_neg h1, if_neg h1]
theorem impl_dist_eq {w h c : Int} (o : Int) (h0 : 0 ≤ c) (h1 : c < nCells w h) (k : Nat) (hk : 400 ≤ k) : impl_distances.f k w h o c = some (distL w h o c) := by
 have hn := nCells_bd w h
 unfold impl_distances.f slices_Repeat_int_int.f
 rw [impl_CountCells_eq]
 simp only [Option.bind_some]
 rw [if_pos ⟨by simp, by omega, by omega⟩]
 simp only [Option.bind_some]
 rw [if_pos h0, if_pos (by simp; omega), show rd ([-1] : List Int) 0 = -1 from rfl]
 exact impl_run 17 _ (_, _) 0 (bfs_start h0 h1) (by omega) (by omega) (by simp) (by omega)
theorem bfsRun_ok {w h o : Int} (n : Nat) : ∀ (i : Int) (s : List Int × List Int), bfsOk w h s → 0 ≤ i → ∃ q, bfsOk w h (bfsRun w h o n i s, q) := by
 induction n with
 | zero => intro i s hs _; exact ⟨s.2, hs⟩
 | succ n ih =>
  intro i s hs i0
  simp only [bfsRun]
  split
  ·rename_i h1
   exact ih _ _ (bfsCell_ok hs (rd_in i0 h1)).1 (by omega)
  ·exact ⟨s.2, hs⟩
theorem distL_ok {w h c : Int} (o : Int) (h0 : 0 ≤ c) (h1 : c < nCells w h) : ((distL w h o c).length : Int) = nCells w h ∧ ∀ x : Int, 0 ≤ x → x < nCells w h → -1 ≤ rd (distL w h o c) x ∧ rd (distL w h o c) x < 16 := by
 obtain ⟨q, hq⟩ := bfsRun_ok (o := o) 17 0 _ (bfs_start h0 h1) (by omega)
 have hl := ok_len hq
 refine ⟨hq.1, fun x x0 x1 => ?_⟩
 have := hq.2.2.1 x x0 x1
 simp only at this hl
 unfold distL; omega
theorem isIn_eq (w h o : Int) (l : List Int) : impl_isIn.f w h o l = some (mOk w h o && l.all (cellIn w h)) := by
 unfold impl_isIn.f
 rw [impl_MazeOk_eq]
 simp only [Option.bind_some]
 rw [show (fun c => !cellB w h c) = fun c => !cellIn w h c from funext fun c => by unfold cellB; rw [isCell_eq]; rfl]
 by_cases hm : mOk w h o = true
 ·rw [if_pos hm, hm]; simp [List.all_eq_not_any_not]
 ·rw [if_neg hm, Bool.eq_false_iff.2 hm]; simp
def distV (w h o a b : Int) : Int := if mOk w h o = true ∧ cellIn w h a = true ∧ cellIn w h b = true then rd (distL w h o a) b else -1
theorem impl_DistanceOf_eq (w h o a b : Int) (k : Nat) (hk : 400 ≤ k) : impl_DistanceOf.f k w h o a b = some (distV w h o a b) := by
 unfold impl_DistanceOf.f distV
 rw [isIn_eq]
 simp only [Option.bind_some, List.all_cons, List.all_nil]
 by_cases hm : mOk w h o = true <;> by_cases ha : cellIn w h a = true <;> by_cases hb : cellIn w h b = true <;> simp only [hm, ha, hb, Bool.and_true, Bool.true_and, Bool.and_self, if_true, Bool.false_eq_true, if_false, false_and, and_false, and_self, true_and]
 ·obtain ⟨a0, a1⟩ := cellIn_iff.1 ha
  obtain ⟨b0, b1⟩ := cellIn_iff.1 hb
  rw [impl_dist_eq o a0 a1 k (by omega)]
  simp only [Option.bind_some]
  rw [if_pos b0, if_pos (by rw [(distL_ok o a0 a1).1]; exact b1)]
theorem rd_surj {l : List Int} {x : Int} (hx : x ∈ l) : ∃ j : Int, 0 ≤ j ∧ j < l.length ∧ rd l j = x := by
 obtain ⟨n, hn, e⟩ := List.getElem_of_mem hx
 exact ⟨n, by omega, by omega, by rw [← e]; unfold rd; simp [List.getD_eq_getElem?_getD, hn]⟩
def opp (d : Int) : Int := (d + 2) % 4
def backB (w h c d : Int) : Bool := decide (nbr w h c d < 0) || (decide (nbr w h (nbr w h c d) (opp d) = c) && decide (gapAt w h (nbr w h c d) (opp d) = gapAt w h c d))
theorem back_all {w h : Int} (hk : gOk w h = true) (c d : Nat) (hc : c < 16) (hd : d < 4) : backB w h c d = true := by
 have h16 : ∀ c : Fin 16, ∀ d : Fin 4, backB w h c.val d.val = true := by
  obtain ⟨hw, hh⟩ := gOk_cases hk
  rcases hw with rfl | rfl | rfl | rfl <;> rcases hh with rfl | rfl | rfl | rfl <;> decide +kernel
 exact h16 ⟨c, hc⟩ ⟨d, hd⟩
theorem nbr_back {w h c d : Int} (hn : 0 ≤ nbr w h c d) : nbr w h (nbr w h c d) (opp d) = c ∧ gapAt w h (nbr w h c d) (opp d) = gapAt w h c d := by
 obtain ⟨⟨c0, c1⟩, hd⟩ := nbr_cases hn
 have hk := ok_of_cell c0 c1
 have hb := nCells_bd w h
 have hd' : 0 ≤ d ∧ d ≤ 3 := by rcases hd with h | h | h | h <;> omega
 have := back_all hk c.toNat d.toNat (by omega) (by omega)
 rw [Int.toNat_of_nonneg c0, Int.toNat_of_nonneg hd'.1] at this
 unfold backB at this
 simp only [Bool.or_eq_true, Bool.and_eq_true, decide_eq_true_eq] at this
 rcases this with h | h
 ·omega
 ·exact h
theorem stp_iff {w h o c d : Int} : 0 ≤ stp w h o c d ↔ mOk w h o = true ∧ 0 ≤ nbr w h c d ∧ bitAt o (gapAt w h c d) = true := by
 constructor
 ·intro hs
  obtain ⟨hm, _, _, _, he⟩ := stp_bd hs
  have hn : 0 ≤ nbr w h c d := by omega
  refine ⟨hm, hn, ?_⟩
  unfold stp at hs
  rw [if_pos hm] at hs
  split at hs
  ·rename_i hq; exact hq.2
  ·omega
 ·rintro ⟨hm, hn, hb⟩
  have hg := gapAt_bd hn
  unfold stp
  rw [if_pos hm, if_pos ⟨hg.1, hb⟩]
  exact hn
theorem stp_nbr {w h o c d : Int} (hs : 0 ≤ stp w h o c d) : stp w h o c d = nbr w h c d := (stp_bd hs).2.2.2.2
theorem stp_back {w h o c d : Int} (hs : 0 ≤ stp w h o c d) : stp w h o (stp w h o c d) (opp d) = c := by
 obtain ⟨hm, hn, hb⟩ := stp_iff.1 hs
 obtain ⟨_, ⟨c0, _⟩, _⟩ := stp_bd hs
 obtain ⟨e1, e2⟩ := nbr_back hn
 rw [stp_nbr hs]
 have h2 : 0 ≤ stp w h o (nbr w h c d) (opp d) := stp_iff.2 ⟨hm, by rw [e1]; exact c0, by rw [e2]; exact hb⟩
 rw [stp_nbr h2, e1]
inductive Wlk (w h o a : Int) : Nat → Int → Prop
 | z : Wlk w h o a 0 a
 | s {n : Nat} {x : Int} (d : Int) : Wlk w h o a n x → 0 ≤ stp w h o x d → Wlk w h o a (n + 1) (stp w h o x d)
theorem Wlk.front {w h o a b d : Int} {n : Nat} (hd : 0 ≤ stp w h o a d) (hw : Wlk w h o (stp w h o a d) n b) : Wlk w h o a (n + 1) b := by
 induction hw with
 | z => exact Wlk.s d Wlk.z hd
 | s d' _ hs ih => exact Wlk.s d' ih hs
theorem Wlk.rev {w h o a b : Int} {n : Nat} (hw : Wlk w h o a n b) : Wlk w h o b n a := by
 induction hw with
 | z => exact Wlk.z
 | s d hx hs ih =>
  have hb := stp_back hs
  have h0 := (stp_bd hs).2.1.1
  have := Wlk.front (w := w) (h := h) (o := o) (a := stp w h o _ d) (d := opp d) (by rw [hb]; exact h0) (by rw [hb]; exact ih)
  exact this
structure BI (w h o a : Int) (s : List Int × List Int) (m : Int) : Prop where
 ok : bfsOk w h s
 has : ∀ x : Int, 0 ≤ x → x < nCells w h → 0 ≤ rd s.1 x → x ∈ s.2
 srt : s.2.Pairwise fun x y => rd s.1 x ≤ rd s.1 y
 top : ∀ x ∈ s.2, rd s.1 x ≤ m
 wlk : ∀ x : Int, 0 ≤ x → x < nCells w h → 0 ≤ rd s.1 x → Wlk w h o a (rd s.1 x).toNat x
theorem bfs1_BI {w h o a c : Int} {s : List Int × List Int} (hs : BI w h o a s (rd s.1 c + 1)) (hc : c ∈ s.2) (d : Int) :
  BI w h o a (bfs1 w h o c s d) (rd s.1 c + 1) ∧ (∀ x : Int, 0 ≤ x → x < nCells w h → 0 ≤ rd s.1 x → rd (bfs1 w h o c s d).1 x = rd s.1 x) ∧ (0 ≤ stp w h o c d → 0 ≤ rd (bfs1 w h o c s d).1 (stp w h o c d) ∧ rd (bfs1 w h o c s d).1 (stp w h o c d) ≤ rd s.1 c + 1) := by
 obtain ⟨ok', _, _⟩ := bfs1_ok (o := o) hs.ok hc d
 obtain ⟨h1, h2, h3, h4⟩ := hs.ok
 obtain ⟨c0, c1, c2⟩ := h2 c hc
 by_cases hq : 0 ≤ stp w h o c d ∧ rd s.1 (stp w h o c d) < 0
 ·obtain ⟨_, _, _, hb, _⟩ := stp_bd hq.1
  have e : bfs1 w h o c s d = (s.1.set (stp w h o c d).toNat (rd s.1 c + 1), s.2 ++ [stp w h o c d]) := by unfold bfs1; rw [if_pos hq]
  have hsz : ∀ j : Int, 0 ≤ j → rd (s.1.set (stp w h o c d).toNat (rd s.1 c + 1)) j = if j = stp w h o c d then rd s.1 c + 1 else rd s.1 j := fun j hj => rd_set s.1 _ j _ hq.1 (by omega) hj
  rw [e] at ok' ⊢
  have hst := hq.1
  have hlt := hq.2
  have hwk : Wlk w h o a (rd s.1 c + 1).toNat (stp w h o c d) := by
   rw [show (rd s.1 c + 1).toNat = (rd s.1 c).toNat + 1 by omega]
   exact Wlk.s d (hs.wlk c c0 c1 c2) hst
  generalize stp w h o c d = t at hb hst hlt hsz ok' hwk ⊢
  have hkeep : ∀ x : Int, 0 ≤ x → 0 ≤ rd s.1 x → rd (s.1.set t.toNat (rd s.1 c + 1)) x = rd s.1 x := fun x x0 hx => by
   rw [hsz x x0]; split
   ·rename_i hh; subst hh; omega
   ·rfl
  have hq2 : ∀ x ∈ s.2, rd (s.1.set t.toNat (rd s.1 c + 1)) x = rd s.1 x := fun x hx => hkeep x (h2 x hx).1 (h2 x hx).2.2
  have ht : rd (s.1.set t.toNat (rd s.1 c + 1)) t = rd s.1 c + 1 := by rw [hsz t hst, if_pos rfl]
  refine ⟨⟨ok', ?_, ?_, ?_, ?_⟩, fun x x0 _ hx => hkeep x x0 hx, fun _ => by show 0 ≤ rd (s.1.set _ _) t ∧ rd (s.1.set _ _) t ≤ _; omega⟩
  ·intro x x0 x1 hx
   have hx' : 0 ≤ rd (s.1.set t.toNat (rd s.1 c + 1)) x := hx
   rw [hsz x x0] at hx'
   by_cases ex : x = t
   ·exact List.mem_append_right _ (by simp [ex])
   ·rw [if_neg ex] at hx'
    exact List.mem_append_left _ (hs.has x x0 x1 hx')
  ·show (s.2 ++ [t]).Pairwise fun x y => rd (s.1.set _ _) x ≤ rd (s.1.set _ _) y
   rw [List.pairwise_append]
   refine ⟨List.Pairwise.imp_of_mem (fun {x y} hx hy hh => by rw [hq2 x hx, hq2 y hy]; exact hh) hs.srt, List.pairwise_singleton _ _, fun x hx y hy => ?_⟩
   have hy : y = t := by simpa using hy
   subst hy
   rw [hq2 x hx, ht]
   exact hs.top x hx
  ·intro x hx
   show rd (s.1.set _ _) x ≤ _
   rcases List.mem_append.1 hx with hx | hx
   ·rw [hq2 x hx]; exact hs.top x hx
   ·have hx : x = t := by simpa using hx
    subst hx; omega
  ·intro x x0 x1 hx
   have hx' : 0 ≤ rd (s.1.set t.toNat (rd s.1 c + 1)) x := hx
   show Wlk w h o a (rd (s.1.set t.toNat (rd s.1 c + 1)) x).toNat x
   rw [hsz x x0] at hx' ⊢
   by_cases ex : x = t
   ·rw [if_pos ex, ex]; exact hwk
   ·rw [if_neg ex] at hx' ⊢
    exact hs.wlk x x0 x1 hx'
 ·have e : bfs1 w h o c s d = s := by unfold bfs1; rw [if_neg hq]
  rw [e]
  refine ⟨hs, fun x _ _ _ => rfl, fun hst => ?_⟩
  obtain ⟨_, _, _, hb, _⟩ := stp_bd hst
  have h0 : 0 ≤ rd s.1 (stp w h o c d) := by
   by_cases hh : rd s.1 (stp w h o c d) < 0
   ·exact absurd ⟨hst, hh⟩ hq
   ·omega
  exact ⟨h0, hs.top _ (hs.has _ hst hb h0)⟩
theorem fold_BI {w h o a c : Int} (L : List Int) : ∀ {s : List Int × List Int} (_ : BI w h o a s (rd s.1 c + 1)) (_ : c ∈ s.2),
  BI w h o a (L.foldl (bfs1 w h o c) s) (rd s.1 c + 1) ∧ (∀ x : Int, 0 ≤ x → x < nCells w h → 0 ≤ rd s.1 x → rd (L.foldl (bfs1 w h o c) s).1 x = rd s.1 x) ∧ (∀ d ∈ L, 0 ≤ stp w h o c d → 0 ≤ rd (L.foldl (bfs1 w h o c) s).1 (stp w h o c d) ∧ rd (L.foldl (bfs1 w h o c) s).1 (stp w h o c d) ≤ rd s.1 c + 1) := by
 induction L with
 | nil => intro s hs hc; exact ⟨hs, fun _ _ _ _ => rfl, fun d hd => by simp at hd⟩
 | cons d L ih =>
  intro s hs hc
  obtain ⟨a1, a2, a3⟩ := bfs1_BI hs hc d
  obtain ⟨_, b2, _⟩ := bfs1_ok (o := o) hs.ok hc d
  obtain ⟨c0, c1, c2⟩ := hs.ok.2.1 c hc
  have ec := a2 c c0 c1 c2
  rw [← ec] at a1
  obtain ⟨g1, g2, g3⟩ := ih a1 b2
  rw [ec] at g1 g3
  refine ⟨g1, fun x x0 x1 hx => ?_, fun d' hd hst => ?_⟩
  ·have e1 := a2 x x0 x1 hx
   rw [List.foldl_cons, g2 x x0 x1 (by rw [e1]; exact hx), e1]
  ·rcases List.mem_cons.1 hd with rfl | hd
   ·obtain ⟨p, q⟩ := a3 hst
    obtain ⟨_, _, _, hb, _⟩ := stp_bd hst
    rw [List.foldl_cons, g2 _ hst hb p]
    exact ⟨p, q⟩
   ·exact g3 d' hd hst
structure Dist (w h o a : Int) (D : List Int) : Prop where
 src : rd D a = 0
 wlk : ∀ x : Int, 0 ≤ x → x < nCells w h → 0 ≤ rd D x → Wlk w h o a (rd D x).toNat x
 shut : ∀ x d : Int, 0 ≤ x → x < nCells w h → 0 ≤ rd D x → 0 ≤ stp w h o x d → 0 ≤ rd D (stp w h o x d) ∧ rd D (stp w h o x d) ≤ rd D x + 1
theorem run_Dist {w h o a : Int} (n : Nat) : ∀ (s : List Int × List Int) (i : Int), bfsOk w h s → 0 ≤ i → 17 - i ≤ n → i ≤ s.2.length → rd s.1 a = 0 → 0 ≤ a → a < nCells w h →
  (∀ m, (i < s.2.length → m = rd s.1 (rd s.2 i) + 1) → (¬ i < s.2.length → m = 100) → BI w h o a s m) →
  (∀ j d : Int, 0 ≤ j → j < i → 0 ≤ stp w h o (rd s.2 j) d → 0 ≤ rd s.1 (stp w h o (rd s.2 j) d) ∧ rd s.1 (stp w h o (rd s.2 j) d) ≤ rd s.1 (rd s.2 j) + 1) → Dist w h o a (bfsRun w h o n i s) := by
 induction n with
 | zero =>
  intro s i hs i0 hn hi
  have := ok_len hs
  omega
 | succ n ih =>
  intro s i hs i0 hn hi hsrc ha0 ha1 hB hD
  simp only [bfsRun]
  by_cases h1 : i < (s.2.length : Int)
  ·rw [if_pos h1]
   have hBI := hB _ (fun _ => rfl) (fun h => absurd h1 h)
   have hcm := rd_in i0 h1
   obtain ⟨p, q⟩ := bfsCell_ok (o := o) hs hcm
   obtain ⟨g1, g2, g3⟩ := fold_BI [0, 1, 2, 3] hBI hcm
   obtain ⟨c0, c1, c2⟩ := hs.2.1 _ hcm
   have hlen := q.length_le
   have hlp := ok_len p
   have hpre := fun j j0 j1 => prefix_rd q j j0 j1
   change BI w h o a (bfsCell w h o (rd s.2 i) s) _ at g1
   change ∀ x : Int, 0 ≤ x → x < nCells w h → 0 ≤ rd s.1 x → rd (bfsCell w h o (rd s.2 i) s).1 x = rd s.1 x at g2
   change ∀ d ∈ [0, 1, 2, 3], 0 ≤ stp w h o (rd s.2 i) d → 0 ≤ rd (bfsCell w h o (rd s.2 i) s).1 (stp w h o (rd s.2 i) d) ∧ rd (bfsCell w h o (rd s.2 i) s).1 (stp w h o (rd s.2 i) d) ≤ rd s.1 (rd s.2 i) + 1 at g3
   generalize bfsCell w h o (rd s.2 i) s = s' at p q g1 g2 g3 hlen hlp hpre ⊢
   refine ih s' (i + 1) p (by omega) (by omega) (by omega) (by rw [g2 a ha0 ha1 (by omega), hsrc]) ha0 ha1 (fun m m1 m2 => ?_) (fun j d j0 j1 hst => ?_)
   ·refine ⟨p, g1.has, g1.srt, fun x hx => ?_, g1.wlk⟩
    have ht := g1.top x hx
    by_cases hz : i + 1 < s'.2.length
    ·rw [m1 hz]
     have e1 := hpre i i0 h1
     have hs2 : rd s'.1 (rd s'.2 i) ≤ rd s'.1 (rd s'.2 (i + 1)) := by
      have := List.pairwise_iff_getElem.1 g1.srt i.toNat (i + 1).toNat (by omega) (by omega) (by omega)
      have r1 : rd s'.2 i = s'.2[i.toNat]'(by omega) := by unfold rd; rw [List.getD_eq_getElem?_getD, List.getElem?_eq_getElem (by omega)]; rfl
      have r2 : rd s'.2 (i + 1) = s'.2[(i + 1).toNat]'(by omega) := by unfold rd; rw [List.getD_eq_getElem?_getD, List.getElem?_eq_getElem (by omega)]; rfl
      rw [r1, r2]; exact this
     rw [e1, g2 _ c0 c1 c2] at hs2
     omega
    ·rw [m2 hz]
     obtain ⟨x0, x1, _⟩ := p.2.1 x hx
     have := (p.2.2.1 x x0 x1).2
     omega
   ·by_cases ej : j = i
    ·subst ej
     rw [hpre j j0 h1] at hst ⊢
     obtain ⟨_, _, hd, _, _⟩ := stp_bd hst
     have := g3 d (by simp; omega) hst
     rw [g2 _ c0 c1 c2]; exact this
    ·rw [hpre j j0 (by omega)] at hst ⊢
     obtain ⟨u, v⟩ := hD j d j0 (by omega) hst
     obtain ⟨_, _, _, hb, _⟩ := stp_bd hst
     obtain ⟨x0, x1, x2⟩ := hs.2.1 _ (rd_in j0 (show j < s.2.length by omega))
     rw [g2 _ hst hb u, g2 _ x0 x1 x2]; exact ⟨u, v⟩
  ·rw [if_neg h1]
   have hBI := hB 100 (fun h => absurd h h1) (fun _ => rfl)
   refine ⟨hsrc, hBI.wlk, fun x d x0 x1 hx hst => ?_⟩
   obtain ⟨j, j0, j1, je⟩ := rd_surj (hBI.has x x0 x1 hx)
   have := hD j d j0 (by omega)
   rw [je] at this
   exact this hst
theorem distL_Dist {w h a : Int} (o : Int) (h0 : 0 ≤ a) (h1 : a < nCells w h) : Dist w h o a (distL w h o a) := by
 have hn := nCells_bd w h
 have hr : ∀ j : Int, 0 ≤ j → j < nCells w h → rd ((List.replicate (nCells w h).toNat (-1 : Int)).set a.toNat 0) j = if j = a then 0 else -1 := fun j j0 j1 => by
  rw [rd_set _ _ _ _ h0 (by simp; omega) j0]; split
  ·rfl
  ·exact replicate_rd _ _ _ j0 (by omega)
 refine run_Dist 17 _ 0 (bfs_start h0 h1) (by omega) (by omega) (by simp) (by rw [hr a h0 h1, if_pos rfl]) h0 h1 (fun m m1 _ => ?_) (fun j d j0 j1 => by omega)
 have hm := m1 (by simp)
 have e0 : rd ([a] : List Int) 0 = a := rfl
 change m = rd _ (rd [a] 0) + 1 at hm
 rw [e0, hr a h0 h1, if_pos rfl] at hm
 refine ⟨bfs_start h0 h1, fun x x0 x1 hx => ?_, List.pairwise_singleton _ _, fun x hx => ?_, fun x x0 x1 hx => ?_⟩
 ·have hx' := hx
  change 0 ≤ rd (List.set _ _ _) x at hx'
  rw [hr x x0 x1] at hx'
  split at hx'
  ·rename_i e; simp [e]
  ·omega
 ·have hx : x = a := by simpa using hx
  subst hx
  show rd (List.set _ _ _) x ≤ m
  rw [hr x h0 h1, if_pos rfl]; omega
 ·have hx' := hx
  change 0 ≤ rd (List.set _ _ _) x at hx'
  show Wlk w h o a (rd (List.set _ _ _) x).toNat x
  rw [hr x x0 x1] at hx' ⊢
  split at hx'
  ·rename_i e; subst e; rw [if_pos rfl]; exact Wlk.z
  ·omega
theorem Dist.le {w h o a : Int} {D : List Int} (hD : Dist w h o a D) (h0 : 0 ≤ a) (h1 : a < nCells w h) {n : Nat} {x : Int} (hw : Wlk w h o a n x) : 0 ≤ rd D x ∧ rd D x ≤ n ∧ 0 ≤ x ∧ x < nCells w h := by
 induction hw with
 | z => exact ⟨by rw [hD.src]; omega, by rw [hD.src]; omega, h0, h1⟩
 | s d hx hst ih =>
  obtain ⟨i0, i1, i2, i3⟩ := ih
  obtain ⟨_, _, _, hb, _⟩ := stp_bd hst
  obtain ⟨p, q⟩ := hD.shut _ d i2 i3 i0 hst
  exact ⟨p, by omega, hst, hb⟩
theorem dist_symm {w h a b : Int} (o : Int) (a0 : 0 ≤ a) (a1 : a < nCells w h) (b0 : 0 ≤ b) (b1 : b < nCells w h) : rd (distL w h o a) b = rd (distL w h o b) a := by
 have ha := distL_Dist o a0 a1
 have hb := distL_Dist o b0 b1
 have ra := (distL_ok o a0 a1).2 b b0 b1
 have rb := (distL_ok o b0 b1).2 a a0 a1
 have p : 0 ≤ rd (distL w h o a) b → 0 ≤ rd (distL w h o b) a ∧ rd (distL w h o b) a ≤ rd (distL w h o a) b := fun hp => by
  have := Dist.le hb b0 b1 (Wlk.rev (ha.wlk b b0 b1 hp))
  omega
 have q : 0 ≤ rd (distL w h o b) a → 0 ≤ rd (distL w h o a) b ∧ rd (distL w h o a) b ≤ rd (distL w h o b) a := fun hp => by
  have := Dist.le ha a0 a1 (Wlk.rev (hb.wlk a a0 a1 hp))
  omega
 omega
def gapsOf (w h c : Int) : List Int := ([0, 1, 2, 3].filter fun d => decide (0 ≤ nbr w h c d)).map fun d => gapAt w h c d
def gapsTo (w h : Int) : Nat → List Int
 | 0 => []
 | n + 1 => gapsTo w h n ++ gapsOf w h n
def numsTo : Nat → List Int
 | 0 => []
 | n + 1 => numsTo n ++ [(n : Int)]
theorem gaps_perm {w h : Int} (hk : gOk w h = true) : (gapsTo w h (nCells w h).toNat).Perm (numsTo (nGaps w h).toNat ++ numsTo (nGaps w h).toNat) := by
 rw [← List.isPerm_iff]
 obtain ⟨hw, hh⟩ := gOk_cases hk
 rcases hw with rfl | rfl | rfl | rfl <;> rcases hh with rfl | rfl | rfl | rfl <;> decide +kernel
def cntBit (o : Int) (l : List Int) : Nat := (l.filter fun g => bitAt o g).length
theorem cntBit_append (o : Int) (a b : List Int) : cntBit o (a ++ b) = cntBit o a + cntBit o b := by
 unfold cntBit; rw [List.filter_append, List.length_append]
theorem cntBit_nums (o : Int) : ∀ n, cntBit o (numsTo n) = pcN o.toNat n
 | 0 => rfl
 | n + 1 => by
  rw [show numsTo (n + 1) = numsTo n ++ [(n : Int)] from rfl, cntBit_append, cntBit_nums o n]
  show _ = pcN o.toNat n + (if o.toNat.testBit n then 1 else 0)
  unfold cntBit bitAt
  cases hq : o.toNat.testBit n <;> simp [hq]
theorem deg_eq {w h o : Int} (hm : mOk w h o = true) (c : Int) : (waysL w h o c).length = cntBit o (gapsOf w h c) := by
 unfold waysL cntBit gapsOf
 rw [List.filter_map, List.length_map, List.filter_filter]
 congr 2
 funext d
 rw [Bool.eq_iff_iff]
 simp only [decide_eq_true_eq, Bool.and_eq_true, Function.comp]
 rw [stp_iff]
 constructor
 ·rintro ⟨_, a, b⟩; exact ⟨b, a⟩
 ·rintro ⟨b, a⟩; exact ⟨hm, a, b⟩
def degTo (w h o : Int) : Nat → Nat
 | 0 => 0
 | n + 1 => degTo w h o n + (waysL w h o n).length
theorem degTo_eq {w h o : Int} (hm : mOk w h o = true) : ∀ n, degTo w h o n = cntBit o (gapsTo w h n)
 | 0 => rfl
 | n + 1 => by
  show degTo w h o n + _ = cntBit o (gapsTo w h n ++ gapsOf w h n)
  rw [cntBit_append, degTo_eq hm n, deg_eq hm]
theorem deg_sum {w h o : Int} (hm : mOk w h o = true) : (degTo w h o (nCells w h).toNat : Int) = 2 * pcnt w h o := by
 have hk := (mOk_iff.1 hm).1
 rw [degTo_eq hm]
 have : cntBit o (gapsTo w h (nCells w h).toNat) = cntBit o (numsTo (nGaps w h).toNat ++ numsTo (nGaps w h).toNat) := ((gaps_perm hk).filter _).length_eq
 rw [this, cntBit_append, cntBit_nums]
 unfold pcnt; rw [if_pos hm]; omega
def Con (w h o a b : Int) : Prop := ∃ n, Wlk w h o a n b
theorem Wlk.append {w h o a b c : Int} {n m : Nat} (h1 : Wlk w h o a n b) (h2 : Wlk w h o b m c) : Wlk w h o a (n + m) c := by
 induction h2 with
 | z => exact h1
 | s d _ hs ih => exact Wlk.s d ih hs
theorem Con.refl (w h o a : Int) : Con w h o a a := ⟨0, Wlk.z⟩
theorem Con.symm {w h o a b : Int} (hc : Con w h o a b) : Con w h o b a := by
 obtain ⟨n, hn⟩ := hc
 exact ⟨n, Wlk.rev hn⟩
theorem Con.trans {w h o a b c : Int} (h1 : Con w h o a b) (h2 : Con w h o b c) : Con w h o a c := by
 obtain ⟨n, hn⟩ := h1
 obtain ⟨m, hm⟩ := h2
 exact ⟨n + m, Wlk.append hn hm⟩
theorem Con.step {w h o a d : Int} (hs : 0 ≤ stp w h o a d) : Con w h o a (stp w h o a d) := ⟨1, Wlk.s d Wlk.z hs⟩
theorem con_dist {w h a b : Int} (o : Int) (a0 : 0 ≤ a) (a1 : a < nCells w h) (b0 : 0 ≤ b) (b1 : b < nCells w h) : 0 ≤ rd (distL w h o a) b ↔ Con w h o a b := by
 have hD := distL_Dist (w := w) (h := h) o a0 a1
 constructor
 ·intro hr
  exact ⟨_, hD.wlk b b0 b1 hr⟩
 ·rintro ⟨n, hn⟩
  exact (Dist.le hD a0 a1 hn).1
def edgeB (w h c d : Int) : Bool := decide (nbr w h c d < 0) || (gapIn w h (gapAt w h c d) && (decide (ends w h (gapAt w h c d) = (c, nbr w h c d)) || decide (ends w h (gapAt w h c d) = (nbr w h c d, c))))
theorem edge_all {w h : Int} (hk : gOk w h = true) (c d : Nat) (hc : c < 16) (hd : d < 4) : edgeB w h c d = true := by
 have h16 : ∀ c : Fin 16, ∀ d : Fin 4, edgeB w h c.val d.val = true := by
  obtain ⟨hw, hh⟩ := gOk_cases hk
  rcases hw with rfl | rfl | rfl | rfl <;> rcases hh with rfl | rfl | rfl | rfl <;> decide +kernel
 exact h16 ⟨c, hc⟩ ⟨d, hd⟩
theorem nbr_ends {w h c d : Int} (hn : 0 ≤ nbr w h c d) : gapIn w h (gapAt w h c d) = true ∧ (ends w h (gapAt w h c d) = (c, nbr w h c d) ∨ ends w h (gapAt w h c d) = (nbr w h c d, c)) := by
 obtain ⟨⟨c0, c1⟩, hd⟩ := nbr_cases hn
 have hk := ok_of_cell c0 c1
 have hb := nCells_bd w h
 have hd' : 0 ≤ d ∧ d ≤ 3 := by rcases hd with h | h | h | h <;> omega
 have := edge_all hk c.toNat d.toNat (by omega) (by omega)
 rw [Int.toNat_of_nonneg c0, Int.toNat_of_nonneg hd'.1] at this
 unfold edgeB at this
 simp only [Bool.or_eq_true, Bool.and_eq_true, decide_eq_true_eq] at this
 rcases this with h | h
 ·omega
 ·exact h
def endB (w h g : Int) : Bool := !(gapIn w h g) || ((decide (0 ≤ (ends w h g).1) && (decide ((ends w h g).1 < (ends w h g).2) && decide ((ends w h g).2 < nCells w h))) && [1, 2].any fun d => decide (nbr w h (ends w h g).1 d = (ends w h g).2) && decide (gapAt w h (ends w h g).1 d = g))
theorem end_all {w h : Int} (hk : gOk w h = true) (g : Nat) (hg : g < 24) : endB w h g = true := by
 have h24 : ∀ g : Fin 24, endB w h g.val = true := by
  obtain ⟨hw, hh⟩ := gOk_cases hk
  rcases hw with rfl | rfl | rfl | rfl <;> rcases hh with rfl | rfl | rfl | rfl <;> decide +kernel
 exact h24 ⟨g, hg⟩
theorem ends_nbr {w h g : Int} (hg : gapIn w h g = true) : (0 ≤ (ends w h g).1 ∧ (ends w h g).1 < (ends w h g).2 ∧ (ends w h g).2 < nCells w h) ∧ ∃ d, nbr w h (ends w h g).1 d = (ends w h g).2 ∧ gapAt w h (ends w h g).1 d = g := by
 obtain ⟨g0, g1⟩ := gapIn_iff.1 hg
 have hk := ok_of_gap hg
 have hb := nGaps_bd w h
 have := end_all hk g.toNat (by omega)
 rw [Int.toNat_of_nonneg g0] at this
 unfold endB at this
 simp only [hg, Bool.not_true, Bool.false_or, Bool.and_eq_true, decide_eq_true_eq, List.any_eq_true] at this
 obtain ⟨⟨p, q, r⟩, d, _, d1, d2⟩ := this
 exact ⟨⟨p, q, r⟩, d, d1, d2⟩
theorem step_gap {w h o g : Int} (hm : mOk w h o = true) (hg : gapIn w h g = true) (hb : bitAt o g = true) : ∃ d, 0 ≤ stp w h o (ends w h g).1 d ∧ stp w h o (ends w h g).1 d = (ends w h g).2 := by
 obtain ⟨⟨p, q, r⟩, d, d1, d2⟩ := ends_nbr hg
 have hs : 0 ≤ stp w h o (ends w h g).1 d := stp_iff.2 ⟨hm, by omega, by rw [d2]; exact hb⟩
 exact ⟨d, hs, by rw [stp_nbr hs, d1]⟩
theorem con_gap {w h o g : Int} (hm : mOk w h o = true) (hg : gapIn w h g = true) (hb : bitAt o g = true) : Con w h o (ends w h g).1 (ends w h g).2 := by
 obtain ⟨d, d1, d2⟩ := step_gap hm hg hb
 rw [← d2]; exact Con.step d1
theorem stp_gap {w h o c d : Int} (hs : 0 ≤ stp w h o c d) : ∃ g, gapIn w h g = true ∧ bitAt o g = true ∧ (ends w h g = (c, stp w h o c d) ∨ ends w h g = (stp w h o c d, c)) := by
 obtain ⟨hm, hn, hb⟩ := stp_iff.1 hs
 obtain ⟨p, q⟩ := nbr_ends hn
 exact ⟨gapAt w h c d, p, hb, by rw [stp_nbr hs]; exact q⟩
theorem Con.mono {w h o o' a b : Int} (hm : mOk w h o' = true) (hb : ∀ g, gapIn w h g = true → bitAt o g = true → bitAt o' g = true) (hc : Con w h o a b) : Con w h o' a b := by
 obtain ⟨n, hn⟩ := hc
 induction hn with
 | z => exact Con.refl _ _ _ _
 | s d _ hs ih =>
  refine Con.trans ih ?_
  obtain ⟨g, g1, g2, g3⟩ := stp_gap hs
  have hcg := con_gap hm g1 (hb g g1 g2)
  rcases g3 with e | e
  ·rw [e] at hcg; exact hcg
  ·rw [e] at hcg; exact hcg.symm
theorem con_add {w h o o' g x y : Int} (hm : mOk w h o = true) (hm' : mOk w h o' = true) (hg : gapIn w h g = true) (hb : ∀ i, gapIn w h i = true → (bitAt o' i = true ↔ bitAt o i = true ∨ i = g)) :
  Con w h o' x y ↔ Con w h o x y ∨ (Con w h o x (ends w h g).1 ∧ Con w h o (ends w h g).2 y) ∨ (Con w h o x (ends w h g).2 ∧ Con w h o (ends w h g).1 y) := by
 have hup : ∀ {p q}, Con w h o p q → Con w h o' p q := fun hc => Con.mono hm' (fun i hi h1 => (hb i hi).2 (.inl h1)) hc
 have hab : Con w h o' (ends w h g).1 (ends w h g).2 := con_gap hm' hg ((hb g hg).2 (.inr rfl))
 constructor
 ·rintro ⟨n, hn⟩
  induction hn with
  | z => exact .inl (Con.refl _ _ _ _)
  | @s n t d _ hs ih =>
   obtain ⟨i, i1, i2, i3⟩ := stp_gap hs
   have hcs : Con w h o t (stp w h o' t d) ∨ (t = (ends w h g).1 ∧ stp w h o' t d = (ends w h g).2) ∨ (t = (ends w h g).2 ∧ stp w h o' t d = (ends w h g).1) := by
    rcases (hb i i1).1 i2 with h1 | rfl
    ·have hcg := con_gap hm i1 h1
     rcases i3 with e | e
     ·rw [e] at hcg; exact .inl hcg
     ·rw [e] at hcg; exact .inl hcg.symm
    ·rcases i3 with e | e
     ·exact .inr (.inl ⟨by rw [e], by rw [e]⟩)
     ·exact .inr (.inr ⟨by rw [e], by rw [e]⟩)
   generalize stp w h o' t d = z at hcs ⊢
   rcases hcs with h1 | ⟨rfl, rfl⟩ | ⟨rfl, rfl⟩
   ·rcases ih with h2 | ⟨h2, h3⟩ | ⟨h2, h3⟩
    ·exact .inl (h2.trans h1)
    ·exact .inr (.inl ⟨h2, h3.trans h1⟩)
    ·exact .inr (.inr ⟨h2, h3.trans h1⟩)
   ·rcases ih with h2 | ⟨h2, h3⟩ | ⟨h2, h3⟩
    ·exact .inr (.inl ⟨h2, Con.refl _ _ _ _⟩)
    ·exact .inr (.inl ⟨h2, Con.refl _ _ _ _⟩)
    ·exact .inl h2
   ·rcases ih with h2 | ⟨h2, h3⟩ | ⟨h2, h3⟩
    ·exact .inr (.inr ⟨h2, Con.refl _ _ _ _⟩)
    ·exact .inl h2
    ·exact .inr (.inr ⟨h2, Con.refl _ _ _ _⟩)
 ·rintro (h1 | ⟨h1, h2⟩ | ⟨h1, h2⟩)
  ·exact hup h1
  ·exact (hup h1).trans (hab.trans (hup h2))
  ·exact (hup h1).trans (hab.symm.trans (hup h2))
theorem con_zero {w h a b : Int} : Con w h 0 a b ↔ a = b := by
 constructor
 ·rintro ⟨n, hn⟩
  cases hn with
  | z => rfl
  | s d _ hs =>
   obtain ⟨_, _, hb⟩ := stp_iff.1 hs
   unfold bitAt at hb; simp at hb
 ·rintro rfl; exact Con.refl _ _ _ _
def repB (w h o : Int) (c : Nat) : Bool := (List.range c).all fun x => decide (rd (distL w h o c) x < 0)
def repsN (w h o : Int) : Nat → Nat
 | 0 => 0
 | n + 1 => repsN w h o n + (repB w h o n).toNat
def partsN (w h o : Int) : Nat := repsN w h o (nCells w h).toNat
theorem repB_iff {w h o : Int} {c : Nat} (hc : (c : Int) < nCells w h) : repB w h o c = true ↔ ∀ x : Int, 0 ≤ x → x < c → ¬ Con w h o c x := by
 unfold repB
 rw [List.all_eq_true]
 constructor
 ·intro hh x x0 x1 hcon
  have := hh x.toNat (List.mem_range.2 (by omega))
  rw [Int.toNat_of_nonneg x0, decide_eq_true_eq] at this
  have := (con_dist o (by omega) hc x0 (by omega)).2 hcon
  omega
 ·intro hh x hx
  have hx' := List.mem_range.1 hx
  rw [decide_eq_true_eq]
  have := hh x (by omega) (by omega)
  rw [← con_dist o (by omega) hc (by omega) (by omega)] at this
  omega
theorem repsN_less {w h o o' : Int} {m : Nat} (hm : repB w h o m = true) : ∀ n : Nat, (∀ c : Nat, c < n → (repB w h o' c = true ↔ repB w h o c = true ∧ c ≠ m)) → repsN w h o' n + (if m < n then 1 else 0) = repsN w h o n
 | 0, _ => rfl
 | n + 1, hh => by
  simp only [repsN]
  have ih := repsN_less hm n (fun c hc => hh c (by omega))
  have hn := hh n (by omega)
  by_cases e : n = m
  ·subst e
   have : repB w h o' n = false := by
    cases hq : repB w h o' n
    ·rfl
    ·exact absurd rfl ((hn.1 hq).2)
   rw [this, hm, if_pos (by omega)]
   rw [if_neg (by omega)] at ih
   simp; omega
  ·have : repB w h o' n = repB w h o n := by
    rw [Bool.eq_iff_iff, hn]; simp [e]
   rw [this]
   by_cases h2 : m < n
   ·rw [if_pos h2] at ih; rw [if_pos (by omega)]; omega
   ·rw [if_neg h2] at ih; rw [if_neg (by omega)]; omega
theorem rep_of {w h : Int} (o : Int) {a : Int} (a0 : 0 ≤ a) (a1 : a < nCells w h) : ∃ r : Nat, (r : Int) < nCells w h ∧ repB w h o r = true ∧ Con w h o r a ∧ ∀ x : Int, 0 ≤ x → Con w h o x a → x < nCells w h → (r : Int) ≤ x := by
 have : ∀ (n : Nat), (∃ x : Nat, x < n ∧ (x : Int) < nCells w h ∧ Con w h o x a) → ∃ r : Nat, (r : Int) < nCells w h ∧ Con w h o r a ∧ ∀ x : Nat, x < r → ¬ Con w h o x a := by
  intro n
  induction n with
  | zero => rintro ⟨x, hx, _⟩; omega
  | succ n ih =>
   rintro ⟨x, hx, hx1, hx2⟩
   by_cases hq : ∃ y : Nat, y < n ∧ (y : Int) < nCells w h ∧ Con w h o y a
   ·exact ih hq
   ·refine ⟨x, hx1, hx2, fun y hy hc => hq ⟨y, by omega, by omega, hc⟩⟩
 obtain ⟨r, r1, r2, r3⟩ := this (a.toNat + 1) ⟨a.toNat, by omega, by omega, by rw [Int.toNat_of_nonneg a0]; exact Con.refl _ _ _ _⟩
 refine ⟨r, r1, (repB_iff r1).2 (fun x x0 x1 hc => r3 x.toNat (by omega) (by rw [Int.toNat_of_nonneg x0]; exact hc.symm.trans r2)), r2, fun x x0 hx x1 => ?_⟩
 by_cases hlt : x < r
 ·exact absurd (by rw [Int.toNat_of_nonneg x0]; exact hx) (r3 x.toNat (by omega))
 ·omega
theorem parts_join {w h o o' g : Int} (hm : mOk w h o = true) (hm' : mOk w h o' = true) (hg : gapIn w h g = true) (hb : ∀ i, gapIn w h i = true → (bitAt o' i = true ↔ bitAt o i = true ∨ i = g)) (hc : ¬ Con w h o (ends w h g).1 (ends w h g).2) : partsN w h o' + 1 = partsN w h o := by
 have hn := nCells_bd w h
 obtain ⟨⟨p, q, r⟩, _⟩ := ends_nbr hg
 obtain ⟨ra, a1, a2, a3, a4⟩ := rep_of (w := w) (h := h) o p (by omega)
 obtain ⟨rb, b1, b2, b3, b4⟩ := rep_of (w := w) (h := h) o (a := (ends w h g).2) (by omega) r
 have hadd := fun x y => con_add (x := x) (y := y) hm hm' hg hb
 generalize (ends w h g).1 = a at *
 generalize (ends w h g).2 = b at *
 have hne : ra ≠ rb := fun e => by subst e; exact hc (a3.symm.trans b3)
 have key : ∀ m k : Nat, ((m = ra ∧ k = rb) ∨ (m = rb ∧ k = ra)) → k < m → partsN w h o' + 1 = partsN w h o := by
  intro m k hmk hlt
  have hmr : repB w h o m = true := by rcases hmk with ⟨rfl, rfl⟩ | ⟨rfl, rfl⟩ <;> assumption
  have hmn : (m : Int) < nCells w h := by rcases hmk with ⟨rfl, rfl⟩ | ⟨rfl, rfl⟩ <;> assumption
  have hkm : Con w h o' m k := by
   rcases hmk with ⟨rfl, rfl⟩ | ⟨rfl, rfl⟩
   ·exact (hadd _ _).2 (.inr (.inl ⟨a3, b3.symm⟩))
   ·exact (hadd _ _).2 (.inr (.inr ⟨b3, a3.symm⟩))
  unfold partsN
  have := repsN_less (w := w) (h := h) (o := o) (o' := o') hmr (nCells w h).toNat (fun c hcn => ?_)
  ·rw [if_pos (by omega)] at this; exact this
  ·rw [repB_iff (by omega), repB_iff (by omega)]
   constructor
   ·intro hh
    refine ⟨fun x x0 x1 hx => hh x x0 x1 ((hadd _ _).2 (.inl hx)), fun e => ?_⟩
    subst e
    exact hh k (by omega) (by omega) hkm
   ·rintro ⟨hh, hcm⟩ x x0 x1 hx
    rcases (hadd _ _).1 hx with h1 | ⟨h1, h2⟩ | ⟨h1, h2⟩
    ·exact hh x x0 x1 h1
    ·have e1 : (ra : Int) ≤ c := a4 c (by omega) h1 (by omega)
     have e2 : (rb : Int) ≤ x := b4 x x0 h2.symm (by omega)
     have e3 : ¬ (ra : Int) < c := fun hl => hh ra (by omega) hl (h1.trans a3.symm)
     rcases hmk with ⟨rfl, rfl⟩ | ⟨rfl, rfl⟩ <;> omega
    ·have e1 : (rb : Int) ≤ c := b4 c (by omega) h1 (by omega)
     have e2 : (ra : Int) ≤ x := a4 x x0 h2.symm (by omega)
     have e3 : ¬ (rb : Int) < c := fun hl => hh rb (by omega) hl (h1.trans b3.symm)
     rcases hmk with ⟨rfl, rfl⟩ | ⟨rfl, rfl⟩ <;> omega
 by_cases hlt : ra < rb
 ·exact key rb ra (.inr ⟨rfl, rfl⟩) hlt
 ·exact key ra rb (.inl ⟨rfl, rfl⟩) (by omega)
theorem parts_zero (w h : Int) : partsN w h 0 = (nCells w h).toNat := by
 have hn := nCells_bd w h
 have : ∀ n : Nat, (n : Int) ≤ nCells w h → repsN w h 0 n = n := by
  intro n
  induction n with
  | zero => intro _; rfl
  | succ n ih =>
   intro hle
   have : repB w h 0 n = true := (repB_iff (by omega)).2 (fun x x0 x1 hx => by have := con_zero.1 hx; omega)
   simp only [repsN]; rw [ih (by omega), this]; rfl
 exact this _ (by omega)
theorem parts_one {w h : Int} (o : Int) (hk : gOk w h = true) : partsN w h o = 1 ↔ ∀ x : Int, 0 ≤ x → x < nCells w h → Con w h o x 0 := by
 have hn := nCells_bd w h
 have h1 := hn.2.2 hk
 obtain ⟨m, hm⟩ : ∃ m, (nCells w h).toNat = m + 1 := ⟨(nCells w h).toNat - 1, by omega⟩
 have hr0 : repB w h o 0 = true := rfl
 have hone : ∀ n : Nat, repsN w h o (n + 1) = 1 ↔ ∀ c : Nat, 1 ≤ c → c < n + 1 → repB w h o c = false := by
  intro n
  induction n with
  | zero => simp [repsN, repB]; intro c a b; omega
  | succ n ih =>
   have hge : 1 ≤ repsN w h o (n + 1) := by
    have : ∀ n : Nat, 1 ≤ repsN w h o (n + 1) := by
     intro n
     induction n with
     | zero => simp [repsN, repB]
     | succ n ih => simp only [repsN] at ih ⊢; omega
    exact this n
   rw [show repsN w h o (n + 1 + 1) = repsN w h o (n + 1) + (repB w h o (n + 1)).toNat from rfl]
   constructor
   ·intro he c c1 c2
    cases hq : repB w h o (n + 1) with
    | true => rw [hq] at he; simp at he; omega
    | false =>
     rw [hq] at he
     by_cases e : c = n + 1
     ·rw [e]; exact hq
     ·exact ih.1 (by simpa using he) c c1 (by omega)
   ·intro hh
    rw [hh (n + 1) (by omega) (by omega), ih.2 (fun c c1 c2 => hh c c1 (by omega))]; rfl
 unfold partsN
 rw [hm, hone m]
 constructor
 ·intro hh x x0 x1
  obtain ⟨r, r1, r2, r3, _⟩ := rep_of (w := w) (h := h) o x0 x1
  by_cases e : r = 0
  ·subst e; exact r3.symm
  ·rw [hh r (by omega) (by omega)] at r2; exact absurd r2 (by simp)
 ·intro hh c c1 c2
  cases hq : repB w h o c with
  | false => rfl
  | true => exact absurd (hh c (by omega) (by omega)) ((repB_iff (by omega)).1 hq 0 (by omega) (by omega))
def loopsZ (w h o : Int) : Int := pcnt w h o - nCells w h + (partsN w h o : Int)
theorem bits_on {w h o g : Int} (hg : gapIn w h g = true) : ∀ i, gapIn w h i = true → (bitAt (setG o g true) i = true ↔ bitAt o i = true ∨ i = g) := fun i hi => by
 obtain ⟨g0, _⟩ := gapIn_iff.1 hg
 obtain ⟨i0, _⟩ := gapIn_iff.1 hi
 rw [bit_setG i g0 i0]
 by_cases e : i = g
 ·subst e; simp
 ·simp [e]
theorem pcN_bits (o o' g : Nat) (h1 : o.testBit g = true) (h0 : o'.testBit g = false) (hs : ∀ i, i ≠ g → o'.testBit i = o.testBit i) : ∀ n, pcN o n = pcN o' n + (if g < n then 1 else 0)
 | 0 => rfl
 | n + 1 => by
  have ih := pcN_bits o o' g h1 h0 hs n
  have e : ∀ x, pcN x (n + 1) = pcN x n + (if x.testBit n then 1 else 0) := fun x => rfl
  rw [e, e, ih]
  by_cases hn : n = g
  ·subst hn; simp [h1, h0]
  ·have h2 := hs n hn
   by_cases hl : g < n
   ·simp [h2, hl, show g < n + 1 by omega]; omega
   ·simp [h2, hl, show ¬ g < n + 1 by omega]
theorem pcnt_off {w h o g : Int} (hm : mOk w h o = true) (hg : gapIn w h g = true) (hb : bitAt o g = true) : pcnt w h o = pcnt w h (setG o g false) + 1 := by
 obtain ⟨g0, g1⟩ := gapIn_iff.1 hg
 have hm' := mOk_setG (b := false) hm hg
 unfold pcnt
 rw [if_pos hm, if_pos hm', pcN_bits o.toNat (setG o g false).toNat g.toNat hb ?_ ?_, if_pos (by omega)]
 ·omega
 ·have := bit_setG (o := o) (b := false) g g0 g0
  rw [if_pos rfl] at this; exact this
 ·intro i hi
  have := bit_setG (o := o) (b := false) (i : Int) g0 (by omega)
  rw [if_neg (by omega)] at this
  unfold bitAt at this
  simpa using this
theorem pcnt_zero (w h : Int) : pcnt w h 0 = 0 := by
 have : ∀ n, pcN 0 n = 0 := by
  intro n
  induction n with
  | zero => rfl
  | succ n ih => show pcN 0 n + (if Nat.testBit 0 n then 1 else 0) = 0; rw [ih]; simp
 unfold pcnt; split
 ·rw [show (0 : Int).toNat = 0 from rfl, this]; rfl
 ·rfl
theorem pcnt_bd (w h o : Int) : 0 ≤ pcnt w h o ∧ pcnt w h o ≤ 24 := by
 unfold pcnt
 have := nGaps_bd w h
 split
 ·have := pcN_le o.toNat (nGaps w h).toNat; omega
 ·omega
theorem loops_zero {w h : Int} : loopsZ w h 0 = 0 := by
 have := nCells_bd w h
 unfold loopsZ; rw [pcnt_zero, parts_zero]; omega
theorem nbr_less {w h x : Int} (x0 : 0 < x) (x1 : x < nCells w h) : ∃ d, 0 ≤ nbr w h x d ∧ nbr w h x d < x := by
 have hk := ok_of_cell (by omega) x1
 have hw := gOk_iff.1 hk
 have hxy := cell_xy (by omega) x1
 by_cases hp : 0 < x % w
 ·refine ⟨3, ?_⟩
  unfold nbr
  rw [if_pos ⟨by omega, x1⟩]
  simp [hp]
  omega
 ·refine ⟨0, ?_⟩
  have hz : 0 < x / w := by
   by_cases hz : 0 < x / w
   ·exact hz
   ·have e : x / w = 0 := by omega
    rw [e] at hxy; omega
  have hge : w ≤ x := by
   have : x / w * w ≥ 1 * w := Int.mul_le_mul_of_nonneg_right (by omega) (by omega)
   omega
  unfold nbr
  rw [if_pos ⟨by omega, x1⟩]
  simp [hz]
  omega
theorem all_con {w h o : Int} (hall : ∀ g, gapIn w h g = true → Con w h o (ends w h g).1 (ends w h g).2) : ∀ (n : Nat) (x : Int), x = n → x < nCells w h → Con w h o x 0 := by
 intro n
 induction n using Nat.strongRecOn with
 | _ n ih =>
  intro x hx x1
  by_cases e : n = 0
  ·subst e; rw [hx]; exact Con.refl _ _ _ _
  ·obtain ⟨d, d0, d1⟩ := nbr_less (w := w) (h := h) (x := x) (by omega) x1
   obtain ⟨g1, g2⟩ := nbr_ends d0
   have hc := hall _ g1
   have hy := ih (nbr w h x d).toNat (by omega) (nbr w h x d) (by omega) (by omega)
   rcases g2 with e | e
   ·rw [e] at hc; exact hc.trans hy
   ·rw [e] at hc; exact hc.symm.trans hy
theorem numsTo_len : ∀ n, (numsTo n).length = n
 | 0 => rfl
 | n + 1 => by rw [show numsTo (n + 1) = numsTo n ++ [(n : Int)] from rfl, List.length_append, numsTo_len n]; rfl
theorem numsTo_mem {x : Int} : ∀ {n}, x ∈ numsTo n ↔ 0 ≤ x ∧ x < (n : Int)
 | 0 => by simp [numsTo]; try omega
 | n + 1 => by
  rw [show numsTo (n + 1) = numsTo n ++ [(n : Int)] from rfl, List.mem_append, numsTo_mem (n := n)]
  simp; omega
theorem upTo_loop (n : Nat) (hn : n ≤ 1000) (d : Nat) : ∀ (k i : Nat), i ≤ n → n - i ≤ d → d < k → impl_upTo.l0 k n (numsTo i) i = some (numsTo n) := by
 induction d with
 | zero =>
  intro k i hi hd hk
  obtain ⟨k, rfl⟩ : ∃ m, k = m + 1 := ⟨k - 1, by omega⟩
  obtain rfl : i = n := by omega
  simp only [impl_upTo.l0]; rw [if_neg (by omega)]
 | succ d ih =>
  intro k i hi hd hk
  obtain ⟨k, rfl⟩ : ∃ m, k = m + 1 := ⟨k - 1, by omega⟩
  simp only [impl_upTo.l0]
  by_cases e : i = n
  ·subst e; rw [if_neg (by omega)]
  ·rw [if_pos (by omega), if_pos (by rw [numsTo_len]; omega), w64_id (by omega) (by omega)]
   exact ih k (i + 1) (by omega) (by omega) (by omega)
theorem upTo_eq (n : Nat) (hn : n ≤ 1000) (k : Nat) (hk : n < k) : impl_upTo.f k n = some (numsTo n) := by
 unfold impl_upTo.f
 exact upTo_loop n hn n k 0 (by omega) (by omega) hk
def relab (L : List Int) (old new : Int) : List Int := L.map fun v => if v = old then new else v
theorem relab_len (L : List Int) (old new : Int) : (relab L old new).length = L.length := by unfold relab; simp
theorem relab_rd (L : List Int) (old new x : Int) (h0 : 0 ≤ x) (h1 : x < L.length) : rd (relab L old new) x = if rd L x = old then new else rd L x := by
 obtain ⟨n, rfl⟩ : ∃ n : Nat, x = n := ⟨x.toNat, by omega⟩
 rw [rd_mem _ n (by rw [relab_len]; omega), rd_mem L n (by omega)]
 unfold relab; simp
theorem rd_app (A B : List Int) (x : Nat) : rd (A ++ B) x = if x < A.length then rd A x else rd B ((x - A.length : Nat) : Int) := by
 unfold rd
 simp only [Int.toNat_natCast, List.getD_eq_getElem?_getD]
 by_cases hx : x < A.length
 ·rw [if_pos hx, List.getElem?_append_left hx]
 ·rw [if_neg hx, List.getElem?_append_right (by omega)]
theorem rd_drop (L : List Int) (i x : Nat) : rd (L.drop i) x = rd L ((i + x : Nat) : Int) := by
 unfold rd
 simp only [Int.toNat_natCast, List.getD_eq_getElem?_getD, List.getElem?_drop]
theorem rd_take (L : List Int) (i x : Nat) (h : x < i) : rd (L.take i) x = rd L x := by
 unfold rd
 simp only [Int.toNat_natCast, List.getD_eq_getElem?_getD, List.getElem?_take, if_pos h]
theorem mix_rd (L M : List Int) (hl : M.length = L.length) (i x : Nat) (hi : i ≤ L.length) : rd (M.take i ++ L.drop i) x = if x < i then rd M x else rd L x := by
 rw [rd_app, List.length_take, Nat.min_eq_left (by omega)]
 by_cases hx : x < i
 ·rw [if_pos hx, if_pos hx, rd_take _ _ _ hx]
 ·rw [if_neg hx, if_neg hx, rd_drop, show i + (x - i) = x by omega]
theorem mix_set (L M : List Int) (hl : M.length = L.length) (i : Nat) (hi : i < L.length) : (M.take i ++ L.drop i).set i (rd M i) = M.take (i + 1) ++ L.drop (i + 1) := by
 rw [List.set_append_right _ _ (by rw [List.length_take]; omega), List.length_take, Nat.min_eq_left (by omega), Nat.sub_self, List.drop_eq_getElem_cons hi, List.set_cons_zero, List.take_succ_eq_append_getElem (by omega : i < M.length), rd_mem M i (by omega)]
 simp only [List.append_assoc, List.cons_append, List.nil_append]
theorem mix_next (L M : List Int) (hl : M.length = L.length) (i : Nat) (hi : i < L.length) (he : rd M i = rd L i) : M.take i ++ L.drop i = M.take (i + 1) ++ L.drop (i + 1) := by
 rw [← mix_set L M hl i hi, he]
 symm
 have : rd (M.take i ++ L.drop i) i = rd L i := by rw [mix_rd L M hl i i (by omega), if_neg (by omega)]
 rw [← this, rd_mem _ i (by simp; omega), List.set_getElem_self]
theorem tree_l3 (L : List Int) (hL : L.length ≤ 1000) (a old n6 x9 x10 x11 i1 h1 w h p q o : Int) (l : List Int) (a0 : 0 ≤ a) (a1 : a < L.length) (hne : rd L a ≠ old) (d : Nat) : ∀ (m i : Nat), i + d = L.length →
  spec_l03Tree.l3 (m + d + 1) n6 ((relab L old (rd L a)).take i ++ L.drop i) x9 x10 x11 a old i l i1 h1 w h p q o = spec_l03Tree.l2 m n6 (relab L old (rd L a)) x9 x10 (wrap64 (x11 + 1)) l i1 h1 w h p q o := by
 induction d with
 | zero =>
  intro m i hi
  simp only [spec_l03Tree.l3]
  rw [if_neg (by simp [relab_len]; omega), List.take_of_length_le (by rw [relab_len]; omega), List.drop_of_length_le (by omega), List.append_nil]
 | succ d ih =>
  intro m i hi
  have hgo := ih m (i + 1) (by omega)
  have hlen : ((relab L old (rd L a)).take i ++ L.drop i).length = L.length := by simp [relab_len]; omega
  have hrl := relab_len L old (rd L a)
  have hra : rd ((relab L old (rd L a)).take i ++ L.drop i) a = rd L a := by
   obtain ⟨n, rfl⟩ : ∃ n : Nat, a = n := ⟨a.toNat, by omega⟩
   rw [mix_rd L _ hrl i n (by omega)]
   split
   ·rw [relab_rd L old _ n (by omega) (by omega), if_neg hne]
   ·rfl
  have hri : rd ((relab L old (rd L a)).take i ++ L.drop i) i = rd L i := by
   rw [mix_rd L _ hrl i i (by omega), if_neg (by omega)]
  have hrr := relab_rd L old (rd L a) i (by omega) (by omega)
  rw [show m + (d + 1) + 1 = (m + d + 1) + 1 by omega]
  generalize m + d + 1 = M at hgo ⊢
  simp only [spec_l03Tree.l3]
  rw [hlen, hra, hri, if_pos (by omega), if_pos (by omega), w64_id (x := (i : Int) + 1) (by omega) (by omega)]
  rw [show ((i + 1 : Nat) : Int) = (i : Int) + 1 by omega] at hgo
  by_cases he : rd L i = old
  ·rw [if_pos he, if_pos a0, if_pos a1]
   rw [if_pos he] at hrr
   have := mix_set L _ hrl i (by omega)
   rw [hrr] at this
   rw [Int.toNat_natCast, this]; exact hgo
  ·rw [if_neg he]
   rw [if_neg he] at hrr
   rw [mix_next L _ hrl i (by omega) hrr]; exact hgo
theorem or_setG {o g : Int} (ho : 0 ≤ o) (ho2 : o < 16777216) (h0 : 0 ≤ g) (h1 : g ≤ 24) : Go.bits .or .i64 o (shl .i64 1 g) = setG o g true := by
 have hp : (2 : Nat) ^ g.toNat ≤ 16777216 := by
  have := Nat.pow_le_pow_right (n := 2) (by omega) (show g.toNat ≤ 24 by omega)
  omega
 rw [shl_one h0 (by omega), show o = ((o.toNat : Nat) : Int) by omega, show (2 : Int) ^ g.toNat = ((2 ^ g.toNat : Nat) : Int) by norm_cast, bits_or_nat (by omega) (by omega)]
 unfold setG bitAt
 simp only [Int.toNat_natCast]
 by_cases hb : o.toNat.testBit g.toNat = true
 ·rw [if_pos hb]
  congr 1
  apply Nat.eq_of_testBit_eq
  intro i
  rw [Nat.testBit_or, Nat.testBit_two_pow]
  by_cases e : g.toNat = i
  ·rw [← e, hb]; simp
  ·simp [e]
 ·rw [if_neg hb]
  congr 1
  apply Nat.eq_of_testBit_eq
  intro i
  rw [Nat.testBit_or, Nat.testBit_xor, Nat.testBit_two_pow]
  by_cases e : g.toNat = i
  ·rw [← e]; simp at hb; simp [hb]
  ·simp [e]
theorem pcnt_on {w h o g : Int} (hm : mOk w h o = true) (hg : gapIn w h g = true) (hb : bitAt o g = false) : pcnt w h (setG o g true) = pcnt w h o + 1 := by
 obtain ⟨g0, g1⟩ := gapIn_iff.1 hg
 have hm' := mOk_setG (b := true) hm hg
 unfold pcnt
 rw [if_pos hm, if_pos hm', pcN_bits (setG o g true).toNat o.toNat g.toNat ?_ hb ?_, if_pos (by omega)]
 ·omega
 ·have := bit_setG (o := o) (b := true) g g0 g0
  rw [if_pos rfl] at this; exact this
 ·intro i hi
  have := bit_setG (o := o) (b := true) (i : Int) g0 (by omega)
  rw [if_neg (by omega)] at this
  unfold bitAt at this
  simpa using this.symm
theorem loops_join {w h o g : Int} (hm : mOk w h o = true) (hg : gapIn w h g = true) (hc : ¬ Con w h o (ends w h g).1 (ends w h g).2) : loopsZ w h (setG o g true) = loopsZ w h o := by
 have hb : bitAt o g = false := by
  cases hq : bitAt o g with
  | false => rfl
  | true => exact absurd (con_gap hm hg hq) hc
 have h1 := pcnt_on hm hg hb
 have h2 := parts_join hm (mOk_setG hm hg) hg (bits_on hg) hc
 unfold loopsZ; omega
theorem con_on {w h o g x y : Int} (hm : mOk w h o = true) (hg : gapIn w h g = true) (hc : Con w h o x y) : Con w h (setG o g true) x y :=
 Con.mono (mOk_setG hm hg) (fun i hi hb => (bits_on hg i hi).2 (.inl hb)) hc
structure TI (w h o : Int) (L : List Int) : Prop where
 ok : mOk w h o = true
 len : (L.length : Int) = nCells w h
 lab : ∀ x y : Int, 0 ≤ x → x < nCells w h → 0 ≤ y → y < nCells w h → (rd L x = rd L y ↔ Con w h o x y)
 tree : loopsZ w h o = 0
theorem TI.join {w h o g : Int} {L : List Int} (hT : TI w h o L) (hg : gapIn w h g = true) (hne : rd L (ends w h g).1 ≠ rd L (ends w h g).2) : TI w h (setG o g true) (relab L (rd L (ends w h g).2) (rd L (ends w h g).1)) := by
 obtain ⟨⟨p, q, r⟩, _⟩ := ends_nbr hg
 have hnc : ¬ Con w h o (ends w h g).1 (ends w h g).2 := fun hc => hne ((hT.lab _ _ p (by omega) (by omega) r).2 hc)
 have hlen := hT.len
 refine ⟨mOk_setG hT.ok hg, by rw [relab_len]; exact hlen, fun x y x0 x1 y0 y1 => ?_, by rw [loops_join hT.ok hg hnc]; exact hT.tree⟩
 rw [con_add hT.ok (mOk_setG hT.ok hg) hg (bits_on hg), ← hT.lab x y x0 x1 y0 y1, ← hT.lab x _ x0 x1 p (by omega), ← hT.lab _ y (by omega) r y0 y1, ← hT.lab x _ x0 x1 (by omega) r, ← hT.lab _ y p (by omega) y0 y1, relab_rd L _ _ x x0 (by omega), relab_rd L _ _ y y0 (by omega)]
 generalize rd L x = X at *
 generalize rd L y = Y at *
 generalize rd L (ends w h g).1 = A at *
 generalize rd L (ends w h g).2 = B at *
 clear hT hg hnc hlen p q r x0 x1 y0 y1
 by_cases e1 : X = B
 ·by_cases e2 : Y = B
  ·rw [if_pos e1, if_pos e2]; subst e1; subst e2; simp
  ·rw [if_pos e1, if_neg e2]; subst e1
   constructor
   ·intro hh; exact .inr (.inr ⟨rfl, hh⟩)
   ·rintro (hh | ⟨hh, _⟩ | ⟨_, hh⟩)
    ·exact absurd hh.symm e2
    ·exact absurd hh.symm hne
    ·exact hh
 ·by_cases e2 : Y = B
  ·rw [if_neg e1, if_pos e2]; subst e2
   constructor
   ·intro hh; exact .inr (.inl ⟨hh, rfl⟩)
   ·rintro (hh | ⟨hh, _⟩ | ⟨hh, _⟩)
    ·exact absurd hh e1
    ·exact hh
    ·exact absurd hh e1
  ·rw [if_neg e1, if_neg e2]
   constructor
   ·intro hh; exact .inl hh
   ·rintro (hh | ⟨_, hh⟩ | ⟨hh, _⟩)
    ·exact hh
    ·exact absurd hh.symm e2
    ·exact absurd hh e1
def gapNo (first step n : Int) (i : Nat) : Int := (first + i * step) % n
theorem tree_l2 {w h : Int} (hk : gOk w h = true) (hn : 0 < nGaps w h) (first step i1 h1 : Int) (l : List Int) (f0 : 0 ≤ first) (f1 : first < nGaps w h) (s0 : 0 ≤ step) (s1 : step ≤ 100) (d : Nat) : ∀ (k j : Nat) (o : Int) (L : List Int), (j : Int) + d = nGaps w h → 20 * d + 20 ≤ k → TI w h o L → (∀ i : Nat, i < j → Con w h o (ends w h (gapNo first step (nGaps w h) i)).1 (ends w h (gapNo first step (nGaps w h) i)).2) →
  ∃ o', spec_l03Tree.l2 k (nGaps w h) L first step j l i1 h1 w h w h o = some (w, h, o', i1, h1) ∧ mOk w h o' = true ∧ loopsZ w h o' = 0 ∧ ∀ i : Nat, (i : Int) < nGaps w h → Con w h o' (ends w h (gapNo first step (nGaps w h) i)).1 (ends w h (gapNo first step (nGaps w h) i)).2 := by
 have hb := nGaps_bd w h
 have hnc := nCells_bd w h
 induction d with
 | zero =>
  intro k j o L hj hk2 hT hD
  obtain ⟨k, rfl⟩ : ∃ m, k = m + 1 := ⟨k - 1, by omega⟩
  refine ⟨o, ?_, hT.ok, hT.tree, fun i hi => hD i (by omega)⟩
  simp only [spec_l03Tree.l2]; rw [if_neg (by omega)]
 | succ d ih =>
  intro k j o L hj hk2 hT hD
  obtain ⟨k, rfl⟩ : ∃ m, k = m + 1 := ⟨k - 1, by omega⟩
  have hjs : 0 ≤ (j : Int) * step ∧ (j : Int) * step ≤ 2400 := ⟨Int.mul_nonneg (by omega) s0, by
   have := Int.mul_le_mul (show (j : Int) ≤ 24 by omega) s1 s0 (by omega); omega⟩
  have hgn : Int.tmod (wrap64 (first + (wrap64 ((j : Int) * step)))) (nGaps w h) = gapNo first step (nGaps w h) j := by
   rw [w64_id (x := (j : Int) * step) (by omega) (by omega), w64_id (by omega) (by omega), Int.tmod_eq_emod_of_nonneg (by omega)]; rfl
  have hg0 : 0 ≤ gapNo first step (nGaps w h) j := Int.emod_nonneg _ (by omega)
  have hg1 : gapNo first step (nGaps w h) j < nGaps w h := Int.emod_lt_of_pos _ hn
  have hgi : gapIn w h (gapNo first step (nGaps w h) j) = true := gapIn_iff.2 ⟨hg0, hg1⟩
  have hbo := mOk_bd hT.ok
  have hor := or_setG (o := o) (g := gapNo first step (nGaps w h) j) hbo.1 hbo.2 hg0 (by omega)
  obtain ⟨⟨p, q, r⟩, _⟩ := ends_nbr hgi
  have hlen := hT.len
  have hlab := hT.lab (ends w h (gapNo first step (nGaps w h) j)).1 (ends w h (gapNo first step (nGaps w h) j)).2 p (by omega) (by omega) r
  have hjoin := fun hne => TI.join (g := gapNo first step (nGaps w h) j) hT hgi hne
  have hl3 := fun a1 hne m => tree_l3 L (by omega) (ends w h (gapNo first step (nGaps w h) j)).1 (rd L (ends w h (gapNo first step (nGaps w h) j)).2) (nGaps w h) first step j i1 h1 w h w h (setG o (gapNo first step (nGaps w h) j) true) l p a1 hne L.length m 0 (by omega)
  have hcon : ∀ x y, Con w h o x y → Con w h (setG o (gapNo first step (nGaps w h) j) true) x y := fun x y hc => con_on hT.ok hgi hc
  have hcg : Con w h (setG o (gapNo first step (nGaps w h) j) true) (ends w h (gapNo first step (nGaps w h) j)).1 (ends w h (gapNo first step (nGaps w h) j)).2 := con_gap (mOk_setG hT.ok hgi) hgi ((bits_on hgi _ hgi).2 (.inr rfl))
  simp only [spec_l03Tree.l2]
  rw [if_pos (by omega), if_neg (by omega), hgn, spec_EndsOf_eq, w64_id (x := (j : Int) + 1) (by omega) (by omega)]
  simp only [Option.bind_some]
  rw [if_pos p, if_pos (by omega), if_pos (by omega), if_pos (by omega), hor]
  by_cases he : rd L (ends w h (gapNo first step (nGaps w h) j)).1 = rd L (ends w h (gapNo first step (nGaps w h) j)).2
  ·rw [if_pos he]
   refine ih k (j + 1) o L (by omega) (by omega) hT (fun i hi => ?_)
   by_cases e : i = j
   ·rw [e]; exact hlab.1 he
   ·exact hD i (by omega)
  ·rw [if_neg he, if_pos hg0]
   obtain ⟨m, hm⟩ : ∃ m, k = m + L.length + 1 := ⟨k - L.length - 1, by omega⟩
   have h3 := hl3 (by omega) he m
   rw [List.take_zero, List.nil_append, List.drop_zero, ← hm, w64_id (x := (j : Int) + 1) (by omega) (by omega)] at h3
   rw [show (0 : Int) = ((0 : Nat) : Int) from rfl, h3]
   refine ih m (j + 1) _ _ (by omega) (by omega) (hjoin he) (fun i hi => ?_)
   by_cases e : i = j
   ·rw [e]; exact hcg
   ·exact hcon _ _ (hD i (by omega))
theorem common_all : ((List.range 25).all fun n => (List.range 26).all fun s => n == 0 || s == 0 || (spec_l03Common.f 40 (s : Int) (n : Int) == some (decide (1 < Nat.gcd s n)))) = true := by decide +kernel
theorem common_k (k : Nat) (a b : Int) (r : Bool) (h40 : spec_l03Common.f 40 a b = some r) : spec_l03Common.f (40 + k) a b = some r := by
 induction k with
 | zero => exact h40
 | succ k ih => exact spec_l03Common.mono a b (40 + k) r ih
theorem common_eq (k n s : Nat) (hk : 40 ≤ k) (n0 : 0 < n) (n1 : n ≤ 24) (s0 : 0 < s) (s1 : s ≤ 25) : spec_l03Common.f k s n = some (decide (1 < Nat.gcd s n)) := by
 obtain ⟨k, rfl⟩ : ∃ m, k = 40 + m := ⟨k - 40, by omega⟩
 refine common_k k s n _ ?_
 have := List.all_eq_true.1 (List.all_eq_true.1 common_all n (List.mem_range.2 (by omega))) s (List.mem_range.2 (by omega))
 simp only [Bool.or_eq_true, beq_iff_eq] at this
 rcases this with (h | h) | h
 ·omega
 ·omega
 ·exact h
theorem cover_all : ((List.range 25).all fun n => (List.range 26).all fun s => decide (1 < Nat.gcd s n) || ((List.range n).all fun g => (List.range n).any fun i => i * s % n == g)) = true := by decide +kernel
theorem cover {n s : Nat} (n1 : n ≤ 24) (s1 : s ≤ 25) (hg : ¬ 1 < Nat.gcd s n) {first g : Int} (f0 : 0 ≤ first) (f1 : first < n) (g0 : 0 ≤ g) (g1 : g < n) : ∃ i : Nat, i < n ∧ gapNo first s n i = g := by
 have h1 := List.all_eq_true.1 (List.all_eq_true.1 cover_all n (List.mem_range.2 (by omega))) s (List.mem_range.2 (by omega))
 simp only [Bool.or_eq_true, decide_eq_true_eq] at h1
 rcases h1 with h1 | h1
 ·exact absurd h1 hg
 ·have hd0 : 0 ≤ (g - first) % n := Int.emod_nonneg _ (by omega)
  have hd1 : (g - first) % n < n := Int.emod_lt_of_pos _ (by omega)
  obtain ⟨i, hi, hie⟩ := List.any_eq_true.1 (List.all_eq_true.1 h1 ((g - first) % n).toNat (List.mem_range.2 (by omega)))
  refine ⟨i, List.mem_range.1 hi, ?_⟩
  have he : i * s % n = ((g - first) % n).toNat := by simpa using hie
  have he' : (i : Int) * (s : Int) % (n : Int) = (g - first) % n := by
   have : ((i * s % n : Nat) : Int) = (((g - first) % n).toNat : Int) := by rw [he]
   rw [Int.toNat_of_nonneg hd0] at this
   rw [← this]; push_cast; rfl
  unfold gapNo
  rw [Int.add_emod, he', ← Int.add_emod, show first + (g - first) = g by omega, Int.emod_eq_of_lt g0 g1]
theorem tree_l1 {n : Nat} (n0 : 0 < n) (n1 : n ≤ 24) (L l : List Int) (first i1 h1 w h p q o : Int) (d : Nat) : ∀ (k s : Nat), s + d = n + 1 → 0 < s → d + 50 ≤ k → ∃ m s' : Nat, k ≤ m + d + 1 ∧ 0 < s' ∧ s' ≤ n + 1 ∧ ¬ 1 < Nat.gcd s' n ∧ spec_l03Tree.l1 k n L first s l i1 h1 w h p q o = spec_l03Tree.l2 m n L first s' 0 l i1 h1 w h p q o := by
 induction d with
 | zero =>
  intro k s hs s0 hk
  obtain ⟨k, rfl⟩ : ∃ m, k = m + 1 := ⟨k - 1, by omega⟩
  have hg : ¬ 1 < Nat.gcd s n := by
   rw [show s = n + 1 by omega]; simp
  refine ⟨k, s, by omega, s0, by omega, hg, ?_⟩
  have hc := common_eq k n s (by omega) n0 n1 s0 (by omega)
  simp only [spec_l03Tree.l1]
  rw [hc]; simp [hg]
 | succ d ih =>
  intro k s hs s0 hk
  obtain ⟨k, rfl⟩ : ∃ m, k = m + 1 := ⟨k - 1, by omega⟩
  have hc := common_eq k n s (by omega) n0 n1 s0 (by omega)
  by_cases hg : 1 < Nat.gcd s n
  ·obtain ⟨m, s', m1, m2, m3, m4, m5⟩ := ih k (s + 1) (by omega) (by omega) (by omega)
   refine ⟨m, s', by omega, m2, m3, m4, ?_⟩
   simp only [spec_l03Tree.l1]
   rw [hc]
   simp only [Option.bind_some, decide_eq_true hg, if_true]
   rw [w64_id (by omega) (by omega), show (s : Int) + 1 = ((s + 1 : Nat) : Int) by omega]
   exact m5
  ·refine ⟨k, s, by omega, s0, by omega, hg, ?_⟩
   simp only [spec_l03Tree.l1]
   rw [hc]; simp [hg]
theorem numsTo_rd {n : Nat} {x : Int} (x0 : 0 ≤ x) (x1 : x < n) : rd (numsTo n) x = x := by
 induction n with
 | zero => omega
 | succ n ih =>
  obtain ⟨i, rfl⟩ : ∃ i : Nat, x = i := ⟨x.toNat, by omega⟩
  rw [show numsTo (n + 1) = numsTo n ++ [(n : Int)] from rfl, rd_app, numsTo_len]
  by_cases hi : i < n
  ·rw [if_pos hi]; exact ih (by omega)
  ·rw [if_neg hi, show i = n by omega, Nat.sub_self]; rfl
theorem tree_l0 (n : Nat) (hn : n ≤ 1000) (n6 i1 h1 w h p q o : Int) (l : List Int) (d : Nat) : ∀ (m i : Nat), i + d = n → spec_l03Tree.l0 (m + d + 1) n6 ((numsTo n).take i ++ (List.replicate n (0 : Int)).drop i) i l i1 h1 w h p q o = spec_l03Tree.l0 (m + 1) n6 (numsTo n) n l i1 h1 w h p q o := by
 induction d with
 | zero =>
  intro m i hi
  rw [List.take_of_length_le (by rw [numsTo_len]; omega), List.drop_of_length_le (by simp; omega), List.append_nil, show i = n by omega]
 | succ d ih =>
  intro m i hi
  have hgo := ih m (i + 1) (by omega)
  have hlen : ((numsTo n).take i ++ (List.replicate n (0 : Int)).drop i).length = n := by simp [numsTo_len]; omega
  have hs := mix_set (List.replicate n (0 : Int)) (numsTo n) (by simp [numsTo_len]) i (by simp; omega)
  rw [numsTo_rd (by omega) (by omega)] at hs
  rw [show m + (d + 1) + 1 = (m + d + 1) + 1 by omega]
  generalize m + d + 1 = M at hgo ⊢
  simp only [spec_l03Tree.l0]
  rw [hlen, if_pos (by omega), if_pos (by omega), w64_id (x := (i : Int) + 1) (by omega) (by omega), Int.toNat_natCast, hs]
  rw [show ((i + 1 : Nat) : Int) = (i : Int) + 1 by omega] at hgo
  rw [hgo]
  simp only [spec_l03Tree.l0]
theorem mOk_zero {w h : Int} (hk : gOk w h = true) : mOk w h 0 = true := by
 refine mOk_iff.2 ⟨hk, by omega, ?_⟩
 have : 0 < (2 : Nat) ^ (nGaps w h).toNat := Nat.pow_pos (by omega)
 exact_mod_cast this
theorem l03Tree_tot (l : List Int) (hl : l.length ≤ 140737488351232) (i h0 : Int) (hi : 0 ≤ i) {w h : Int} (hk : gOk w h = true) (k : Nat) (hk2 : 2000 ≤ k) : ∃ o i' h', spec_l03Tree.f k l i h0 w h = some (w, h, o, i', h') ∧ mOk w h o = true ∧ loopsZ w h o = 0 ∧ partsN w h o = 1 ∧ 0 ≤ i' := by
 have hn := nCells_bd w h
 have hb := nGaps_bd w h
 unfold spec_l03Tree.f
 rw [spec_CountGaps_eq, spec_CountCells_eq]
 simp only [Option.bind_some]
 rw [if_pos hn.1, if_pos (by omega)]
 obtain ⟨m, hm⟩ : ∃ m, k = m + (nCells w h).toNat + 1 := ⟨k - (nCells w h).toNat - 1, by omega⟩
 have hfill := tree_l0 (nCells w h).toNat (by omega) (nGaps w h) i h0 w h w h 0 l (nCells w h).toNat m 0 (by omega)
 rw [List.take_zero, List.nil_append, List.drop_zero, ← hm] at hfill
 rw [show ((0 : Nat) : Int) = 0 from rfl] at hfill
 rw [hfill]
 have hT : TI w h 0 (numsTo (nCells w h).toNat) := by
  refine ⟨mOk_zero hk, by rw [numsTo_len]; omega, fun x y x0 x1 y0 y1 => ?_, loops_zero⟩
  rw [numsTo_rd x0 (by omega), numsTo_rd y0 (by omega), con_zero]
 have hstep : spec_l03Tree.l0 (m + 1) (nGaps w h) (numsTo (nCells w h).toNat) ((nCells w h).toNat : Nat) l i h0 w h w h 0 = (if nGaps w h = 0 then (some (w, h, 0, i, h0)) else ((spec_l01Below.f l i h0 (nGaps w h)).bind fun bt576 => ((spec_l01Below.f l bt576.2.1 bt576.2.2 (nGaps w h)).bind fun bt579 => (spec_l03Tree.l1 m (nGaps w h) (numsTo (nCells w h).toNat) bt576.1 (wrap64 (1 + bt579.1)) l bt579.2.1 bt579.2.2 w h w h 0)))) := by
  simp only [spec_l03Tree.l0]
  rw [numsTo_len, if_neg (by omega)]
 rw [hstep]
 have hfin : ∀ o, mOk w h o = true → (∀ g, gapIn w h g = true → Con w h o (ends w h g).1 (ends w h g).2) → partsN w h o = 1 := fun o ho hall => (parts_one o hk).2 fun x x0 x1 => all_con hall x.toNat x (by omega) x1
 by_cases hz : nGaps w h = 0
 ·rw [if_pos hz]
  exact ⟨0, i, h0, rfl, hT.ok, hT.tree, hfin 0 hT.ok (fun g hg => by have := gapIn_iff.1 hg; omega), hi⟩
 ·rw [if_neg hz]
  obtain ⟨first, i1, h1, e1, f0, f1, _, i10⟩ := l01Below_tot l hl i h0 (nGaps w h) hi
  have f1 := f1 (by omega)
  rw [e1]; simp only [Option.bind_some]
  obtain ⟨st, i2, h2, e2, s0, s1, _, i20⟩ := l01Below_tot l hl i1 h1 (nGaps w h) i10
  have s1 := s1 (by omega)
  rw [e2]; simp only [Option.bind_some]
  obtain ⟨n, hnn⟩ : ∃ n : Nat, nGaps w h = n := ⟨(nGaps w h).toNat, by omega⟩
  rw [w64_id (by omega) (by omega), hnn, show 1 + st = (((1 + st).toNat : Nat) : Int) by omega]
  obtain ⟨m', s', m1, m2, m3, m4, m5⟩ := tree_l1 (n := n) (by omega) (by omega) (numsTo (nCells w h).toNat) l first i2 h2 w h w h 0 (n + 1 - (1 + st).toNat) m (1 + st).toNat (by omega) (by omega) (by omega)
  rw [m5]
  obtain ⟨o', q1, q2, q3, q4⟩ := tree_l2 hk (by omega) first s' i2 h2 l f0 f1 (by omega) (by omega) n m' 0 0 (numsTo (nCells w h).toNat) (by omega) (by omega) hT (fun i hi => absurd hi (by omega))
  rw [hnn] at q1 q4
  refine ⟨o', i2, h2, q1, q2, q3, hfin o' q2 (fun g hg => ?_), i20⟩
  obtain ⟨g0, g1⟩ := gapIn_iff.1 hg
  obtain ⟨ii, ii1, ii2⟩ := cover (n := n) (s := s') (by omega) (by omega) m4 f0 (by omega) g0 (by omega)
  have := q4 ii (by omega)
  rw [ii2] at this; exact this
theorem waysL_mem {w h o c d : Int} (hd : d ∈ waysL w h o c) : 0 ≤ stp w h o c d ∧ 0 ≤ d ∧ d ≤ 3 := by
 unfold waysL at hd
 obtain ⟨a, b⟩ := List.mem_filter.1 hd
 have hs : 0 ≤ stp w h o c d := by simpa using b
 exact ⟨hs, (stp_bd hs).2.2.1⟩
theorem has_tot (l : List Int) (hl : l.length ≤ 1000) (x : Int) (d : Nat) : ∀ (k i : Nat), l.length - i ≤ d → d < k → i ≤ l.length → laws_has.l0 k l x i = some (decide (x ∈ l.drop i)) := by
 induction d with
 | zero =>
  intro k i hd hk hi
  obtain ⟨k, rfl⟩ : ∃ m, k = m + 1 := ⟨k - 1, by omega⟩
  simp only [laws_has.l0]
  rw [if_neg (by omega), List.drop_of_length_le (by omega)]; simp
 | succ d ih =>
  intro k i hd hk hi
  obtain ⟨k, rfl⟩ : ∃ m, k = m + 1 := ⟨k - 1, by omega⟩
  simp only [laws_has.l0]
  by_cases hlt : i < l.length
  ·rw [if_pos (by omega), if_pos (by omega), w64_id (by omega) (by omega), List.drop_eq_getElem_cons hlt, rd_mem l i hlt]
   have hgo := ih k (i + 1) (by omega) (by omega) (by omega)
   by_cases e : l[i] = x
   ·rw [if_pos e]; simp [e]
   ·rw [if_neg e, show (i : Int) + 1 = ((i + 1 : Nat) : Int) by omega, hgo]
    congr 1
    rw [decide_eq_decide, List.mem_cons]
    exact ⟨.inr, fun hh => hh.resolve_left (fun q => e q.symm)⟩
  ·rw [if_neg (by omega), List.drop_of_length_le (by omega)]; simp
theorem has_eq2 (l : List Int) (hl : l.length ≤ 1000) (x : Int) (k : Nat) (hk : 1000 < k) : laws_has.f k l x = some (decide (x ∈ l)) := by
 unfold laws_has.f
 have := has_tot l hl x l.length k 0 (by omega) (by omega) (by omega)
 rw [List.drop_zero] at this; exact this
def cellsP (w h o : Int) (p : List Int → Bool) : List Int := if mOk w h o = true then (numsTo (nCells w h).toNat).filter fun x => p (waysL w h o x) else []
theorem impl_Ways_k (w h o c : Int) (k : Nat) (hk : 8 ≤ k) : impl_WaysFrom.f k w h o c = some (waysL w h o c) := by
 have := impl_WaysFrom_eq (k - 8) w h o c
 rw [show k - 8 + 8 = k by omega] at this; exact this
theorem cells_with_eq (p : List Int → Bool) (w h o : Int) (k : Nat) (hk : 40 ≤ k) : cells_with p k w h o = some (cellsP w h o p) := by
 have hn := nCells_bd w h
 unfold cells_with cellsP
 rw [impl_MazeOk_eq, impl_CountCells_eq]
 simp only [Option.bind_some]
 by_cases hm : mOk w h o = true
 ·rw [if_pos hm, if_pos hm, show nCells w h = ((nCells w h).toNat : Int) by omega, upTo_eq _ (by omega) k (by omega)]
  simp only [Option.bind_some]
  rw [if_pos (List.all_eq_true.2 fun x _ => by rw [impl_Ways_k w h o x k (by omega)]; rfl)]
  congr 1
  refine List.filter_congr fun x _ => ?_
  rw [impl_Ways_k w h o x k (by omega)]; simp
 ·rw [if_neg hm, if_neg hm]
theorem cellsP_len (w h o : Int) (p : List Int → Bool) : (cellsP w h o p).length ≤ 16 := by
 have hn := nCells_bd w h
 unfold cellsP
 split
 ·exact Nat.le_trans (List.length_filter_le _ _) (by rw [numsTo_len]; omega)
 ·simp
theorem filter_next (q : Int → Bool) (i : Nat) : (numsTo (i + 1)).filter q = if q i = true then (numsTo i).filter q ++ [(i : Int)] else (numsTo i).filter q := by
 rw [show numsTo (i + 1) = numsTo i ++ [(i : Int)] from rfl, List.filter_append]
 cases hq : q i <;> simp [hq]
theorem impl_DeadEnds_eq (w h o : Int) (k : Nat) (hk : 40 ≤ k) : impl_DeadEnds.f k w h o = some (cellsP w h o fun l => ((l.length : Int) == 1)) := cells_with_eq _ w h o k hk
theorem impl_Junctions_eq (w h o : Int) (k : Nat) (hk : 40 ≤ k) : impl_Junctions.f k w h o = some (cellsP w h o fun l => decide ((l.length : Int) ≥ 3)) := cells_with_eq _ w h o k hk
def strB (l : List Int) : Bool := if ((l.length : Int) == 2) = true then (rd l 1 == wrap64 (rd l 0 + 2)) else false
def brSum (w h o : Int) : Nat → Int
 | 0 => 0
 | n + 1 => brSum w h o n + (if ((waysL w h o n).length : Int) > 0 then ((waysL w h o n).length : Int) - 2 else 0)
theorem brSum_bd (w h o : Int) : ∀ n : Nat, -(n : Int) ≤ brSum w h o n ∧ brSum w h o n ≤ 2 * (n : Int)
 | 0 => by simp [brSum]
 | n + 1 => by
  have := brSum_bd w h o n
  have h4 := waysL_len w h o n
  simp only [brSum]
  split <;> omega
theorem branch_app (k : Nat) (w h o : Int) : ∀ (a b : List Int) (n : Int), branch_go k w h o (a ++ b) n = (branch_go k w h o a n).bind fun m => branch_go k w h o b m
 | [], _, _ => rfl
 | x :: a, b, n => by
  simp only [List.cons_append, branch_go]
  cases impl_WaysFrom.f k w h o x with
  | none => rfl
  | some y => exact branch_app k w h o a b _
theorem branch_eq (w h o : Int) (k : Nat) (hk : 8 ≤ k) : ∀ n : Nat, n ≤ 1000 → branch_go k w h o ((numsTo n).filter fun x => decide (((waysL w h o x).length : Int) > 0)) 0 = some (brSum w h o n)
 | 0, _ => rfl
 | n + 1, hn => by
  have ih := branch_eq w h o k hk n (by omega)
  have hb := brSum_bd w h o n
  have h4 := waysL_len w h o n
  rw [filter_next]
  by_cases h1 : ((waysL w h o n).length : Int) > 0
  ·rw [if_pos (by simpa using h1), branch_app, ih]
   simp only [Option.bind_some, branch_go]
   rw [impl_Ways_k w h o n k hk]
   simp only [Option.bind_some, brSum]
   rw [if_pos h1, w64_id (x := ((waysL w h o n).length : Int) - 2) (by omega) (by omega), w64_id (by omega) (by omega)]
  ·rw [if_neg (by simpa using h1), ih]
   simp only [brSum]; rw [if_neg h1, Int.add_zero]
def branchV (w h o : Int) : Int := if mOk w h o = true then brSum w h o (nCells w h).toNat else 0
theorem impl_BranchSum_eq (w h o : Int) (k : Nat) (hk : 40 ≤ k) : impl_BranchSum.f k w h o = some (branchV w h o) := by
 have hn := nCells_bd w h
 unfold impl_BranchSum.f branchV
 rw [cells_with_eq _ w h o k hk]
 simp only [Option.bind_some]
 unfold cellsP
 by_cases hm : mOk w h o = true
 ·rw [if_pos hm, if_pos hm]
  exact branch_eq w h o k (by omega) _ (by omega)
 ·rw [if_neg hm, if_neg hm]; rfl
def hor (a : Nat) (l : List UInt8) : Nat := l.foldl (fun a c => 10 * a + (c.toNat - 48)) a
def dirB (w h c d e : Int) : Bool := decide (nbr w h c d < 0) || decide (nbr w h c e < 0) || decide (gapAt w h c d ≠ gapAt w h c e) || decide (d = e)
theorem dir_all {w h : Int} (hk : gOk w h = true) (c d e : Nat) (hc : c < 16) (hd : d < 4) (he : e < 4) : dirB w h c d e = true := by
 have h16 : ∀ c : Fin 16, ∀ d e : Fin 4, dirB w h c.val d.val e.val = true := by
  obtain ⟨hw, hh⟩ := gOk_cases hk
  rcases hw with rfl | rfl | rfl | rfl <;> rcases hh with rfl | rfl | rfl | rfl <;> decide +kernel
 exact h16 ⟨c, hc⟩ ⟨d, hd⟩ ⟨e, he⟩
theorem dir_uniq {w h c d e : Int} (h1 : 0 ≤ nbr w h c d) (h2 : 0 ≤ nbr w h c e) (hg : gapAt w h c d = gapAt w h c e) : d = e := by
 obtain ⟨⟨c0, c1⟩, hd⟩ := nbr_cases h1
 obtain ⟨_, he⟩ := nbr_cases h2
 have hk := ok_of_cell c0 c1
 have hb := nCells_bd w h
 have hd' : 0 ≤ d ∧ d ≤ 3 := by rcases hd with h | h | h | h <;> omega
 have he' : 0 ≤ e ∧ e ≤ 3 := by rcases he with h | h | h | h <;> omega
 obtain ⟨c, rfl⟩ := Int.eq_ofNat_of_zero_le c0
 obtain ⟨d, rfl⟩ := Int.eq_ofNat_of_zero_le hd'.1
 obtain ⟨e, rfl⟩ := Int.eq_ofNat_of_zero_le he'.1
 have := dir_all hk c d e (by omega) (by omega) (by omega)
 unfold dirB at this
 simp only [Bool.or_eq_true, decide_eq_true_eq] at this
 rcases this with ((h | h) | h) | h
 ·omega
 ·omega
 ·exact absurd hg h
 ·exact h
theorem gap_same {w h c d x e : Int} (h1 : 0 ≤ nbr w h c d) (h2 : 0 ≤ nbr w h x e) : gapAt w h x e = gapAt w h c d ↔ (x = c ∧ e = d) ∨ (x = nbr w h c d ∧ e = opp d) := by
 have hb := nbr_back h1
 obtain ⟨⟨c0, _⟩, _⟩ := nbr_cases h1
 constructor
 ·intro hg
  have e1 := (nbr_ends h1).2
  have e2 := (nbr_ends h2).2
  rw [hg] at e2
  have hx : x = c ∨ x = nbr w h c d := by
   rcases e1 with p | p <;> rcases e2 with q | q <;> rw [p] at q <;> have q1 := congrArg Prod.fst q <;> have q2 := congrArg Prod.snd q <;> simp only at q1 q2 <;> omega
  rcases hx with rfl | rfl
  ·exact .inl ⟨rfl, dir_uniq h2 h1 hg⟩
  ·exact .inr ⟨rfl, dir_uniq h2 (by rw [hb.1]; exact c0) (by rw [hg, hb.2])⟩
 ·rintro (⟨rfl, rfl⟩ | ⟨rfl, rfl⟩)
  ·rfl
  ·exact hb.2
theorem stp_off {w h o c d x e : Int} (hs : 0 ≤ stp w h o c d) : 0 ≤ stp w h (setG o (gapAt w h c d) false) x e ↔ 0 ≤ stp w h o x e ∧ ¬ (x = c ∧ e = d) ∧ ¬ (x = stp w h o c d ∧ e = opp d) := by
 have hm := (stp_bd hs).1
 have hn := (stp_bd hs).2.2.2.2
 have h1 : 0 ≤ nbr w h c d := by rw [← hn]; exact hs
 have hg := (nbr_ends h1).1
 have g0 := (gapIn_iff.1 hg).1
 rw [stp_iff, stp_iff, hn]
 constructor
 ·rintro ⟨_, a, b⟩
  have p0 := gapAt_nonneg.2 a
  rw [bit_setG _ g0 p0] at b
  by_cases q : gapAt w h x e = gapAt w h c d
  ·rw [if_pos q] at b; exact absurd b (by decide)
  ·rw [if_neg q] at b
   exact ⟨⟨hm, a, b⟩, fun z => q ((gap_same h1 a).2 (.inl z)), fun z => q ((gap_same h1 a).2 (.inr z))⟩
 ·rintro ⟨⟨_, a, b⟩, z1, z2⟩
  have p0 := gapAt_nonneg.2 a
  refine ⟨mOk_setG hm hg, a, ?_⟩
  rw [bit_setG _ g0 p0, if_neg (fun q => (gap_same h1 a).1 q |>.elim z1 z2)]
  exact b
theorem stp_same {w h o o' x e : Int} (h1 : 0 ≤ stp w h o x e) (h2 : 0 ≤ stp w h o' x e) : stp w h o' x e = stp w h o x e := by rw [stp_nbr h1, stp_nbr h2]
def isLeaf (w h o c d : Int) : Prop := 0 ≤ stp w h o c d ∧ ∀ e, 0 ≤ stp w h o c e → e = d
theorem leaf_of {w h o c : Int} (hl : (waysL w h o c).length = 1) : isLeaf w h o c (rd (waysL w h o c) 0) := by
 obtain ⟨d, hd⟩ := List.length_eq_one_iff.1 hl
 have e : rd (waysL w h o c) 0 = d := by rw [hd]; rfl
 rw [e]
 refine ⟨(waysL_mem (w := w) (h := h) (o := o) (c := c) (d := d) (by rw [hd]; simp)).1, fun x hx => ?_⟩
 have hx3 := (stp_bd hx).2.2.1
 have : x ∈ waysL w h o c := by
  unfold waysL
  rw [List.mem_filter]
  refine ⟨?_, by simpa using hx⟩
  have : x = 0 ∨ x = 1 ∨ x = 2 ∨ x = 3 := by omega
  rcases this with rfl | rfl | rfl | rfl <;> simp
 rw [hd] at this
 simpa using this
theorem ways_pos {w h o c : Int} : 0 < (waysL w h o c).length ↔ ∃ e, 0 ≤ stp w h o c e := by
 constructor
 ·intro h0
  obtain ⟨e, he⟩ := List.exists_mem_of_length_pos h0
  exact ⟨e, (waysL_mem he).1⟩
 ·rintro ⟨e, he⟩
  have hx3 := (stp_bd he).2.2.1
  refine List.length_pos_of_mem (a := e) ?_
  unfold waysL
  rw [List.mem_filter]
  refine ⟨?_, by simpa using he⟩
  have : e = 0 ∨ e = 1 ∨ e = 2 ∨ e = 3 := by omega
  rcases this with rfl | rfl | rfl | rfl <;> simp
def offL (w h o c d : Int) : Int := setG o (gapAt w h c d) false
theorem off_ok {w h o c d : Int} (hs : 0 ≤ stp w h o c d) : mOk w h o = true ∧ gapIn w h (gapAt w h c d) = true ∧ bitAt o (gapAt w h c d) = true ∧ mOk w h (offL w h o c d) = true ∧ pcnt w h o = pcnt w h (offL w h o c d) + 1 := by
 obtain ⟨hm, hn, hb⟩ := stp_iff.1 hs
 have hg := (nbr_ends hn).1
 exact ⟨hm, hg, hb, mOk_setG hm hg, pcnt_off hm hg hb⟩
theorem wlk_up {w h o c d a b : Int} (hs : 0 ≤ stp w h o c d) {n : Nat} (hw : Wlk w h (offL w h o c d) a n b) : Wlk w h o a n b := by
 induction hw with
 | z => exact Wlk.z
 | s e hx hst ih =>
  have h1 := ((stp_off hs).1 hst).1
  rw [stp_same h1 hst]
  exact Wlk.s e ih h1
theorem wlk_off {w h o c d a : Int} (hl : isLeaf w h o c d) (ha : a ≠ c) (n : Nat) : ∀ b, b ≠ c → Wlk w h o a n b → ∃ m, m ≤ n ∧ Wlk w h (offL w h o c d) a m b := by
 induction n using Nat.strongRecOn with
 | _ n ih =>
  intro b hb hw
  cases hw with
  | z => exact ⟨0, Nat.le_refl _, Wlk.z⟩
  | @s k x e hx hst =>
   by_cases hxc : x = c
   ·subst hxc
    have he := hl.2 e hst
    subst he
    cases hx with
    | z => exact absurd rfl ha
    | @s k2 z f hz hzt =>
     have hbk := stp_back hzt
     have hf := hl.2 (opp f) (by rw [hbk]; exact (stp_bd hzt).2.1.1)
     subst hf
     rw [hbk] at hb ⊢
     obtain ⟨m, m1, m2⟩ := ih k2 (by omega) z hb hz
     exact ⟨m, by omega, m2⟩
   ·obtain ⟨m, m1, m2⟩ := ih k (by omega) x hxc hx
    have hst' : 0 ≤ stp w h (offL w h o c d) x e := by
     refine (stp_off hl.1).2 ⟨hst, fun z => hxc z.1, fun z => ?_⟩
     have := stp_back hl.1
     rw [← z.1, ← z.2] at this
     exact hb this
    refine ⟨m + 1, by omega, ?_⟩
    rw [← stp_same hst hst']
    exact Wlk.s e m2 hst'
def dd (w h o a b : Int) : Int := rd (distL w h o a) b
theorem dd_leaf {w h o c d a b : Int} (hl : isLeaf w h o c d) (ha : a ≠ c) (hb : b ≠ c) (a0 : 0 ≤ a) (a1 : a < nCells w h) (b0 : 0 ≤ b) (b1 : b < nCells w h) (h0 : 0 ≤ dd w h o a b) : dd w h (offL w h o c d) a b = dd w h o a b := by
 have hD := distL_Dist (w := w) (h := h) o a0 a1
 have hD' := distL_Dist (w := w) (h := h) (offL w h o c d) a0 a1
 obtain ⟨m, m1, m2⟩ := wlk_off hl ha _ b hb (hD.wlk b b0 b1 h0)
 have e1 := Dist.le hD' a0 a1 m2
 have e2 := Dist.le hD a0 a1 (wlk_up hl.1 (hD'.wlk b b0 b1 e1.1))
 unfold dd at *
 omega
def sumN (f : Nat → Int) : Nat → Int
 | 0 => 0
 | n + 1 => sumN f n + f n
def fdeg (w h o : Int) (i : Nat) : Int := if ((waysL w h o i).length : Int) > 0 then ((waysL w h o i).length : Int) - 2 else 0
theorem brSum_sum (w h o : Int) : ∀ n, brSum w h o n = sumN (fdeg w h o) n
 | 0 => rfl
 | n + 1 => by rw [brSum, brSum_sum w h o n]; rfl
theorem sum_one {f g : Nat → Int} (p : Nat) : ∀ n, (∀ i, i < n → i ≠ p → f i = g i) → sumN f n = sumN g n + (if p < n then f p - g p else 0)
 | 0, _ => by rw [if_neg (by omega)]; rfl
 | n + 1, h => by
  rw [sumN, sumN, sum_one p n (fun i hi hp => h i (by omega) hp)]
  by_cases e : n = p
  ·subst e; rw [if_neg (by omega), if_pos (by omega)]; omega
  ·rw [h n (by omega) e]
   by_cases c : p < n
   ·rw [if_pos c, if_pos (by omega)]; omega
   ·rw [if_neg c, if_neg (by omega)]; omega
theorem sum_two {f g : Nat → Int} {p q n : Nat} (hp : p < n) (hq : q < n) (hpq : p ≠ q) (h : ∀ i, i < n → i ≠ p → i ≠ q → f i = g i) : sumN f n = sumN g n + (f p - g p) + (f q - g q) := by
 have h1 := sum_one (f := f) (g := fun i => if i = q then f q else g i) p n (fun i hi hip => by
  by_cases e : i = q
  ·simp [e]
  ·simp only [if_neg e]; exact h i hi hip e)
 have h2 := sum_one (f := fun i => if i = q then f q else g i) (g := g) q n (fun i hi hiq => by simp [hiq])
 rw [h1, h2, if_pos hp, if_pos hq]
 simp only [if_neg hpq, if_true]
 omega
theorem sum_ge {f : Nat → Int} {p q : Nat} : ∀ n, (∀ i, i < n → i ≠ p → i ≠ q → 0 ≤ f i) → p ≠ q → (if p < n then f p else 0) + (if q < n then f q else 0) ≤ sumN f n
 | 0, _, _ => by rw [if_neg (by omega), if_neg (by omega)]; exact Int.le_refl _
 | n + 1, h, hpq => by
  have ih := sum_ge (f := f) (p := p) (q := q) n (fun i hi => h i (by omega)) hpq
  rw [sumN]
  by_cases e1 : n = p
  ·subst e1
   rw [if_pos (by omega)]
   rw [if_neg (by omega)] at ih
   by_cases c : q < n
   ·rw [if_pos c] at ih; rw [if_pos (by omega)]; omega
   ·rw [if_neg c] at ih; rw [if_neg (by omega)]; omega
  ·by_cases e2 : n = q
   ·subst e2
    rw [if_pos (show n < n + 1 by omega)]
    rw [if_neg (show ¬ n < n by omega)] at ih
    by_cases c : p < n
    ·rw [if_pos c] at ih; rw [if_pos (by omega)]; omega
    ·rw [if_neg c] at ih; rw [if_neg (by omega)]; omega
   ·have := h n (by omega) e1 e2
    have i1 : (if p < n + 1 then f p else 0) = (if p < n then f p else 0) := by
     by_cases c : p < n
     ·rw [if_pos c, if_pos (by omega)]
     ·rw [if_neg c, if_neg (by omega)]
    have i2 : (if q < n + 1 then f q else 0) = (if q < n then f q else 0) := by
     by_cases c : q < n
     ·rw [if_pos c, if_pos (by omega)]
     ·rw [if_neg c, if_neg (by omega)]
    rw [i1, i2]; omega
theorem sum_nonneg {f : Nat → Int} : ∀ n, (∀ i, i < n → 0 ≤ f i) → 0 ≤ sumN f n
 | 0, _ => Int.le_refl _
 | n + 1, h => by
  have := sum_nonneg n (fun i hi => h i (by omega))
  have := h n (by omega)
  rw [sumN]; omega
theorem sum_ge1 {f : Nat → Int} {p : Nat} : ∀ n, (∀ i, i < n → i ≠ p → 0 ≤ f i) → (-1 ≤ f p) → -1 ≤ sumN f n
 | 0, _, _ => by rw [sumN]; omega
 | n + 1, h, hp => by
  rw [sumN]
  by_cases e : n = p
  ·subst e
   have := sum_nonneg n (fun i hi => h i (by omega) (by omega))
   omega
  ·have := sum_ge1 n (fun i hi => h i (by omega)) hp
   have := h n (by omega) e
   omega
theorem len_eq {w h o o' x : Int} (hs : ∀ e, 0 ≤ stp w h o' x e ↔ 0 ≤ stp w h o x e) : (waysL w h o' x).length = (waysL w h o x).length := by
 unfold waysL
 congr 2
 funext e
 rw [Bool.eq_iff_iff]
 simp only [decide_eq_true_eq]
 exact hs e
theorem len_less {w h o o' x d : Int} (h0 : 0 ≤ stp w h o x d) (hs : ∀ e, 0 ≤ stp w h o' x e ↔ 0 ≤ stp w h o x e ∧ e ≠ d) : (waysL w h o x).length = (waysL w h o' x).length + 1 := by
 have hd := (stp_bd h0).2.2.1
 have h4 : d = 0 ∨ d = 1 ∨ d = 2 ∨ d = 3 := by omega
 have t := hs
 unfold waysL
 have q : ∀ e, decide (0 ≤ stp w h o' x e) = (decide (0 ≤ stp w h o x e) && decide (e ≠ d)) := fun e => by
  rw [Bool.eq_iff_iff]
  simp only [decide_eq_true_eq, Bool.and_eq_true]
  exact hs e
 simp only [q]
 rcases h4 with rfl | rfl | rfl | rfl <;> by_cases a0 : 0 ≤ stp w h o x 0 <;> by_cases a1 : 0 ≤ stp w h o x 1 <;> by_cases a2 : 0 ≤ stp w h o x 2 <;> by_cases a3 : 0 ≤ stp w h o x 3 <;> first | (exfalso; omega) | simp [a0, a1, a2, a3, List.filter]
theorem deg_off {w h o c d : Int} (hl : isLeaf w h o c d) : (waysL w h (offL w h o c d) c).length = 0 ∧ (waysL w h o (stp w h o c d)).length = (waysL w h (offL w h o c d) (stp w h o c d)).length + 1 ∧ (∀ x, x ≠ c → x ≠ stp w h o c d → (waysL w h (offL w h o c d) x).length = (waysL w h o x).length) ∧ (waysL w h o c).length = 1 ∧ stp w h o c d ≠ c := by
 have hb := stp_back hl.1
 have hne : stp w h o c d ≠ c := fun e => by
  have h1 := nbr_ends (w := w) (h := h) (c := c) (d := d) (by rw [← stp_nbr hl.1]; exact hl.1)
  have h2 := (ends_nbr h1.1).1
  rw [stp_nbr hl.1] at e
  rcases h1.2 with p | p <;> rw [p] at h2 <;> simp only at h2 <;> omega
 have hcd : 0 ≤ stp w h o (stp w h o c d) (opp d) := by rw [hb]; exact (stp_bd hl.1).2.1.1
 have e0 : ∀ e, 0 ≤ stp w h (offL w h o c d) c e ↔ 0 ≤ stp w h o c e ∧ e ≠ d := fun e => by
  unfold offL
  rw [stp_off hl.1]
  exact ⟨fun ⟨a, b, _⟩ => ⟨a, fun z => b ⟨rfl, z⟩⟩, fun ⟨a, b⟩ => ⟨a, fun z => b z.2, fun z => hne z.1.symm⟩⟩
 have e1 : ∀ e, 0 ≤ stp w h (offL w h o c d) (stp w h o c d) e ↔ 0 ≤ stp w h o (stp w h o c d) e ∧ e ≠ opp d := fun e => by
  unfold offL
  rw [stp_off hl.1]
  exact ⟨fun ⟨a, _, b⟩ => ⟨a, fun z => b ⟨rfl, z⟩⟩, fun ⟨a, b⟩ => ⟨a, fun z => hne z.1, fun z => b z.2⟩⟩
 have hc0 : (waysL w h (offL w h o c d) c).length = 0 := by
  by_cases z : 0 < (waysL w h (offL w h o c d) c).length
  ·obtain ⟨e, he⟩ := ways_pos.1 z
   have := (e0 e).1 he
   exact absurd (hl.2 e this.1) this.2
  ·omega
 refine ⟨hc0, len_less hcd e1, fun x x1 x2 => len_eq (fun e => ?_), ?_, hne⟩
 ·unfold offL
  rw [stp_off hl.1]
  exact ⟨fun z => z.1, fun z => ⟨z, fun q => x1 q.1, fun q => x2 q.1⟩⟩
 ·have := len_less hl.1 e0
  omega
structure FI (w h o : Int) : Prop where
 ok : mOk w h o = true
 con : ∀ x y : Int, 0 < (waysL w h o x).length → 0 < (waysL w h o y).length → Con w h o x y
 sum : (∀ x : Int, (waysL w h o x).length = 0) ∨ brSum w h o (nCells w h).toNat = -2
theorem ways_cell {w h o x : Int} (hx : 0 < (waysL w h o x).length) : 0 ≤ x ∧ x < nCells w h := by
 obtain ⟨e, he⟩ := ways_pos.1 hx
 exact (stp_bd he).2.1
theorem con_off {w h o c d a b : Int} (hl : isLeaf w h o c d) (ha : a ≠ c) (hb : b ≠ c) (hc : Con w h o a b) : Con w h (offL w h o c d) a b := by
 obtain ⟨n, hn⟩ := hc
 obtain ⟨m, _, hm⟩ := wlk_off hl ha n b hb hn
 exact ⟨m, hm⟩
theorem fdeg_pos {w h o : Int} {i : Nat} (hi : 0 < (waysL w h o i).length) : fdeg w h o i = ((waysL w h o i).length : Int) - 2 := by
 unfold fdeg; rw [if_pos (by omega)]
theorem fdeg_zero {w h o : Int} {i : Nat} (hi : (waysL w h o i).length = 0) : fdeg w h o i = 0 := by
 unfold fdeg; rw [if_neg (by omega)]
theorem pair_only {w h o c d : Int} (hl : isLeaf w h o c d) (h1 : (waysL w h o (stp w h o c d)).length = 1) {n : Nat} {x : Int} (hw : Wlk w h o c n x) : x = c ∨ x = stp w h o c d := by
 have hb := stp_back hl.1
 have hl2 := leaf_of h1
 have hcd : 0 ≤ stp w h o (stp w h o c d) (opp d) := by rw [hb]; exact (stp_bd hl.1).2.1.1
 induction hw with
 | z => exact .inl rfl
 | s e hx hst ih =>
  rcases ih with rfl | rfl
  ·rw [hl.2 e hst]; exact .inr rfl
  ·have e1 := hl2.2 e hst
   have e2 := hl2.2 _ hcd
   rw [e1, ← e2, hb]; exact .inl rfl
theorem FI.step {w h o c d : Int} (hF : FI w h o) (hl : isLeaf w h o c d) : FI w h (offL w h o c d) := by
 obtain ⟨d0, d1, d2, d3, hne⟩ := deg_off hl
 have hk := off_ok hl.1
 have hcb := (stp_bd hl.1).2.1
 have hc2 := (stp_bd hl.1).2.2.2.1
 have hup : ∀ x, 0 < (waysL w h (offL w h o c d) x).length → x ≠ c ∧ 0 < (waysL w h o x).length := fun x hx => by
  have hxc : x ≠ c := fun e => by rw [e, d0] at hx; omega
  refine ⟨hxc, ?_⟩
  by_cases e : x = stp w h o c d
  ·rw [e] at hx ⊢; omega
  ·rw [← d2 x hxc e]; exact hx
 refine ⟨hk.2.2.2.1, fun x y hx hy => ?_, ?_⟩
 ·obtain ⟨x1, x2⟩ := hup x hx
  obtain ⟨y1, y2⟩ := hup y hy
  exact con_off hl x1 y1 (hF.con x y x2 y2)
 ·by_cases hone : (waysL w h o (stp w h o c d)).length = 1
  ·refine .inl (fun x => ?_)
   by_cases hx : 0 < (waysL w h (offL w h o c d) x).length
   ·obtain ⟨x1, x2⟩ := hup x hx
    obtain ⟨n, hn⟩ := hF.con c x (by omega) x2
    rcases pair_only hl hone hn with e | e
    ·exact absurd e x1
    ·rw [e] at hx; omega
   ·omega
  ·refine .inr ?_
   have hs : brSum w h o (nCells w h).toNat = -2 := by
    rcases hF.sum with z | z
    ·have := z c; omega
    ·exact z
   rw [brSum_sum] at hs ⊢
   obtain ⟨p, hp⟩ := Int.eq_ofNat_of_zero_le hcb.1
   obtain ⟨q, hq⟩ := Int.eq_ofNat_of_zero_le hl.1
   have hpq : p ≠ q := fun e => hne (by rw [hq, hp, e])
   have := sum_two (f := fdeg w h (offL w h o c d)) (g := fdeg w h o) (p := p) (q := q) (n := (nCells w h).toNat) (by omega) (by omega) hpq (fun i _ ip iq => by
    unfold fdeg
    rw [d2 (i : Int) (by omega) (by omega)])
   rw [this, hs]
   have f1 : fdeg w h (offL w h o c d) p = 0 := fdeg_zero (by rw [← hp]; exact d0)
   have f2 : fdeg w h o p = -1 := by rw [fdeg_pos (by rw [← hp]; omega), ← hp, d3]; rfl
   have f3 : fdeg w h o q = ((waysL w h o (stp w h o c d)).length : Int) - 2 := by rw [fdeg_pos (by rw [← hq]; omega), ← hq]
   have f4 : fdeg w h (offL w h o c d) q = ((waysL w h (offL w h o c d) (stp w h o c d)).length : Int) - 2 := by rw [fdeg_pos (by rw [← hq]; omega), ← hq]
   rw [f1, f2, f3, f4]
   omega
theorem pcnt_none {w h o : Int} (hm : mOk w h o = true) (hz : ∀ x : Int, (waysL w h o x).length = 0) : pcnt w h o = 0 := by
 have h1 := deg_sum hm
 have : ∀ n, degTo w h o n = 0 := fun n => by
  induction n with
  | zero => rfl
  | succ n ih => rw [degTo, ih, hz n]
 rw [this] at h1; omega
theorem fill_none {w h o : Int} (hF : FI w h o) (a : Int) (hno : ∀ x, (waysL w h o x).length = 1 → x = a) : pcnt w h o = 0 := by
 rcases hF.sum with z | z
 ·exact pcnt_none hF.ok z
 ·exfalso
  rw [brSum_sum] at z
  have := sum_ge1 (f := fdeg w h o) (p := a.toNat) (nCells w h).toNat (fun i _ hi => by
   unfold fdeg
   split
   ·rename_i q
    by_cases e : (waysL w h o i).length = 1
    ·have := hno i e
     omega
    ·omega
   ·exact Int.le_refl _) (by unfold fdeg; split <;> omega)
  omega
theorem con_deg {w h o a b : Int} (hab : a ≠ b) (hc : Con w h o a b) : 0 < (waysL w h o b).length := by
 obtain ⟨n, hn⟩ := hc
 cases hn with
 | z => exact absurd rfl hab
 | @s k x e hx hst =>
  refine ways_pos.2 ⟨opp e, ?_⟩
  rw [stp_back hst]
  exact (stp_bd hst).2.1.1
theorem dd_next {w h o a d b : Int} (hl : isLeaf w h o a d) (b0 : 0 ≤ b) (b1 : b < nCells w h) (hab : a ≠ b) (h0 : 0 ≤ dd w h o a b) : dd w h o a b = dd w h o (stp w h o a d) b + 1 := by
 have ha := (stp_bd hl.1).2.1
 have hq := (stp_bd hl.1).2.2.2.1
 have hDa := distL_Dist (w := w) (h := h) o ha.1 ha.2
 have hDq := distL_Dist (w := w) (h := h) o hl.1 hq
 have hDb := distL_Dist (w := w) (h := h) o b0 b1
 have s1 : dd w h o a b = dd w h o b a := dist_symm o ha.1 ha.2 b0 b1
 have s2 : dd w h o (stp w h o a d) b = dd w h o b (stp w h o a d) := dist_symm o hl.1 hq b0 b1
 have hw : Wlk w h o b (dd w h o b a).toNat a := hDb.wlk a ha.1 ha.2 (by rw [s1] at h0; exact h0)
 obtain ⟨n, hn⟩ : ∃ n, n = (dd w h o b a).toNat := ⟨_, rfl⟩
 rw [← hn] at hw
 cases hw with
 | z => exact absurd rfl hab
 | @s k x e hx hst =>
  have hbk := stp_back hst
  have he := hl.2 (opp e) (by rw [hbk]; exact (stp_bd hst).2.1.1)
  have hx2 : x = stp w h o (stp w h o x e) d := by rw [← he, hbk]
  have l1 := Dist.le hDb b0 b1 hx
  rw [hx2] at l1
  have hb2 := hDq.wlk b b0 b1 (by
   have : 0 ≤ dd w h o b (stp w h o (stp w h o x e) d) := l1.1
   rw [← s2] at this; exact this)
  have l2 := Dist.le hDa ha.1 ha.2 (Wlk.front hl.1 hb2)
  have l1' : dd w h o b (stp w h o (stp w h o x e) d) ≤ (k : Int) := l1.2.1
  have l2' : dd w h o (stp w h o x e) b ≤ (((dd w h o (stp w h o (stp w h o x e) d) b).toNat + 1 : Nat) : Int) := l2.2.1
  have l10 : 0 ≤ dd w h o b (stp w h o (stp w h o x e) d) := l1.1
  omega
theorem fill_way {w h b : Int} (b0 : 0 ≤ b) (b1 : b < nCells w h) (n : Nat) : ∀ (o a : Int), pcnt w h o = (n : Int) → FI w h o → a ≠ b → Con w h o a b → (∀ x, (waysL w h o x).length = 1 → x = a ∨ x = b) → pcnt w h o = dd w h o a b := by
 induction n with
 | zero =>
  intro o a hn hF hab hc hno
  exfalso
  have hb := con_deg hab hc
  obtain ⟨e, he⟩ := ways_pos.1 hb
  have := (off_ok he).2.2.2.2
  have := pcnt_bd w h (offL w h o b e)
  omega
 | succ n ih =>
  intro o a hn hF hab hc hno
  have hb := con_deg hab hc
  have ha := con_deg (Ne.symm hab) (Con.symm hc)
  have hac := ways_cell ha
  have hs : brSum w h o (nCells w h).toNat = -2 := by
   rcases hF.sum with z | z
   ·have := z a; omega
   ·exact z
  rw [brSum_sum] at hs
  obtain ⟨p, hp⟩ := Int.eq_ofNat_of_zero_le hac.1
  obtain ⟨q, hq⟩ := Int.eq_ofNat_of_zero_le b0
  have hpq : p ≠ q := fun e => hab (by rw [hp, hq, e])
  have hge := sum_ge (f := fdeg w h o) (p := p) (q := q) (nCells w h).toNat (fun i _ ip iq => by
   unfold fdeg
   split
   ·rename_i z
    by_cases e : (waysL w h o i).length = 1
    ·rcases hno i e with e | e <;> omega
    ·omega
   ·exact Int.le_refl _) hpq
  rw [if_pos (by omega), if_pos (by omega), fdeg_pos (by rw [← hp]; exact ha), fdeg_pos (by rw [← hq]; exact hb), ← hp, ← hq] at hge
  have da : (waysL w h o a).length = 1 := by omega
  have db : (waysL w h o b).length = 1 := by omega
  obtain ⟨d, hd⟩ : ∃ d, d = rd (waysL w h o a) 0 := ⟨_, rfl⟩
  have hl : isLeaf w h o a d := by rw [hd]; exact leaf_of da
  have hF' := FI.step hF hl
  obtain ⟨d0, d1, d2, d3, hne⟩ := deg_off hl
  have hk := off_ok hl.1
  have hcd : 0 ≤ dd w h o a b := (con_dist o hac.1 hac.2 b0 b1).2 hc
  have hnx := dd_next hl b0 b1 hab hcd
  by_cases hbq : stp w h o a d = b
  ·have hz : ∀ x : Int, (waysL w h (offL w h o a d) x).length = 0 := fun x => by
    by_cases hx : 0 < (waysL w h (offL w h o a d) x).length
    ·exfalso
     have xa : x ≠ a := fun e => by rw [e, d0] at hx; omega
     have xb : x ≠ stp w h o a d := fun e => by rw [e] at hx; rw [hbq] at hx d1; omega
     have hx2 : 0 < (waysL w h o x).length := by rw [← d2 x xa xb]; exact hx
     obtain ⟨m, hm⟩ := hF.con a x ha hx2
     rcases pair_only hl (by rw [hbq]; exact db) hm with e | e
     ·exact xa e
     ·exact xb e
    ·omega
   have p0 := pcnt_none hk.2.2.2.1 hz
   have hself : dd w h o b b = 0 := (distL_Dist (w := w) (h := h) o b0 b1).src
   rw [hbq, hself] at hnx
   rw [hk.2.2.2.2, p0, hnx]
  ·have hc1 : Con w h o (stp w h o a d) b := Con.trans (Con.symm (Con.step hl.1)) hc
   have hc2 := con_off hl hne (Ne.symm hab) hc1
   have hq0 := hl.1
   have hq1 := (stp_bd hl.1).2.2.2.1
   have h0 : 0 ≤ dd w h o (stp w h o a d) b := (con_dist o hq0 hq1 b0 b1).2 hc1
   have := ih (offL w h o a d) (stp w h o a d) (by have := hk.2.2.2.2; omega) hF' hbq hc2 (fun x hx => by
    by_cases xq : x = stp w h o a d
    ·exact .inl xq
    ·have xa : x ≠ a := fun e => by rw [e, d0] at hx; omega
     rcases hno x (by rw [← d2 x xa xq]; exact hx) with e | e
     ·exact absurd e xa
     ·exact .inr e)
   rw [dd_leaf hl hne (Ne.symm hab) hq0 hq1 b0 b1 h0] at this
   have := hk.2.2.2.2
   omega
def deadL (w h o : Int) : List Int := cellsP w h o fun l => ((l.length : Int) == 1)
def candL (keep : List Int) (w h o : Int) : List Int := (deadL w h o).filter fun x => !(decide (x ∈ keep))
def nextO (keep : List Int) (w h o : Int) : Int := offL w h o (rd (candL keep w h o) 0) (rd (waysL w h o (rd (candL keep w h o) 0)) 0)
def fillN (keep : List Int) (w h : Int) : Nat → Int → Int
 | 0, o => o
 | n + 1, o => if (candL keep w h o).length = 0 then o else fillN keep w h n (nextO keep w h o)
theorem dead_mem {w h o x : Int} : x ∈ deadL w h o ↔ mOk w h o = true ∧ (0 ≤ x ∧ x < nCells w h) ∧ (waysL w h o x).length = 1 := by
 have hn := nCells_bd w h
 unfold deadL cellsP
 by_cases hm : mOk w h o = true
 ·rw [if_pos hm, List.mem_filter, numsTo_mem]
  simp only [beq_iff_eq]
  constructor
  ·rintro ⟨⟨a, b⟩, c⟩; exact ⟨hm, ⟨a, by omega⟩, by omega⟩
  ·rintro ⟨_, ⟨a, b⟩, c⟩; exact ⟨⟨a, by omega⟩, by omega⟩
 ·rw [if_neg hm]; simp [hm]
theorem cand_head {keep : List Int} {w h o : Int} (hc : (candL keep w h o).length ≠ 0) : isLeaf w h o (rd (candL keep w h o) 0) (rd (waysL w h o (rd (candL keep w h o) 0)) 0) ∧ rd (candL keep w h o) 0 ∉ keep ∧ rd (candL keep w h o) 0 ∈ deadL w h o ∧ 0 ≤ rd (candL keep w h o) 0 ∧ (waysL w h o (rd (candL keep w h o) 0)).length = 1 := by
 have hm : rd (candL keep w h o) 0 ∈ candL keep w h o := by
  have := rd_mem (candL keep w h o) 0 (by omega)
  rw [show ((0 : Nat) : Int) = 0 from rfl] at this
  rw [this]; exact List.getElem_mem _
 have hm2 := hm
 unfold candL at hm2
 obtain ⟨h1, h2⟩ := List.mem_filter.1 hm2
 have h3 := dead_mem.1 h1
 exact ⟨leaf_of h3.2.2, (by simp only [Bool.not_eq_true', decide_eq_false_iff_not] at h2; exact h2), h1, h3.2.1.1, h3.2.2⟩
theorem fill_end (keep : List Int) (w h : Int) (n : Nat) : ∀ o, pcnt w h o ≤ (n : Int) → (candL keep w h (fillN keep w h n o)).length = 0 := by
 induction n with
 | zero =>
  intro o hp
  rw [fillN]
  by_cases hc : (candL keep w h o).length = 0
  ·exact hc
  ·exfalso
   have hl := (cand_head hc).1
   have := (off_ok hl.1).2.2.2.2
   have := pcnt_bd w h (offL w h o (rd (candL keep w h o) 0) (rd (waysL w h o (rd (candL keep w h o) 0)) 0))
   omega
 | succ n ih =>
  intro o hp
  rw [fillN]
  by_cases hc : (candL keep w h o).length = 0
  ·rw [if_pos hc]; exact hc
  ·rw [if_neg hc]
   have hl := (cand_head hc).1
   have := (off_ok hl.1).2.2.2.2
   exact ih _ (by unfold nextO; omega)
theorem fill_FI (keep : List Int) (w h : Int) (n : Nat) : ∀ o, FI w h o → FI w h (fillN keep w h n o) ∧ ∀ a b, a ∈ keep → b ∈ keep → (0 ≤ a ∧ a < nCells w h) → (0 ≤ b ∧ b < nCells w h) → Con w h o a b → Con w h (fillN keep w h n o) a b ∧ dd w h (fillN keep w h n o) a b = dd w h o a b := by
 induction n with
 | zero => intro o hF; exact ⟨hF, fun a b _ _ _ _ hc => ⟨hc, rfl⟩⟩
 | succ n ih =>
  intro o hF
  rw [fillN]
  by_cases hc : (candL keep w h o).length = 0
  ·rw [if_pos hc]; exact ⟨hF, fun a b _ _ _ _ hc => ⟨hc, rfl⟩⟩
  ·rw [if_neg hc]
   obtain ⟨hl, hnk, _⟩ := cand_head hc
   obtain ⟨i1, i2⟩ := ih (nextO keep w h o) (FI.step hF hl)
   refine ⟨i1, fun a b ha hb ha2 hb2 hcon => ?_⟩
   have na : a ≠ rd (candL keep w h o) 0 := fun e => hnk (e ▸ ha)
   have nb : b ≠ rd (candL keep w h o) 0 := fun e => hnk (e ▸ hb)
   obtain ⟨j1, j2⟩ := i2 a b ha hb ha2 hb2 (con_off hl na nb hcon)
   exact ⟨j1, by rw [j2]; exact dd_leaf hl na nb ha2.1 ha2.2 hb2.1 hb2.2 ((con_dist o ha2.1 ha2.2 hb2.1 hb2.2).2 hcon)⟩
def fillV (keep : List Int) (w h o : Int) : Int := if mOk w h o = true ∧ (keep.all (cellIn w h)) = true then fillN keep w h 24 o else o
theorem index_loop (l : List Int) (hl : l.length ≤ 1000000000000) (x : Int) (d : Nat) : ∀ (k i : Nat), i + d = l.length → d < k → ∃ r, slices_Index_int_int.l0 k l x (l.length : Int) (i : Int) = some r ∧ (0 ≤ r ↔ x ∈ l.drop i) := by
 induction d with
 | zero =>
  intro k i hi hk
  obtain ⟨k, rfl⟩ : ∃ m, k = m + 1 := ⟨k - 1, by omega⟩
  refine ⟨-1, by rw [slices_Index_int_int.l0, if_neg (by omega)], ?_⟩
  rw [List.drop_eq_nil_of_le (by omega)]; simp
 | succ d ih =>
  intro k i hi hk
  obtain ⟨k, rfl⟩ : ∃ m, k = m + 1 := ⟨k - 1, by omega⟩
  have hlt : i < l.length := by omega
  have hr := rd_mem l i hlt
  rw [slices_Index_int_int.l0, if_pos (by omega), if_pos (by omega), if_pos (by omega), List.drop_eq_getElem_cons hlt]
  by_cases e : x = rd l i
  ·rw [if_pos e]
   exact ⟨i, rfl, fun _ => List.mem_cons.2 (.inl (e.trans hr)), fun _ => by omega⟩
  ·rw [if_neg e, w64_id (x := (i : Int) + 1) (by omega) (by omega)]
   obtain ⟨r, r1, r2⟩ := ih k (i + 1) (by omega) (by omega)
   refine ⟨r, r1, r2.trans ?_⟩
   rw [hr] at e
   rw [List.mem_cons]
   exact ⟨.inr, fun z => z.resolve_left e⟩
theorem contains_eq (l : List Int) (hl : l.length ≤ 1000000000000) (x : Int) (k : Nat) (hk : l.length < k) : slices_Contains_int_int.f k l x = some (decide (x ∈ l)) := by
 obtain ⟨r, r1, r2⟩ := index_loop l hl x l.length k 0 (by omega) hk
 unfold slices_Contains_int_int.f slices_Index_int_int.f
 rw [show ((0 : Nat) : Int) = 0 from rfl] at r1
 rw [r1]
 simp only [Option.bind_some]
 rw [List.drop_zero] at r2
 congr 1
 rw [Bool.eq_iff_iff]
 simp only [decide_eq_true_eq]
 exact r2
theorem gapAt_k (w h c d : Int) (k : Nat) (hk : 10 ≤ k) : impl_GapAt.f k w h c d = some (gapAt w h c d) := by
 first
  | exact impl_GapAt_eq ..
  | (have := impl_GapAt_eq (k - 1) w h c d; rw [show k - 1 + 1 = k by omega] at this; exact this)
  | (have := impl_GapAt_eq (k - 2) w h c d; rw [show k - 2 + 2 = k by omega] at this; exact this)
  | (have := impl_GapAt_eq (k - 3) w h c d; rw [show k - 3 + 3 = k by omega] at this; exact this)
theorem fill_go_eq (keep : List Int) (hl : keep.length ≤ 1000000000000) (w h : Int) (n : Nat) : ∀ (k : Nat) (o : Int), mOk w h o = true → pcnt w h o ≤ (n : Int) → keep.length + 100 + n ≤ k → fill_go keep k w h o = some (w, h, fillN keep w h n o) := by
 have go : ∀ (k : Nat) (o : Int), mOk w h o = true → keep.length + 100 ≤ k → fill_go keep (k + 1) w h o = if (candL keep w h o).length = 0 then some (w, h, o) else fill_go keep k w h (nextO keep w h o) := fun k o hm hk => by
  rw [fill_go, impl_DeadEnds_eq w h o k (by omega)]
  simp only [Option.bind_some]
  have hc : ∀ x, slices_Contains_int_int.f k keep x = some (decide (x ∈ keep)) := fun x => contains_eq keep hl x k (by omega)
  rw [if_pos (List.all_eq_true.2 fun x _ => by rw [hc]; rfl)]
  have e : ((cellsP w h o fun l => ((l.length : Int) == 1)).filter fun x => !((slices_Contains_int_int.f k keep x).getD false)) = candL keep w h o := by
   unfold candL deadL
   exact List.filter_congr fun x _ => by rw [hc]; rfl
  rw [e]
  by_cases hz : (candL keep w h o).length = 0
  ·rw [if_pos hz, if_pos hz]
  ·rw [if_neg hz, if_neg hz, impl_Ways_k w h o _ k (by omega)]
   simp only [Option.bind_some]
   obtain ⟨hlf, _, _, _, h1⟩ := cand_head hz
   have hk2 := off_ok hlf.1
   rw [if_pos (by omega), gapAt_k _ _ _ _ k (by omega)]
   simp only [Option.bind_some]
   rw [impl_with_eq hm hk2.2.1]
   rfl
 induction n with
 | zero =>
  intro k o hm hp hk
  obtain ⟨k, rfl⟩ : ∃ m, k = m + 1 := ⟨k - 1, by omega⟩
  rw [fillN]
  by_cases hc : (candL keep w h o).length = 0
  ·by_cases hk2 : keep.length + 100 ≤ k
   ·rw [go k o hm hk2, if_pos hc]
   ·obtain rfl : k = keep.length + 99 := by omega
    rw [fill_go, impl_DeadEnds_eq w h o _ (by omega)]
    simp only [Option.bind_some]
    have hcc : ∀ x, slices_Contains_int_int.f (keep.length + 99) keep x = some (decide (x ∈ keep)) := fun x => contains_eq keep hl x _ (by omega)
    rw [if_pos (List.all_eq_true.2 fun x _ => by rw [hcc]; rfl)]
    have e : ((cellsP w h o fun l => ((l.length : Int) == 1)).filter fun x => !((slices_Contains_int_int.f (keep.length + 99) keep x).getD false)) = candL keep w h o := by
     unfold candL deadL
     exact List.filter_congr fun x _ => by rw [hcc]; rfl
    rw [e, if_pos hc]
  ·exfalso
   have hlf := (cand_head hc).1
   have := (off_ok hlf.1).2.2.2.2
   have := pcnt_bd w h (offL w h o (rd (candL keep w h o) 0) (rd (waysL w h o (rd (candL keep w h o) 0)) 0))
   omega
 | succ n ih =>
  intro k o hm hp hk
  obtain ⟨k, rfl⟩ : ∃ m, k = m + 1 := ⟨k - 1, by omega⟩
  rw [go k o hm (by omega), fillN]
  by_cases hc : (candL keep w h o).length = 0
  ·rw [if_pos hc, if_pos hc]
  ·rw [if_neg hc, if_neg hc]
   have hlf := (cand_head hc).1
   have hk2 := off_ok hlf.1
   exact ih k _ hk2.2.2.2.1 (by unfold nextO; omega) (by omega)
theorem impl_Fill_eq (keep : List Int) (hl : keep.length ≤ 1000000000) (w h o : Int) (k : Nat) (hk : keep.length + 200 ≤ k) : impl_FillDeadEnds.f k w h o keep = some (w, h, fillV keep w h o) := by
 unfold impl_FillDeadEnds.f fillV
 rw [isIn_eq]
 simp only [Option.bind_some, Bool.and_eq_true]
 by_cases c : mOk w h o = true ∧ keep.all (cellIn w h) = true
 ·rw [if_pos c, if_pos c]
  exact fill_go_eq keep (by omega) w h 24 k o c.1 (pcnt_bd w h o).2 (by omega)
 ·rw [if_neg c, if_neg c]
theorem dead_len (w h o : Int) : (deadL w h o).length ≤ 16 := cellsP_len w h o _
theorem FI_perfect {w h o : Int} (hm : mOk w h o = true) (hl : loopsZ w h o = 0) (hp : partsN w h o = 1) : FI w h o ∧ (1 < nCells w h → brSum w h o (nCells w h).toNat = -2) := by
 have hk := (mOk_iff.1 hm).1
 have hn := nCells_bd w h
 have h1 := hn.2.2 hk
 have hall := (parts_one o hk).1 hp
 have hpc : pcnt w h o = nCells w h - 1 := by unfold loopsZ at hl; rw [hp] at hl; omega
 have hds := deg_sum hm
 have hcon : ∀ x y : Int, 0 ≤ x → x < nCells w h → 0 ≤ y → y < nCells w h → Con w h o x y := fun x y x0 x1 y0 y1 => Con.trans (hall x x0 x1) (Con.symm (hall y y0 y1))
 by_cases hone : nCells w h = 1
 ·have hz : ∀ x : Int, (waysL w h o x).length = 0 := fun x => by
   by_cases hx : 0 < (waysL w h o x).length
   ·exfalso
    obtain ⟨e, he⟩ := ways_pos.1 hx
    have := (off_ok he).2.2.2.2
    have := pcnt_bd w h (offL w h o x e)
    omega
   ·omega
  exact ⟨⟨hm, fun x y hx _ => by rw [hz x] at hx; exact absurd hx (by decide), .inl hz⟩, fun z => absurd z (by omega)⟩
 ·have hdeg : ∀ x : Int, 0 ≤ x → x < nCells w h → 0 < (waysL w h o x).length := fun x x0 x1 => by
   by_cases e : x = 0
   ·exact con_deg (a := 1) (by omega) (hcon 1 x (by omega) (by omega) x0 x1)
   ·exact con_deg (a := 0) (by omega) (hcon 0 x (by omega) (by omega) x0 x1)
  have hbr : ∀ n : Nat, (n : Int) ≤ nCells w h → brSum w h o n = (degTo w h o n : Int) - 2 * n := fun n => by
   induction n with
   | zero => intro _; rfl
   | succ n ih =>
    intro hle
    have := hdeg n (by omega) (by omega)
    rw [brSum, degTo, ih (by omega), if_pos (by omega)]
    omega
  have hb := hbr (nCells w h).toNat (by omega)
  rw [hds] at hb
  have hb2 : brSum w h o (nCells w h).toNat = -2 := by omega
  exact ⟨⟨hm, fun x y hx hy => by
   have a := ways_cell hx
   have b := ways_cell hy
   exact hcon x y a.1 a.2 b.1 b.2, .inr hb2⟩, fun _ => hb2⟩
theorem leaves_two (w h o : Int) : ∀ n : Nat, 0 ≤ brSum w h o n + (((numsTo n).filter fun x => ((waysL w h o x).length : Int) == 1).length : Int)
 | 0 => by simp [brSum, numsTo]
 | n + 1 => by
  have ih := leaves_two w h o n
  have hnx := filter_next (fun x => ((waysL w h o x).length : Int) == 1) n
  by_cases c : ((waysL w h o n).length : Int) = 1
  ·have e : ((numsTo (n + 1)).filter fun x => ((waysL w h o x).length : Int) == 1) = ((numsTo n).filter fun x => ((waysL w h o x).length : Int) == 1) ++ [(n : Int)] := by
    rw [hnx, if_pos (by rw [c]; rfl)]
   rw [brSum, e, if_pos (by omega), List.length_append, c]
   simp only [List.length_cons, List.length_nil]
   omega
  ·have e : ((numsTo (n + 1)).filter fun x => ((waysL w h o x).length : Int) == 1) = ((numsTo n).filter fun x => ((waysL w h o x).length : Int) == 1) := by
    rw [hnx, if_neg (fun q => c (beq_iff_eq.1 q))]
   rw [brSum, e]
   split <;> omega
theorem cand_none {keep : List Int} {w h o x : Int} (hc : (candL keep w h o).length = 0) (hm : mOk w h o = true) (hx : (waysL w h o x).length = 1) : x ∈ keep := by
 by_cases hk : x ∈ keep
 ·exact hk
 ·exfalso
  have hcl := ways_cell (w := w) (h := h) (o := o) (x := x) (by omega)
  have hmem : x ∈ candL keep w h o := by
   unfold candL
   rw [List.mem_filter]
   exact ⟨dead_mem.2 ⟨hm, hcl, hx⟩, by simpa using hk⟩
  have := List.length_pos_of_mem hmem
  omega
theorem filled {w h o a b : Int} (hm : mOk w h o = true) (hl : loopsZ w h o = 0) (hp : partsN w h o = 1) (ha : 0 ≤ a ∧ a < nCells w h) (hb : 0 ≤ b ∧ b < nCells w h) :
  mOk w h (fillV [a, b] w h o) = true ∧ pcnt w h (fillV [a, b] w h o) = dd w h o a b ∧ dd w h (fillV [a, b] w h o) a b = dd w h o a b := by
 have hk := (mOk_iff.1 hm).1
 have hF := (FI_perfect hm hl hp).1
 have hall := (parts_one o hk).1 hp
 have hcon : Con w h o a b := Con.trans (hall a ha.1 ha.2) (Con.symm (hall b hb.1 hb.2))
 have hv : fillV [a, b] w h o = fillN [a, b] w h 24 o := by
  unfold fillV
  rw [if_pos ⟨hm, by simp [cellIn_iff, ha, hb]⟩]
 obtain ⟨f1, f2⟩ := fill_FI [a, b] w h 24 o hF
 obtain ⟨c1, c2⟩ := f2 a b (by simp) (by simp) ha hb hcon
 have he := fill_end [a, b] w h 24 o (pcnt_bd w h o).2
 rw [hv]
 have hno : ∀ x, (waysL w h (fillN [a, b] w h 24 o) x).length = 1 → x = a ∨ x = b := fun x hx => by
  simpa using cand_none he f1.ok hx
 refine ⟨f1.ok, ?_, c2⟩
 by_cases hab : a = b
 ·subst hab
  have h0 : dd w h o a a = 0 := (distL_Dist (w := w) (h := h) o ha.1 ha.2).src
  rw [h0]
  exact fill_none f1 a (fun x hx => (hno x hx).elim id id)
 ·obtain ⟨n, hn⟩ := Int.eq_ofNat_of_zero_le (pcnt_bd w h (fillN [a, b] w h 24 o)).1
  rw [fill_way hb.1 hb.2 n _ a hn f1 hab c1 hno, c2]
theorem filled_none {w h o : Int} (hm : mOk w h o = true) (hl : loopsZ w h o = 0) (hp : partsN w h o = 1) : pcnt w h (fillV [] w h o) = 0 := by
 have hF := (FI_perfect hm hl hp).1
 have hv : fillV [] w h o = fillN [] w h 24 o := by
  unfold fillV
  rw [if_pos ⟨hm, rfl⟩]
 obtain ⟨f1, _⟩ := fill_FI [] w h 24 o hF
 have he := fill_end [] w h 24 o (pcnt_bd w h o).2
 rw [hv]
 exact fill_none f1 0 (fun x hx => by
  have := cand_none he f1.ok hx
  simp at this)
def juncL (w h o : Int) : List Int := cellsP w h o fun l => decide ((l.length : Int) ≥ 3)
theorem junc_not {w h o x : Int} (hx : x ∈ deadL w h o) : ¬ x ∈ juncL w h o := fun hj => by
 have h1 := dead_mem.1 hx
 unfold juncL cellsP at hj
 rw [if_pos h1.1, List.mem_filter] at hj
 have := hj.2
 simp only [decide_eq_true_eq] at this
 omega
theorem straight_eq {w h o : Int} (hm : mOk w h o = true) (k : Nat) (hk : 40 ≤ k) : ∃ n : Int, impl_CountStraight.f k w h o = some n ∧ n ≤ nCells w h := by
 have hn := nCells_bd w h
 unfold impl_CountStraight.f
 rw [cells_with_eq _ w h o k hk]
 simp only [Option.bind_some]
 refine ⟨_, rfl, ?_⟩
 unfold cellsP
 rw [if_pos hm]
 have := List.length_filter_le (fun x => strB (waysL w h o x)) (numsTo (nCells w h).toNat)
 rw [numsTo_len] at this
 first
  | omega
  | (refine Int.le_trans (Int.ofNat_le.2 (List.length_filter_le _ _)) ?_; rw [numsTo_len]; omega)
theorem deadE_loop {w h o a b : Int} (hm : mOk w h o = true) (hl : loopsZ w h o = 0) (hp : partsN w h o = 1) (ha : 0 ≤ a ∧ a < nCells w h) (hb : 0 ≤ b ∧ b < nCells w h) (d : Nat) : ∀ (k i : Nat), i + d = (deadL w h o).length → d + 2000 ≤ k → laws_FnDeadEnds.l0 k (nCells w h) a b (deadL w h o) (i : Int) w h o w h (fillV [a, b] w h o) = some true := by
 have hdl := dead_len w h o
 induction d with
 | zero =>
  intro k i hi hk
  obtain ⟨k, rfl⟩ : ∃ m, k = m + 1 := ⟨k - 1, by omega⟩
  obtain ⟨f1, f2, f3⟩ := filled hm hl hp ha hb
  have f4 := filled_none hm hl hp
  have ca := cellIn_iff.2 ha
  have cb := cellIn_iff.2 hb
  have d1 : distV w h o a b = dd w h o a b := by unfold distV; rw [if_pos ⟨hm, ca, cb⟩]; rfl
  have d2 : distV w h (fillV [a, b] w h o) a b = dd w h (fillV [a, b] w h o) a b := by unfold distV; rw [if_pos ⟨f1, ca, cb⟩]; rfl
  obtain ⟨n, n1, n2⟩ := straight_eq hm k (by omega)
  rw [laws_FnDeadEnds.l0, if_neg (by omega), impl_CountPassages_eq, impl_DistanceOf_eq w h o a b k (by omega), impl_DistanceOf_eq w h (fillV [a, b] w h o) a b k (by omega), d1, d2, f2, f3, n1, impl_Fill_eq [] (by simp) w h o k (by simp; omega)]
  simp only [Option.bind_some]
  rw [if_pos trivial, if_pos trivial, if_pos n2, impl_CountPassages_eq, f4]
  rfl
 | succ d ih =>
  intro k i hi hk
  obtain ⟨k, rfl⟩ : ∃ m, k = m + 1 := ⟨k - 1, by omega⟩
  have hlt : i < (deadL w h o).length := by omega
  have hj : (juncL w h o).length ≤ 16 := cellsP_len w h o _
  rw [laws_FnDeadEnds.l0, if_pos (by omega), impl_Junctions_eq w h o k (by omega), rd_mem _ i hlt]
  simp only [Option.bind_some]
  rw [if_pos (by omega), show (cellsP w h o fun l => decide ((l.length : Int) ≥ 3)) = juncL w h o from rfl, has_eq2 (juncL w h o) (by omega) _ k (by omega)]
  simp only [Option.bind_some]
  rw [if_neg (by simpa using junc_not (List.getElem_mem hlt)), w64_id (x := (i : Int) + 1) (by omega) (by omega)]
  exact ih k (i + 1) (by omega) (by omega)
theorem DrawPerfect_tot (l : List Int) (hl : l.length ≤ 140737488351232) (k : Nat) (hk : l.length < k) (hk2 : 2100 ≤ k) : ∃ w h o, spec_DrawPerfect.f k l = some (w, h, o) ∧ mOk w h o = true ∧ loopsZ w h o = 0 ∧ partsN w h o = 1 := by
 unfold spec_DrawPerfect.f spec_l05Tree.f
 obtain ⟨h0, e⟩ := l01New_eq l hl k hk
 rw [e]; simp only [Option.bind_some]
 obtain ⟨w, h, i1, h1, e, hg, i0⟩ := l02Grid_tot l hl 0 h0 (by omega)
 rw [e]; simp only [Option.bind_some]
 obtain ⟨o, i2, h2, e, hm, hz, hp, _⟩ := l03Tree_tot l hl i1 h1 i0 hg k (by omega)
 rw [e]; simp only [Option.bind_some]
 exact ⟨w, h, o, rfl, hm, hz, hp⟩
theorem FnDeadEnds : laws_FnDeadEnds.Pure := by
 intro l _ hl hw
 obtain ⟨K, hK⟩ : ∃ K, K = l.length + 5000 := ⟨_, rfl⟩
 refine ⟨K + 1, ?_⟩
 unfold laws_FnDeadEnds.f laws_big.f
 simp only [Option.bind_some]
 by_cases hb : decide ((l.length : Int) > 1048576) = true
 ·rw [if_pos hb]
 ·rw [if_neg hb]
  obtain ⟨w, h, o, e, hm, hz, hp⟩ := DrawPerfect_tot l (by omega) (K + 1) (by omega) (by omega)
  have hk := (mOk_iff.1 hm).1
  have hn := nCells_bd w h
  have hn1 := hn.2.2 hk
  rw [e]; simp only [Option.bind_some]
  rw [spec_CountCells_eq]; simp only [Option.bind_some]
  obtain ⟨x, ex, x0, _⟩ := at_tot l (by omega) hw 0 (by omega) (by omega)
  obtain ⟨y, ey, y0, _⟩ := at_tot l (by omega) hw 1 (by omega) (by omega)
  rw [ex]; simp only [Option.bind_some]
  rw [if_neg (by omega), ey]; simp only [Option.bind_some]
  have ha : 0 ≤ Int.tmod x (nCells w h) ∧ Int.tmod x (nCells w h) < nCells w h := by
   rw [Int.tmod_eq_emod_of_nonneg x0]
   exact ⟨Int.emod_nonneg _ (by omega), Int.emod_lt_of_pos _ (by omega)⟩
  have hbb : 0 ≤ Int.tmod y (nCells w h) ∧ Int.tmod y (nCells w h) < nCells w h := by
   rw [Int.tmod_eq_emod_of_nonneg y0]
   exact ⟨Int.emod_nonneg _ (by omega), Int.emod_lt_of_pos _ (by omega)⟩
  generalize Int.tmod x (nCells w h) = a at ha
  generalize Int.tmod y (nCells w h) = b at hbb
  rw [impl_Fill_eq [a, b] (by simp) w h o (K + 1) (by simp; omega)]
  simp only [Option.bind_some]
  have hj0 : laws_FnDeadEnds.j0 (K + 1) (nCells w h) a b false w h o w h (fillV [a, b] w h o) = some true := by
   rw [laws_FnDeadEnds.j0, if_neg (by decide), impl_DeadEnds_eq w h o K (by omega)]
   simp only [Option.bind_some]
   have hd := dead_len w h o
   exact deadE_loop hm hz hp ha hbb (deadL w h o).length K 0 (by omega) (by omega)
  by_cases c : nCells w h > 1
  ·have hs := (FI_perfect hm hz hp).2 c
   have hbv : branchV w h o = -2 := by unfold branchV; rw [if_pos hm]; exact hs
   have h2 := leaves_two w h o (nCells w h).toNat
   have hde : (cellsP w h o fun l => ((l.length : Int) == 1)).length = ((numsTo (nCells w h).toNat).filter fun x => ((waysL w h o x).length : Int) == 1).length := by
    unfold cellsP; rw [if_pos hm]
   rw [if_pos c, impl_BranchSum_eq w h o (K + 1) (by omega), hbv]
   simp only [Option.bind_some]
   rw [if_pos trivial, impl_DeadEnds_eq w h o (K + 1) (by omega)]
   simp only [Option.bind_some]
   rw [show decide (((cellsP w h o fun l => ((l.length : Int) == 1)).length : Int) < 2) = false from decide_eq_false (by rw [hde]; omega)]
   exact hj0
  ·rw [if_neg c]; exact hj0

end Go.Proofs.Ytkldibidhjonnaa.Q.P
namespace Go.Proofs.Ytkldibidhjonnaa.Pure
theorem FnDeadEnds : Go.Proofs.Ytkldibidhjonnaa.Q.laws_FnDeadEnds.Pure := Go.Proofs.Ytkldibidhjonnaa.Q.P.FnDeadEnds
end Go.Proofs.Ytkldibidhjonnaa.Pure
