/- The plain law FnWays: for every input that its Go types allow, the printed functions of the program and of the reference answer so that the law's own function says true. No further condition. -/
import Derived.Test.YtpaecckpdaiogaaQx0
import Derived.Test.YtpaecckpdaiogaaQx2
import Derived.Test.YtpaecckpdaiogaaQx3
import Derived.Test.YtpaecckpdaiogaaQx32
import Derived.Test.YtpaecckpdaiogaaQx4
import Derived.Test.YtpaecckpdaiogaaQx41
import Derived.Test.YtpaecckpdaiogaaQx42
import Derived.Test.YtpaecckpdaiogaaQx49
import Derived.Test.YtpaecckpdaiogaaQx5
import Derived.Test.YtpaecckpdaiogaaQx56
import Derived.Test.YtpaecckpdaiogaaQx58
import Derived.Test.YtpaecckpdaiogaaQx59
import Derived.Test.YtpaecckpdaiogaaQx6
import Derived.Test.YtpaecckpdaiogaaQx60
import Derived.Test.YtpaecckpdaiogaaQx61
import Derived.Test.YtpaecckpdaiogaaQx62
import Derived.Test.YtpaecckpdaiogaaQx66
import Derived.Test.YtpaecckpdaiogaaQx69
import Derived.Test.YtpaecckpdaiogaaQx7
import Derived.Test.YtpaecckpdaiogaaQx70
import Derived.Test.YtpaecckpdaiogaaQx71
import Derived.Test.YtpaecckpdaiogaaQx72
import Derived.Test.YtpaecckpdaiogaaQx73
import Derived.Test.YtpaecckpdaiogaaQx8
namespace Go.Proofs.Ytpaecckpdaiogaa.Q.P
open Go.RowKit Go.Proofs.Ytpaecckpdaiogaa.Q Go.Proofs.YtpaecckpdaiogaaW.PrintWords Go.Proofs.YtpaecckpdaiogaaW.PrintLast
set_option linter.unusedVariables false
set_option linter.unusedSimpArgs false

theorem w64_id {x : Int} (h0 : -9223372036854775808 ≤ x) (h1 : x ≤ 9223372036854775807) : wrap64 x = x := by
 unfold wrap64; omega
theorem shl_one {g : Int} (h0 : 0 ≤ g) (h1 : g ≤ 62) : shl .i64 1 g = 2 ^ g.toNat := by
 unfold shl
 rw [i64_w, Nat.min_eq_left (by simp only [IntKind.bits]; omega), Int.one_mul]
 have : (2 : Int) ^ g.toNat ≤ 2 ^ 62 := by
  have := Nat.pow_le_pow_right (n := 2) (by omega) (show g.toNat ≤ 62 by omega)
  exact_mod_cast this
 have h3 : (0 : Int) < 2 ^ g.toNat := by exact_mod_cast Nat.pow_pos (by omega)
 exact w64_id (by omega) (by omega)
theorem shr_nat {o g : Int} (ho : 0 ≤ o) (h1 : g ≤ 64) : shr .i64 o g = ((o.toNat >>> g.toNat : Nat) : Int) := by
 unfold shr
 rw [Nat.min_eq_left (by simp only [IntKind.bits]; omega), Nat.shiftRight_eq_div_pow]
 obtain ⟨n, rfl⟩ := Int.eq_ofNat_of_zero_le ho
 simp only [Int.toNat_natCast]
 rw [Int.natCast_ediv, Int.natCast_pow]; rfl
def bitAt (o g : Int) : Bool := o.toNat.testBit g.toNat
theorem ofInt_nat (x : Nat) : BitVec.ofInt 64 (x : Int) = BitVec.ofNat 64 x := by
 apply BitVec.eq_of_toNat_eq; simp
theorem bits_and_nat {x y : Nat} (hx : x < 9223372036854775808) (hy : y < 9223372036854775808) : Go.bits .and .i64 (x : Int) (y : Int) = ((x &&& y : Nat) : Int) := by
 show IntKind.i64.wrap (((BitVec.ofInt 64 (x : Int)) &&& (BitVec.ofInt 64 (y : Int))).toNat : Int) = _
 rw [i64_w, ofInt_nat, ofInt_nat]
 simp only [BitVec.toNat_and, BitVec.toNat_ofNat]
 rw [Nat.mod_eq_of_lt (by omega), Nat.mod_eq_of_lt (by omega)]
 have := Nat.and_le_left (n := x) (m := y)
 exact w64_id (by omega) (by omega)
theorem bits_and_one {x : Nat} (hx : x < 9223372036854775808) : Go.bits .and .i64 (x : Int) 1 = ((x % 2 : Nat) : Int) := by
 rw [show (1 : Int) = ((1 : Nat) : Int) from rfl, bits_and_nat hx (by omega), Nat.and_one_is_mod]
theorem bit_test {o g : Int} (ho : 0 ≤ o) (ho2 : o ≤ 9223372036854775807) (h1 : g ≤ 64) : (Go.bits .and .i64 (shr .i64 o g) 1 == 1) = bitAt o g := by
 rw [shr_nat ho h1, bits_and_one (by rw [Nat.shiftRight_eq_div_pow]; have := Nat.div_le_self o.toNat (2 ^ g.toNat); omega)]
 unfold bitAt
 rw [Nat.testBit, Bool.eq_iff_iff]
 simp only [beq_iff_eq, bne_iff_ne, ne_eq, Nat.and_comm 1, Nat.and_one_is_mod]
 omega
theorem bits_xor_nat {x y : Nat} (hx : x < 9223372036854775808) (hy : y < 9223372036854775808) : Go.bits .xor .i64 (x : Int) (y : Int) = ((x ^^^ y : Nat) : Int) := by
 show IntKind.i64.wrap (((BitVec.ofInt 64 (x : Int)) ^^^ (BitVec.ofInt 64 (y : Int))).toNat : Int) = _
 rw [i64_w, ofInt_nat, ofInt_nat]
 simp only [BitVec.toNat_xor, BitVec.toNat_ofNat]
 rw [Nat.mod_eq_of_lt (by omega), Nat.mod_eq_of_lt (by omega)]
 have := Nat.xor_lt_two_pow (n := 63) (show x < 2 ^ 63 by omega) (show y < 2 ^ 63 by omega)
 exact w64_id (by omega) (by omega)
theorem bits_or_nat {x y : Nat} (hx : x < 9223372036854775808) (hy : y < 9223372036854775808) : Go.bits .or .i64 (x : Int) (y : Int) = ((x ||| y : Nat) : Int) := by
 show IntKind.i64.wrap (((BitVec.ofInt 64 (x : Int)) ||| (BitVec.ofInt 64 (y : Int))).toNat : Int) = _
 rw [i64_w, ofInt_nat, ofInt_nat]
 simp only [BitVec.toNat_or, BitVec.toNat_ofNat]
 rw [Nat.mod_eq_of_lt (by omega), Nat.mod_eq_of_lt (by omega)]
 have := Nat.or_lt_two_pow (n := 63) (show x < 2 ^ 63 by omega) (show y < 2 ^ 63 by omega)
 exact w64_id (by omega) (by omega)
theorem bits_and_255 (y : Int) : 0 ≤ Go.bits .and .i64 y 255 ∧ Go.bits .and .i64 y 255 ≤ 255 := by
 have e : Go.bits .and .i64 y 255 = (((BitVec.ofInt 64 y) &&& (BitVec.ofInt 64 255)).toNat : Int) := by
  show IntKind.i64.wrap (((BitVec.ofInt 64 y) &&& (BitVec.ofInt 64 255)).toNat : Int) = _
  rw [i64_w]
  have h1 : ((BitVec.ofInt 64 y) &&& (BitVec.ofInt 64 255)).toNat ≤ 255 := by rw [BitVec.toNat_and]; exact Nat.and_le_right
  exact w64_id (by omega) (by omega)
 have h1 : ((BitVec.ofInt 64 y) &&& (BitVec.ofInt 64 255)).toNat ≤ 255 := by rw [BitVec.toNat_and]; exact Nat.and_le_right
 omega
def gOk (w h : Int) : Bool := decide (1 ≤ w) && decide (w ≤ 4) && decide (1 ≤ h) && decide (h ≤ 4)
theorem gOk_iff {w h : Int} : gOk w h = true ↔ 1 ≤ w ∧ w ≤ 4 ∧ 1 ≤ h ∧ h ≤ 4 := by
 unfold gOk; simp only [Bool.and_eq_true, decide_eq_true_eq]; omega
theorem gOk_cases {w h : Int} (hg : gOk w h = true) : (w = 1 ∨ w = 2 ∨ w = 3 ∨ w = 4) ∧ (h = 1 ∨ h = 2 ∨ h = 3 ∨ h = 4) := by
 have := gOk_iff.1 hg; omega
def nCells (w h : Int) : Int := if gOk w h = true then w * h else 0
def nGaps (w h : Int) : Int := if gOk w h = true then (w - 1) * h + w * (h - 1) else 0
def nCorn (w h : Int) : Int := if gOk w h = true then (w + 1) * (h + 1) else 0
def nEast (w h : Int) : Int := (w - 1) * h
theorem nCells_bd (w h : Int) : 0 ≤ nCells w h ∧ nCells w h ≤ 16 ∧ (gOk w h = true → 1 ≤ nCells w h) := by
 unfold nCells
 split
 ·rename_i hg; rcases gOk_cases hg with ⟨rfl | rfl | rfl | rfl, rfl | rfl | rfl | rfl⟩ <;> decide +kernel
 ·rename_i hg; exact ⟨by omega, by omega, fun h => absurd h hg⟩
theorem nGaps_bd (w h : Int) : 0 ≤ nGaps w h ∧ nGaps w h ≤ 24 := by
 unfold nGaps
 split
 ·rename_i hg; rcases gOk_cases hg with ⟨rfl | rfl | rfl | rfl, rfl | rfl | rfl | rfl⟩ <;> decide +kernel
 ·omega
theorem l01In_eq (a b c : Int) : spec_l01In.f a b c = some (decide (b ≤ a) && decide (a ≤ c)) := by
 unfold spec_l01In.f
 by_cases h : a ≥ b
 ·rw [if_pos h]; simp [show b ≤ a from h]
 ·rw [if_neg h]; simp [show ¬ b ≤ a from h]
theorem spec_GridOk_eq (w h : Int) : spec_GridOk.f w h = some (gOk w h) := by
 unfold spec_GridOk.f gOk
 simp only [l01In_eq, Option.bind_some]
 by_cases h1 : 1 ≤ w <;> by_cases h2 : w ≤ 4 <;> simp [h1, h2]
theorem impl_GridOk_eq (w h : Int) : impl_GridOk.f w h = some (gOk w h) := by
 unfold impl_GridOk.f gOk
 by_cases h1 : 1 ≤ w <;> by_cases h2 : w ≤ 4 <;> by_cases h3 : 1 ≤ h <;> simp [h1, h2, h3]
theorem spec_CountCells_eq (w h : Int) : spec_CountCells.f w h = some (nCells w h) := by
 unfold spec_CountCells.f nCells
 rw [spec_GridOk_eq]; simp only [Option.bind_some]
 by_cases hg : gOk w h = true
 ·rw [if_pos hg, if_pos hg]
  rcases gOk_cases hg with ⟨rfl | rfl | rfl | rfl, rfl | rfl | rfl | rfl⟩ <;> decide +kernel
 ·rw [if_neg hg, if_neg hg]
theorem impl_CountCells_eq (w h : Int) : impl_CountCells.f w h = some (nCells w h) := by
 unfold impl_CountCells.f nCells
 rw [impl_GridOk_eq]; simp only [Option.bind_some]
 by_cases hg : gOk w h = true
 ·rw [if_pos hg, if_pos hg]
  rcases gOk_cases hg with ⟨rfl | rfl | rfl | rfl, rfl | rfl | rfl | rfl⟩ <;> decide +kernel
 ·rw [if_neg hg, if_neg hg]
theorem l02East_eq {w h : Int} (hg : gOk w h = true) : spec_l02East.f w h = some (nEast w h) := by
 unfold spec_l02East.f nEast
 rcases gOk_cases hg with ⟨rfl | rfl | rfl | rfl, rfl | rfl | rfl | rfl⟩ <;> decide +kernel
theorem spec_CountGaps_eq (w h : Int) : spec_CountGaps.f w h = some (nGaps w h) := by
 unfold spec_CountGaps.f nGaps
 rw [spec_GridOk_eq]; simp only [Option.bind_some]
 by_cases hg : gOk w h = true
 ·rw [if_pos hg, if_pos hg, l02East_eq hg]
  rcases gOk_cases hg with ⟨rfl | rfl | rfl | rfl, rfl | rfl | rfl | rfl⟩ <;> decide +kernel
 ·rw [if_neg hg, if_neg hg]
theorem impl_CountGaps_eq (w h : Int) : impl_CountGaps.f w h = some (nGaps w h) := by
 unfold impl_CountGaps.f nGaps
 rw [impl_GridOk_eq]; simp only [Option.bind_some]
 by_cases hg : gOk w h = true
 ·rw [if_pos hg, if_pos hg]
  rcases gOk_cases hg with ⟨rfl | rfl | rfl | rfl, rfl | rfl | rfl | rfl⟩ <;> decide +kernel
 ·rw [if_neg hg, if_neg hg]
def mOk (w h o : Int) : Bool := gOk w h && (decide (0 ≤ o) && decide (o < shl .i64 1 (nGaps w h)))
theorem mOk_iff {w h o : Int} : mOk w h o = true ↔ gOk w h = true ∧ 0 ≤ o ∧ o < 2 ^ (nGaps w h).toNat := by
 unfold mOk
 have := nGaps_bd w h
 rw [shl_one (by omega) (by omega)]
 simp only [Bool.and_eq_true, decide_eq_true_eq]
theorem mOk_bd {w h o : Int} (hm : mOk w h o = true) : 0 ≤ o ∧ o < 16777216 := by
 obtain ⟨_, h0, h1⟩ := mOk_iff.1 hm
 have := nGaps_bd w h
 have h2 := Nat.pow_le_pow_right (n := 2) (by omega) (show (nGaps w h).toNat ≤ 24 by omega)
 have h3 : (2 : Int) ^ (nGaps w h).toNat ≤ 2 ^ 24 := by exact_mod_cast h2
 omega
theorem impl_MazeOk_eq (w h o : Int) : impl_MazeOk.f w h o = some (mOk w h o) := by
 unfold impl_MazeOk.f mOk
 have hb := nGaps_bd w h
 simp only [impl_GridOk_eq, impl_CountGaps_eq, Option.bind_some]
 rw [if_pos hb.1]
 by_cases hg : gOk w h = true
 ·rw [if_pos hg, hg, Bool.true_and]
  by_cases h0 : 0 ≤ o
  ·rw [if_pos h0]; simp [h0]
  ·rw [if_neg h0]; simp [h0]
 ·rw [if_neg hg]; simp [hg]
def gapIn (w h g : Int) : Bool := decide (0 ≤ g) && decide (g < nGaps w h)
theorem gapIn_iff {w h g : Int} : gapIn w h g = true ↔ 0 ≤ g ∧ g < nGaps w h := by unfold gapIn; simp
theorem gapIn_spec (w h g : Int) : (decide (0 ≤ g) && decide (g ≤ wrap64 (nGaps w h - 1))) = gapIn w h g := by
 have hb := nGaps_bd w h
 rw [w64_id (by omega) (by omega)]
 unfold gapIn; rw [Bool.eq_iff_iff]; simp; omega
theorem isOpen_eq {w h o g : Int} (hm : mOk w h o = true) (hg : g ≤ 64) : impl_isOpen.f w h o g = some (decide (0 ≤ g) && bitAt o g) := by
 unfold impl_isOpen.f
 have hb := mOk_bd hm
 by_cases h0 : 0 ≤ g
 ·rw [if_pos h0, if_pos h0, bit_test hb.1 (by omega) hg]; simp [h0]
 ·rw [if_neg h0]; simp [h0]
def ends (w h g : Int) : Int × Int :=
 if gapIn w h g = true then (if g < nEast w h then (g / (w - 1) * w + g % (w - 1), g / (w - 1) * w + g % (w - 1) + 1) else (g - nEast w h, g - nEast w h + w)) else (-1, -1)
theorem spec_EndsOf_eq (w h g : Int) : spec_EndsOf.f w h g = some (ends w h g) := by
 unfold spec_EndsOf.f ends
 simp only [spec_CountGaps_eq, l01In_eq, Option.bind_some, gapIn_spec]
 by_cases hg : gapIn w h g = true
 ·rw [if_pos hg, if_pos hg]
  have h1 := gapIn_iff.1 hg
  have hk : gOk w h = true := by
   by_cases hk : gOk w h = true
   ·exact hk
   ·have := h1.2; unfold nGaps at this; rw [if_neg hk] at this; omega
  have h2 : nGaps w h = (w - 1) * h + w * (h - 1) := by unfold nGaps; rw [if_pos hk]
  rw [h2] at h1
  rw [l02East_eq hk]
  simp only [Option.bind_some]
  have e1 : wrap64 (w - 1) = w - 1 := by have := gOk_iff.1 hk; exact w64_id (by omega) (by omega)
  rw [e1]
  by_cases he : g < nEast w h
  ·rw [if_pos he, if_pos he]
   unfold nEast at he
   rcases gOk_cases hk with ⟨rfl | rfl | rfl | rfl, rfl | rfl | rfl | rfl⟩ <;> first | omega | (simp only [Int.reduceSub, Int.tdiv_eq_ediv_of_nonneg h1.1, Int.tmod_eq_emod_of_nonneg h1.1]; rw [if_neg (by decide), w64_id (x := g / _) (by omega) (by omega), w64_id (x := g / _ * _) (by omega) (by omega), w64_id (x := g / _ * _ + g % _) (by omega) (by omega), w64_id (by omega) (by omega)])
  ·rw [if_neg he, if_neg he]
   unfold nEast at he ⊢
   rcases gOk_cases hk with ⟨rfl | rfl | rfl | rfl, rfl | rfl | rfl | rfl⟩ <;> (rw [w64_id (x := g - _) (by omega) (by omega), w64_id (by omega) (by omega)])
 ·rw [if_neg hg, if_neg hg]
def nbr (w h c d : Int) : Int :=
 if 0 ≤ c ∧ c < nCells w h then (if d = 0 then (if 0 < c / w then c - w else -1) else if d = 1 then (if c % w < w - 1 then c + 1 else -1) else if d = 2 then (if c / w < h - 1 then c + w else -1) else if d = 3 then (if 0 < c % w then c - 1 else -1) else -1) else -1
theorem ok_of_cell {w h c : Int} (h0 : 0 ≤ c) (h1 : c < nCells w h) : gOk w h = true := by
 by_cases hk : gOk w h = true
 ·exact hk
 ·unfold nCells at h1; rw [if_neg hk] at h1; omega
theorem nCells_ok {w h : Int} (hk : gOk w h = true) : nCells w h = w * h := by unfold nCells; rw [if_pos hk]
theorem nGaps_ok {w h : Int} (hk : gOk w h = true) : nGaps w h = (w - 1) * h + w * (h - 1) := by unfold nGaps; rw [if_pos hk]
def cellIn (w h c : Int) : Bool := decide (0 ≤ c) && decide (c < nCells w h)
theorem cellIn_iff {w h c : Int} : cellIn w h c = true ↔ 0 ≤ c ∧ c < nCells w h := by unfold cellIn; simp
theorem isCell_eq (w h c : Int) : impl_isCell.f w h c = some (cellIn w h c) := by
 unfold impl_isCell.f cellIn
 rw [impl_CountCells_eq]
 by_cases h0 : 0 ≤ c
 ·rw [if_pos h0]; simp [h0]
 ·rw [if_neg h0]; simp [h0]
theorem cell_xy {w h c : Int} (h0 : 0 ≤ c) (h1 : c < nCells w h) : (0 ≤ c % w ∧ c % w ≤ w - 1) ∧ (0 ≤ c / w ∧ c / w ≤ h - 1) ∧ c = c / w * w + c % w := by
 have hk := ok_of_cell h0 h1
 rw [nCells_ok hk] at h1
 rcases gOk_cases hk with ⟨rfl | rfl | rfl | rfl, rfl | rfl | rfl | rfl⟩ <;> omega
theorem cell_w64 {w h c : Int} (h0 : 0 ≤ c) (h1 : c < nCells w h) : wrap64 (Int.tdiv c w) = c / w ∧ Int.tmod c w = c % w := by
 have := cell_xy h0 h1
 have hw := gOk_iff.1 (ok_of_cell h0 h1)
 rw [Int.tdiv_eq_ediv_of_nonneg h0, Int.tmod_eq_emod_of_nonneg h0]
 exact ⟨w64_id (by omega) (by omega), rfl⟩
theorem impl_Neighbor_eq (k : Nat) (w h c d : Int) : impl_Neighbor.f (k + 3) w h c d = some (nbr w h c d) := by
 unfold impl_Neighbor.f nbr
 simp only [isCell_eq, Option.bind_some]
 by_cases hc : cellIn w h c = true
 ·obtain ⟨h0, h1⟩ := cellIn_iff.1 hc
  have hk := ok_of_cell h0 h1
  have hw := gOk_iff.1 hk
  have hxy := cell_xy h0 h1
  have hb := nCells_bd w h
  obtain ⟨e1, e2⟩ := cell_w64 h0 h1
  rw [if_pos hc, if_pos (show 0 ≤ c ∧ c < nCells w h from ⟨h0, h1⟩), if_neg (show ¬ w = 0 by omega), e1, e2]
  simp only [impl_Neighbor.j0, impl_Neighbor.j1, impl_Neighbor.j2]
  rw [w64_id (x := w - 1) (by omega) (by omega), w64_id (x := h - 1) (by omega) (by omega), w64_id (x := c - w) (by omega) (by omega), w64_id (x := c + w) (by omega) (by omega), w64_id (x := c - 1) (by omega) (by omega), w64_id (x := c + 1) (by omega) (by omega)]
  simp only [decide_eq_true_eq, gt_iff_lt, Bool.false_eq_true, if_false]
  by_cases d0 : d = 0
  ·subst d0; simp; split <;> rfl
  ·by_cases d1 : d = 1
   ·subst d1; simp; split <;> rfl
   ·by_cases d2 : d = 2
    ·subst d2; simp; split <;> rfl
    ·by_cases d3 : d = 3
     ·subst d3; simp
      split <;> rfl
     ·simp [d0, d1, d2, d3]
 ·rw [if_neg hc, if_neg (fun hh => hc (cellIn_iff.2 hh))]
theorem nbr_cases {w h c d : Int} (hn : 0 ≤ nbr w h c d) : (0 ≤ c ∧ c < nCells w h) ∧ ((d = 0 ∧ 0 < c / w ∧ nbr w h c d = c - w) ∨ (d = 1 ∧ c % w < w - 1 ∧ nbr w h c d = c + 1) ∨ (d = 2 ∧ c / w < h - 1 ∧ nbr w h c d = c + w) ∨ (d = 3 ∧ 0 < c % w ∧ nbr w h c d = c - 1)) := by
 unfold nbr at hn ⊢
 by_cases hc : 0 ≤ c ∧ c < nCells w h
 ·rw [if_pos hc] at hn ⊢
  refine ⟨hc, ?_⟩
  by_cases d0 : d = 0
  ·rw [if_pos d0] at hn ⊢
   by_cases z : 0 < c / w
   ·rw [if_pos z]; exact .inl ⟨d0, z, rfl⟩
   ·rw [if_neg z] at hn; omega
  ·rw [if_neg d0] at hn ⊢
   by_cases d1 : d = 1
   ·rw [if_pos d1] at hn ⊢
    by_cases z : c % w < w - 1
    ·rw [if_pos z]; exact .inr (.inl ⟨d1, z, rfl⟩)
    ·rw [if_neg z] at hn; omega
   ·rw [if_neg d1] at hn ⊢
    by_cases d2 : d = 2
    ·rw [if_pos d2] at hn ⊢
     by_cases z : c / w < h - 1
     ·rw [if_pos z]; exact .inr (.inr (.inl ⟨d2, z, rfl⟩))
     ·rw [if_neg z] at hn; omega
    ·rw [if_neg d2] at hn ⊢
     by_cases d3 : d = 3
     ·rw [if_pos d3] at hn ⊢
      by_cases z : 0 < c % w
      ·rw [if_pos z]; exact .inr (.inr (.inr ⟨d3, z, rfl⟩))
      ·rw [if_neg z] at hn; omega
     ·rw [if_neg d3] at hn; omega
 ·rw [if_neg hc] at hn; omega
theorem nbr_bd {w h c d : Int} (hn : 0 ≤ nbr w h c d) : nbr w h c d < nCells w h := by
 obtain ⟨⟨h0, h1⟩, hd⟩ := nbr_cases hn
 have hk := ok_of_cell h0 h1
 rw [nCells_ok hk] at h1 ⊢
 rcases gOk_cases hk with ⟨rfl | rfl | rfl | rfl, rfl | rfl | rfl | rfl⟩ <;> omega
def gapAt (w h c d : Int) : Int :=
 if nbr w h c d < 0 then -1 else if d = 1 ∨ d = 3 then mn c (nbr w h c d) / w * (w - 1) + mn c (nbr w h c d) % w else nEast w h + mn c (nbr w h c d)
theorem mn_bd {w h c d : Int} (hn : 0 ≤ nbr w h c d) : 0 ≤ mn c (nbr w h c d) ∧ mn c (nbr w h c d) < nCells w h := by
 have h1 := nbr_bd hn
 obtain ⟨⟨h2, h3⟩, _⟩ := nbr_cases hn
 unfold mn; split <;> omega
theorem gap_w64 {w h c d : Int} (hn : 0 ≤ nbr w h c d) :
  wrap64 ((wrap64 ((wrap64 (Int.tdiv (mn c (nbr w h c d)) w)) * (wrap64 (w - 1)))) + (Int.tmod (mn c (nbr w h c d)) w)) = mn c (nbr w h c d) / w * (w - 1) + mn c (nbr w h c d) % w ∧ wrap64 (nEast w h + mn c (nbr w h c d)) = nEast w h + mn c (nbr w h c d) ∧ w ≠ 0 ∧ wrap64 ((wrap64 (w - 1)) * h) = nEast w h := by
 obtain ⟨m0, m1⟩ := mn_bd hn
 generalize mn c (nbr w h c d) = m at m0 m1 ⊢
 have hk := ok_of_cell m0 m1
 have hw := gOk_iff.1 hk
 have hxy := cell_xy m0 m1
 have hb := nCells_bd w h
 obtain ⟨e1, e2⟩ := cell_w64 m0 m1
 have e3 : wrap64 (w - 1) = w - 1 := w64_id (by omega) (by omega)
 have p1 : 0 ≤ m / w * (w - 1) ∧ m / w * (w - 1) ≤ 16 := by
  have q0 : 0 ≤ m / w * (w - 1) := Int.mul_nonneg hxy.2.1.1 (by omega)
  have q1 : m / w * (w - 1) = m / w * w - m / w := by rw [Int.mul_sub, Int.mul_one]
  omega
 have p2 : 0 ≤ nEast w h ∧ nEast w h ≤ 12 := by
  unfold nEast
  rcases gOk_cases hk with ⟨rfl | rfl | rfl | rfl, rfl | rfl | rfl | rfl⟩ <;> decide
 rw [e1, e2, e3, w64_id (x := m / w * (w - 1)) (by omega) (by omega)]
 refine ⟨w64_id (by omega) (by omega), w64_id (by omega) (by omega), by omega, ?_⟩
 have : (w - 1) * h = nEast w h := rfl
 rw [this]; exact w64_id (by omega) (by omega)
theorem impl_GapAt_eq (k : Nat) (w h c d : Int) : impl_GapAt.f (k + 3) w h c d = some (gapAt w h c d) := by
 unfold impl_GapAt.f gapAt
 rw [impl_Neighbor_eq]; simp only [Option.bind_some]
 by_cases hn : nbr w h c d < 0
 ·rw [if_pos hn, if_pos hn]
 ·rw [if_neg hn, if_neg hn]
  obtain ⟨e1, e2, e3, e4⟩ := gap_w64 (w := w) (h := h) (c := c) (d := d) (by omega)
  rw [if_neg e3, e1, e4, e2]
  by_cases d1 : d = 1
  ·rw [if_pos d1, if_pos (.inl d1)]
  ·rw [if_neg d1]
   by_cases d3 : d = 3
   ·rw [if_pos d3, if_pos (.inr d3)]
   ·rw [if_neg d3, if_neg (by omega)]
theorem gapAt_nonneg {w h c d : Int} : 0 ≤ gapAt w h c d ↔ 0 ≤ nbr w h c d := by
 unfold gapAt
 by_cases hn : nbr w h c d < 0
 ·rw [if_pos hn]; omega
 ·rw [if_neg hn]
  have hn' : 0 ≤ nbr w h c d := by omega
  obtain ⟨m0, m1⟩ := mn_bd hn'
  have hk := ok_of_cell m0 m1
  have hw := gOk_iff.1 hk
  have hxy := cell_xy m0 m1
  have q0 : 0 ≤ mn c (nbr w h c d) / w * (w - 1) := Int.mul_nonneg hxy.2.1.1 (by omega)
  have q1 : 0 ≤ nEast w h := Int.mul_nonneg (by omega) (by omega)
  split <;> omega
theorem gapAt_bd {w h c d : Int} (hn : 0 ≤ nbr w h c d) : 0 ≤ gapAt w h c d ∧ gapAt w h c d < nGaps w h := by
 refine ⟨gapAt_nonneg.2 hn, ?_⟩
 obtain ⟨⟨h0, h1⟩, hd⟩ := nbr_cases hn
 have hk := ok_of_cell h0 h1
 unfold gapAt mn nEast
 rw [if_neg (by omega), nGaps_ok hk]
 rw [nCells_ok hk] at h1
 rcases hd with ⟨rfl, z, e⟩ | ⟨rfl, z, e⟩ | ⟨rfl, z, e⟩ | ⟨rfl, z, e⟩ <;> rw [e] <;> simp only [Int.reduceEq, or_false, or_true, false_or, or_self, if_true, if_false] <;>
  rcases gOk_cases hk with ⟨rfl | rfl | rfl | rfl, rfl | rfl | rfl | rfl⟩ <;> split <;> omega
def stp (w h o c d : Int) : Int :=
 if mOk w h o = true then (if 0 ≤ gapAt w h c d ∧ bitAt o (gapAt w h c d) = true then nbr w h c d else -1) else -1
theorem gapAt_le {w h c d : Int} : gapAt w h c d ≤ 64 := by
 by_cases hn : 0 ≤ nbr w h c d
 ·have := gapAt_bd hn
  have := nGaps_bd w h
  omega
 ·have : ¬ 0 ≤ gapAt w h c d := fun hh => hn (gapAt_nonneg.1 hh)
  omega
theorem impl_Step_eq (k : Nat) (w h o c d : Int) : impl_Step.f (k + 3) w h o c d = some (stp w h o c d) := by
 unfold impl_Step.f stp
 simp only [impl_MazeOk_eq, impl_GapAt_eq, impl_Neighbor_eq, Option.bind_some]
 by_cases hm : mOk w h o = true
 ·rw [if_pos hm, if_pos hm, isOpen_eq hm gapAt_le]
  simp only [Option.bind_some, Bool.and_eq_true, decide_eq_true_eq]
  split <;> rfl
 ·rw [if_neg hm, if_neg hm]
theorem stp_bd {w h o c d : Int} (hs : 0 ≤ stp w h o c d) : mOk w h o = true ∧ (0 ≤ c ∧ c < nCells w h) ∧ (0 ≤ d ∧ d ≤ 3) ∧ stp w h o c d < nCells w h ∧ stp w h o c d = nbr w h c d := by
 unfold stp at hs ⊢
 by_cases hm : mOk w h o = true
 ·rw [if_pos hm] at hs ⊢
  by_cases hp : 0 ≤ gapAt w h c d ∧ bitAt o (gapAt w h c d) = true
  ·rw [if_pos hp] at hs ⊢
   obtain ⟨h1, h2⟩ := nbr_cases hs
   exact ⟨hm, h1, by omega, nbr_bd hs, rfl⟩
  ·rw [if_neg hp] at hs; omega
 ·rw [if_neg hm] at hs; omega
def waysL (w h o c : Int) : List Int := [0, 1, 2, 3].filter fun d => decide (0 ≤ stp w h o c d)
theorem impl_WaysFrom_eq (k : Nat) (w h o c : Int) : impl_WaysFrom.f (k + 8) w h o c = some (waysL w h o c) := by
 unfold impl_WaysFrom.f waysL
 simp only [impl_WaysFrom.l0, impl_Step_eq, Option.bind_some, show wrap64 (0 + 1) = 1 from by decide +kernel, show wrap64 (1 + 1) = 2 from by decide +kernel, show wrap64 (2 + 1) = 3 from by decide +kernel, show wrap64 (3 + 1) = 4 from by decide +kernel]
 by_cases h0 : 0 ≤ stp w h o c 0 <;> by_cases h1 : 0 ≤ stp w h o c 1 <;> by_cases h2 : 0 ≤ stp w h o c 2 <;> by_cases h3 : 0 ≤ stp w h o c 3 <;> simp [h0, h1, h2, h3, List.filter]
theorem l01New_tot (l : List Int) (hl : l.length ≤ 140737488351232) (d : Nat) : ∀ (k : Nat) (h i : Int), 0 ≤ i → (l.length : Int) - i ≤ d → d < k → ∃ h', spec_l01New.l0 k l h i = some (l, 0, h') := by
 induction d with
 | zero =>
  intro k h i h0 hd hk
  obtain ⟨k, rfl⟩ : ∃ m, k = m + 1 := ⟨k - 1, by omega⟩
  simp only [spec_l01New.l0]; rw [if_neg (by omega)]; exact ⟨_, rfl⟩
 | succ d ih =>
  intro k h i h0 hd hk
  obtain ⟨k, rfl⟩ : ∃ m, k = m + 1 := ⟨k - 1, by omega⟩
  simp only [spec_l01New.l0]
  by_cases h1 : i < (l.length : Int)
  ·rw [if_pos h1]
   by_cases h2 : i < 4000
   ·rw [if_pos h2, if_pos h0, w64_id (x := i + 1) (by omega) (by omega)]
    exact ih _ _ _ (by omega) (by omega) (by omega)
   ·rw [if_neg h2]; exact ⟨_, rfl⟩
  ·rw [if_neg h1]; exact ⟨_, rfl⟩
theorem l01New_eq (l : List Int) (hl : l.length ≤ 140737488351232) (k : Nat) (hk : l.length < k) : ∃ h', spec_l01New.f k l = some (l, 0, h') := by
 unfold spec_l01New.f
 exact l01New_tot l hl l.length k _ _ (by omega) (by omega) hk
theorem l01Byte_tot (l : List Int) (hl : l.length ≤ 140737488351232) (i h : Int) (h0 : 0 ≤ i) : ∃ x i' h', spec_l01Byte.f l i h = some (x, i', h') ∧ 0 ≤ x ∧ x ≤ 255 ∧ 0 ≤ i' := by
 unfold spec_l01Byte.f
 by_cases h1 : i < (l.length : Int)
 ·rw [if_pos h1, if_pos h0, w64_id (x := i + 1) (by omega) (by omega)]
  exact ⟨_, _, _, rfl, (bits_and_255 _).1, (bits_and_255 _).2, by omega⟩
 ·rw [if_neg h1]
  exact ⟨_, _, _, rfl, (bits_and_255 _).1, (bits_and_255 _).2, h0⟩
theorem l01Below_tot (l : List Int) (hl : l.length ≤ 140737488351232) (i h n : Int) (h0 : 0 ≤ i) : ∃ x i' h', spec_l01Below.f l i h n = some (x, i', h') ∧ 0 ≤ x ∧ (0 < n → x < n) ∧ (n ≤ 0 → x = 0) ∧ 0 ≤ i' := by
 unfold spec_l01Below.f
 by_cases h1 : n ≤ 0
 ·rw [if_pos h1]; exact ⟨_, _, _, rfl, by omega, by omega, fun _ => rfl, h0⟩
 ·rw [if_neg h1]
  by_cases h2 : n ≤ 256
  ·rw [if_pos h2]
   obtain ⟨x, i', h', e, x0, x1, i0⟩ := l01Byte_tot l hl i h h0
   rw [e]; simp only [Option.bind_some]
   rw [if_neg (by omega), Int.tmod_eq_emod_of_nonneg x0]
   exact ⟨_, _, _, rfl, Int.emod_nonneg _ (by omega), fun _ => Int.emod_lt_of_pos _ (by omega), fun hh => by omega, i0⟩
  ·rw [if_neg h2]
   obtain ⟨x, i1, h1', e, x0, x1, i0⟩ := l01Byte_tot l hl i h h0
   rw [e]; simp only [Option.bind_some]
   obtain ⟨y, i2, h2', e, y0, y1, i0⟩ := l01Byte_tot l hl i1 h1' i0
   rw [e]; simp only [Option.bind_some]
   obtain ⟨z, i3, h3', e, z0, z1, i0⟩ := l01Byte_tot l hl i2 h2' i0
   rw [e]; simp only [Option.bind_some]
   obtain ⟨u, i4, h4', e, u0, u1, i0⟩ := l01Byte_tot l hl i3 h3' i0
   rw [e]; simp only [Option.bind_some]
   rw [if_neg (by omega), w64_id (x := x * 16777216) (by omega) (by omega), w64_id (x := y * 65536) (by omega) (by omega), w64_id (x := z * 256) (by omega) (by omega), w64_id (x := x * 16777216 + y * 65536) (by omega) (by omega), w64_id (x := x * 16777216 + y * 65536 + z * 256) (by omega) (by omega), w64_id (by omega) (by omega), Int.tmod_eq_emod_of_nonneg (by omega)]
   exact ⟨_, _, _, rfl, Int.emod_nonneg _ (by omega), fun _ => Int.emod_lt_of_pos _ (by omega), fun hh => by omega, i0⟩
theorem l01Once_tot (l : List Int) (hl : l.length ≤ 140737488351232) (i h n : Int) (h0 : 0 ≤ i) : ∃ x i' h', spec_l01Once.f l i h n = some (x, i', h') ∧ 0 ≤ i' := by
 unfold spec_l01Once.f
 obtain ⟨x, i', h', e, x0, _, _, i0⟩ := l01Below_tot l hl i h n h0
 rw [e]; simp only [Option.bind_some]
 exact ⟨_, _, _, rfl, i0⟩
theorem l01PickInt_tot (l : List Int) (hl : l.length ≤ 140737488351232) (i h : Int) (xs : List Int) (hx : 0 < xs.length) (h0 : 0 ≤ i) : ∃ x i' h', spec_l01PickInt.f l i h xs = some (x, i', h') ∧ x ∈ xs ∧ 0 ≤ i' := by
 unfold spec_l01PickInt.f
 obtain ⟨x, i', h', e, x0, x1, _, i0⟩ := l01Below_tot l hl i h xs.length h0
 rw [e]; simp only [Option.bind_some]
 have hlt := x1 (by omega)
 rw [if_pos x0, if_pos hlt]
 refine ⟨_, _, _, rfl, ?_, i0⟩
 unfold rd
 rw [List.getD_eq_getElem?_getD, List.getElem?_eq_getElem (by omega)]
 exact List.getElem_mem _
theorem l02Grid_tot (l : List Int) (hl : l.length ≤ 140737488351232) (i h : Int) (h0 : 0 ≤ i) : ∃ x y i' h', spec_l02Grid.f l i h = some (x, y, i', h') ∧ gOk x y = true ∧ 0 ≤ i' := by
 unfold spec_l02Grid.f
 obtain ⟨x, i1, h1, e, hx, i0⟩ := l01PickInt_tot l hl i h [1, 2, 3, 3, 4] (by decide) h0
 rw [e]; simp only [Option.bind_some]
 obtain ⟨y, i2, h2, e, hy, i0⟩ := l01PickInt_tot l hl i1 h1 [1, 2, 3, 3, 4] (by decide) i0
 rw [e]; simp only [Option.bind_some]
 refine ⟨_, _, _, _, rfl, ?_, i0⟩
 simp only [List.mem_cons, List.not_mem_nil, or_false] at hx hy
 rw [gOk_iff]; omega
theorem ok_of_gap {w h g : Int} (hg : gapIn w h g = true) : gOk w h = true := by
 have h1 := gapIn_iff.1 hg
 by_cases hk : gOk w h = true
 ·exact hk
 ·have := h1.2; unfold nGaps at this; rw [if_neg hk] at this; omega
def setG (o g : Int) (b : Bool) : Int := if bitAt o g = b then o else ((o.toNat ^^^ 2 ^ g.toNat : Nat) : Int)
theorem two_pow_le {g : Int} (h1 : g ≤ 24) : 2 ^ g.toNat ≤ 16777216 := by
 have := Nat.pow_le_pow_right (n := 2) (by omega) (show g.toNat ≤ 24 by omega)
 omega
theorem shl_nat {g : Int} (h0 : 0 ≤ g) (h1 : g ≤ 24) : shl .i64 1 g = ((2 ^ g.toNat : Nat) : Int) := by
 rw [shl_one h0 (by omega)]; simp
theorem bit_setG {o g : Int} {b : Bool} (g2 : Int) (h0 : 0 ≤ g) (h2 : 0 ≤ g2) : bitAt (setG o g b) g2 = if g2 = g then b else bitAt o g2 := by
 unfold setG
 by_cases e : bitAt o g = b
 ·rw [if_pos e]
  by_cases e2 : g2 = g
  ·rw [if_pos e2, e2, e]
  ·rw [if_neg e2]
 ·rw [if_neg e]
  unfold bitAt at e ⊢
  rw [Int.toNat_natCast, Nat.testBit_xor, Nat.testBit_two_pow]
  by_cases e2 : g2 = g
  ·subst e2
   rw [if_pos rfl]
   simp only [decide_true, Bool.xor_true]
   cases b <;> simp_all
  ·rw [if_neg e2]
   have : ¬ g.toNat = g2.toNat := by omega
   simp [this]
theorem setG_bd {o g : Int} {b : Bool} (n : Int) (ho : 0 ≤ o) (hl : o < 2 ^ n.toNat) (h0 : 0 ≤ g) (h1 : g < n) : 0 ≤ setG o g b ∧ setG o g b < 2 ^ n.toNat := by
 unfold setG
 split
 ·exact ⟨ho, hl⟩
 ·refine ⟨by omega, ?_⟩
  have a1 : o.toNat < 2 ^ n.toNat := by
   have : ((o.toNat : Nat) : Int) < ((2 ^ n.toNat : Nat) : Int) := by rw [Int.toNat_of_nonneg ho]; simpa using hl
   exact_mod_cast this
  have a2 : 2 ^ g.toNat < 2 ^ n.toNat := Nat.pow_lt_pow_right (by omega) (by omega)
  have := Nat.xor_lt_two_pow a1 a2
  exact_mod_cast this
theorem mOk_setG {w h o g : Int} {b : Bool} (hm : mOk w h o = true) (hg : gapIn w h g = true) : mOk w h (setG o g b) = true := by
 obtain ⟨hk, h0, h1⟩ := mOk_iff.1 hm
 obtain ⟨g0, g1⟩ := gapIn_iff.1 hg
 obtain ⟨s0, s1⟩ := setG_bd (b := b) (nGaps w h) h0 h1 g0 g1
 exact mOk_iff.2 ⟨hk, s0, s1⟩
theorem xor_setG {o g : Int} (ho : 0 ≤ o) (ho2 : o < 16777216) (h0 : 0 ≤ g) (h1 : g ≤ 24) : Go.bits .xor .i64 o (shl .i64 1 g) = ((o.toNat ^^^ 2 ^ g.toNat : Nat) : Int) := by
 have := two_pow_le h1
 rw [shl_nat h0 h1]
 obtain ⟨n, rfl⟩ := Int.eq_ofNat_of_zero_le ho
 rw [bits_xor_nat (by omega) (by omega)]; simp
theorem waysL_len (w h o c : Int) : (waysL w h o c).length ≤ 4 := by
 unfold waysL
 exact Nat.le_trans (List.length_filter_le _ _) (by decide)
def pcN (o : Nat) : Nat → Nat
 | 0 => 0
 | n + 1 => pcN o n + (if o.testBit n then 1 else 0)
def pcnt (w h o : Int) : Int := if mOk w h o = true then ((pcN o.toNat (nGaps w h).toNat : Nat) : Int) else 0
def dirIn (c : Int) : Bool := decide (0 ≤ c) && decide (c ≤ 3)
theorem dirB_eq (c : Int) : dirB c = dirIn c := by
 unfold dirB impl_isDirection.f dirIn
 by_cases h : c ≥ 0
 ·rw [if_pos h]; simp [show (0 : Int) ≤ c from h]
 ·rw [if_neg h]; simp [show ¬ (0 : Int) ≤ c from h]
theorem areDirections_eq (l : List Int) : impl_areDirections.f l = some (l.all dirIn) := by
 unfold impl_areDirections.f
 rw [show (fun c => !dirB c) = fun c => !dirIn c from funext fun c => by rw [dirB_eq]]
 simp [List.all_eq_not_any_not]
theorem rd_mem (l : List Int) (i : Nat) (h1 : i < l.length) : rd l i = l[i] := by
 unfold rd; simp [List.getD_eq_getElem?_getD, h1]
def revL (l : List Int) : Nat → List Int → List Int
 | 0, acc => acc
 | i + 1, acc => revL l i (acc ++ [Int.tmod (wrap64 (rd l i + 2)) 4])
theorem impl_rev (l : List Int) (hl : l.length ≤ 1000000000000) (i : Nat) : ∀ (k : Nat) (acc : List Int), i < k → i ≤ l.length → acc.length + i ≤ 1000000000000 → impl_ReverseWay.l0 k l acc ((i : Int) - 1) = some (revL l i acc) := by
 induction i with
 | zero =>
  intro k acc hk hi ha
  obtain ⟨k, rfl⟩ : ∃ m, k = m + 1 := ⟨k - 1, by omega⟩
  simp only [impl_ReverseWay.l0]; rw [if_neg (by omega)]; rfl
 | succ i ih =>
  intro k acc hk hi ha
  obtain ⟨k, rfl⟩ : ∃ m, k = m + 1 := ⟨k - 1, by omega⟩
  simp only [impl_ReverseWay.l0]
  rw [show ((i + 1 : Nat) : Int) - 1 = (i : Int) by omega, if_pos (by omega), if_pos (by omega), if_pos (by omega), if_pos (by omega), w64_id (x := (i : Int) - 1) (by omega) (by omega)]
  exact ih k _ (by omega) (by omega) (by simp; omega)
def revW (l : List Int) : List Int := if l.all dirIn = true then revL l l.length [] else []
theorem impl_ReverseWay_eq (l : List Int) (hl : l.length ≤ 1000000000) (k : Nat) (hk : l.length < k) : impl_ReverseWay.f k l = some (revW l) := by
 unfold impl_ReverseWay.f revW
 rw [areDirections_eq, w64_id (x := (l.length : Int) - 1) (by omega) (by omega)]
 simp only [Option.bind_some]
 by_cases hw : l.all dirIn = true
 ·rw [if_pos hw, if_pos hw]; exact impl_rev l (by omega) l.length k [] (by omega) (by omega) (by simp; omega)
 ·rw [if_neg hw, if_neg hw]
def nesw : ByteArray := ⟨#[78, 69, 83, 87]⟩
theorem strOfNums_size (a : List Int) : (strOfNums a).size = a.length := by
 show (strOfNums a).data.size = _
 simp [strOfNums]
def bfs1 (w h o c : Int) (s : List Int × List Int) (d : Int) : List Int × List Int :=
 if 0 ≤ stp w h o c d ∧ rd s.1 (stp w h o c d) < 0 then (s.1.set (stp w h o c d).toNat (rd s.1 c + 1), s.2 ++ [stp w h o c d]) else s
def bfsCell (w h o c : Int) (s : List Int × List Int) : List Int × List Int := [0, 1, 2, 3].foldl (bfs1 w h o c) s
def bfsRun (w h o : Int) : Nat → Int → List Int × List Int → List Int
 | 0, _, s => s.1
 | n + 1, i, s => if i < (s.2.length : Int) then bfsRun w h o n (i + 1) (bfsCell w h o (rd s.2 i) s) else s.1
def distL (w h o c : Int) : List Int := bfsRun w h o 17 0 ((List.replicate (nCells w h).toNat (-1)).set c.toNat 0, [c])
def negs (D : List Int) : Nat := (D.filter fun x => decide (x < 0)).length
theorem negs_set (D : List Int) (v : Int) (hv : 0 ≤ v) : ∀ (i : Nat), i < D.length → rd D i < 0 → negs (D.set i v) + 1 = negs D := by
 induction D with
 | nil => intro i hi; simp at hi
 | cons x D ih =>
  intro i hi hr
  cases i with
  | zero =>
   have hx : x < 0 := by simpa [rd] using hr
   simp [negs, hx, show ¬ v < 0 by omega]
  | succ i =>
   have := ih i (by simpa using hi) (by simpa [rd] using hr)
   unfold negs at this ⊢
   rw [List.set_cons_succ, List.filter_cons, List.filter_cons]
   split <;> (try simp only [List.length_cons]) <;> omega
theorem rd_set (D : List Int) (i j v : Int) (h0 : 0 ≤ i) (h1 : i < D.length) (h2 : 0 ≤ j) : rd (D.set i.toNat v) j = if j = i then v else rd D j := by
 unfold rd
 by_cases e : j = i
 ·subst e; rw [if_pos rfl, List.getD_eq_getElem?_getD, List.getElem?_set_self (by omega)]; rfl
 ·rw [if_neg e, List.getD_eq_getElem?_getD, List.getElem?_set_ne (by omega), ← List.getD_eq_getElem?_getD]
def bfsOk (w h : Int) (s : List Int × List Int) : Prop :=
 (s.1.length : Int) = nCells w h ∧ (∀ x ∈ s.2, 0 ≤ x ∧ x < nCells w h ∧ 0 ≤ rd s.1 x) ∧ (∀ x : Int, 0 ≤ x → x < nCells w h → -1 ≤ rd s.1 x ∧ rd s.1 x < s.2.length) ∧ negs s.1 + s.2.length = (nCells w h).toNat
theorem bfs1_ok {w h o c : Int} {s : List Int × List Int} (hs : bfsOk w h s) (hc : c ∈ s.2) (d : Int) : bfsOk w h (bfs1 w h o c s d) ∧ c ∈ (bfs1 w h o c s d).2 ∧ s.2 <+: (bfs1 w h o c s d).2 := by
 unfold bfs1
 split
 ·rename_i hq
  obtain ⟨_, _, _, hb, _⟩ := stp_bd hq.1
  obtain ⟨h1, h2, h3, h4⟩ := hs
  obtain ⟨c0, c1, c2⟩ := h2 c hc
  have hlen : stp w h o c d < s.1.length := by omega
  have hsz : ∀ j : Int, 0 ≤ j → rd (s.1.set (stp w h o c d).toNat (rd s.1 c + 1)) j = if j = stp w h o c d then rd s.1 c + 1 else rd s.1 j := fun j hj => rd_set s.1 _ j _ hq.1 hlen hj
  refine ⟨⟨?_, ?_, ?_, ?_⟩, ?_, ?_⟩
  ·simpa using h1
  ·intro x hx
   rcases List.mem_append.1 hx with hx | hx
   ·obtain ⟨a, b, e⟩ := h2 x hx
    refine ⟨a, b, ?_⟩
    show 0 ≤ rd (s.1.set _ _) x
    rw [hsz x a]; split <;> omega
   ·have hx : x = stp w h o c d := by simpa using hx
    subst hx
    refine ⟨hq.1, hb, ?_⟩
    show 0 ≤ rd (s.1.set _ _) _
    rw [hsz _ hq.1, if_pos rfl]; omega
  ·intro x x0 x1
   have := h3 x x0 x1
   have := h3 c c0 c1
   show -1 ≤ rd (s.1.set _ _) x ∧ rd (s.1.set _ _) x < ((s.2 ++ [_]).length : Nat)
   rw [hsz x x0]
   simp only [List.length_append, List.length_cons, List.length_nil]
   split <;> omega
  ·have := negs_set s.1 (rd s.1 c + 1) (by omega) (stp w h o c d).toNat (by omega) (by rw [Int.toNat_of_nonneg hq.1]; exact hq.2)
   show negs (s.1.set _ _) + (s.2 ++ [_]).length = _
   simp only [List.length_append, List.length_cons, List.length_nil]
   omega
  ·exact List.mem_append_left _ hc
  ·exact List.prefix_append _ _
 ·exact ⟨hs, hc, List.prefix_refl _⟩
theorem bfs_fold_ok {w h o c : Int} (L : List Int) : ∀ {s : List Int × List Int} (_ : bfsOk w h s) (_ : c ∈ s.2), bfsOk w h (L.foldl (bfs1 w h o c) s) ∧ c ∈ (L.foldl (bfs1 w h o c) s).2 ∧ s.2 <+: (L.foldl (bfs1 w h o c) s).2 := by
 induction L with
 | nil => intro s hs hc; exact ⟨hs, hc, List.prefix_refl _⟩
 | cons d L ih =>
  intro s hs hc
  obtain ⟨a, b, e⟩ := bfs1_ok (o := o) hs hc d
  obtain ⟨a2, b2, e2⟩ := ih a b
  exact ⟨a2, b2, e.trans e2⟩
theorem bfs_fold_ways {w h o c : Int} (L : List Int) : ∀ (s : List Int × List Int), (L.filter fun d => decide (0 ≤ stp w h o c d)).foldl (bfs1 w h o c) s = L.foldl (bfs1 w h o c) s := by
 induction L with
 | nil => intro s; rfl
 | cons d L ih =>
  intro s
  rw [List.filter_cons]
  by_cases hd : 0 ≤ stp w h o c d
  ·rw [if_pos (by simpa using hd), List.foldl_cons, List.foldl_cons, ih]
  ·rw [if_neg (by simpa using hd), List.foldl_cons, ih]
   congr 1
   unfold bfs1; rw [if_neg (fun hh => hd hh.1)]
theorem ok_len {w h : Int} {s : List Int × List Int} (hs : bfsOk w h s) : s.2.length ≤ 16 := by
 have := nCells_bd w h
 have := hs.2.2.2
 omega
theorem prefix_rd {p q : List Int} (hp : p <+: q) (i : Int) (h0 : 0 ≤ i) (h1 : i < p.length) : rd q i = rd p i := by
 obtain ⟨t, rfl⟩ := hp
 unfold rd
 rw [List.getD_eq_getElem?_getD, List.getD_eq_getElem?_getD, List.getElem?_append_left (by omega)]
theorem rd_in {q : List Int} {i : Int} (h0 : 0 ≤ i) (h1 : i < q.length) : rd q i ∈ q := by
 unfold rd; rw [List.getD_eq_getElem?_getD, List.getElem?_eq_getElem (by omega)]; exact List.getElem_mem _
theorem bfsCell_ok {w h o c : Int} {s : List Int × List Int} (hs : bfsOk w h s) (hc : c ∈ s.2) : bfsOk w h (bfsCell w h o c s) ∧ s.2 <+: (bfsCell w h o c s).2 := by
 obtain ⟨a, _, b⟩ := bfs_fold_ok (o := o) [0, 1, 2, 3] hs hc
 exact ⟨a, b⟩
theorem replicate_rd (n : Nat) (v i : Int) (h0 : 0 ≤ i) (h1 : i < n) : rd (List.replicate n v) i = v := by
 unfold rd; rw [List.getD_eq_getElem?_getD, List.getElem?_replicate, if_pos (by omega)]; rfl
theorem bfs_start {w h c : Int} (h0 : 0 ≤ c) (h1 : c < nCells w h) : bfsOk w h ((List.replicate (nCells w h).toNat (-1)).set c.toNat 0, [c]) := by
 have hn := nCells_bd w h
 have hlen : ((List.replicate (nCells w h).toNat (-1 : Int)).length : Int) = nCells w h := by simp; omega
 refine ⟨by simp; omega, ?_, ?_, ?_⟩
 ·intro x hx
  have hx : x = c := by simpa using hx
  subst hx
  refine ⟨h0, h1, ?_⟩
  show 0 ≤ rd (List.set _ _ _) x
  rw [rd_set _ _ _ _ h0 (by omega) h0, if_pos rfl]; omega
 ·intro x x0 x1
  show -1 ≤ rd (List.set _ _ _) x ∧ rd (List.set _ _ _) x < (([c] : List Int).length : Nat)
  rw [rd_set _ _ _ _ h0 (by omega) x0, replicate_rd _ _ _ x0 (by omega)]
  split <;> simp
 ·have := negs_set (List.replicate (nCells w h).toNat (-1)) 0 (by omega) c.toNat (by omega) (by rw [Int.toNat_of_nonneg h0, replicate_rd _ _ _ h0 (by omega)]; omega)
  have e : negs (List.replicate (nCells w h).toNat (-1)) = (nCells w h).toNat := by unfold negs; rw [List.filter_replicate]; simp
  show negs (List.set _ _ _) + 1 = _
  omega
theorem impl_l1 {w h o c : Int} (L : List Int) (hL : ∀ d ∈ L, 0 ≤ stp w h o c d) (hL4 : L.length ≤ 4) (i : Int) (i0 : 0 ≤ i) (rest : List Int) : ∀ (k j : Nat) (s : List Int × List Int), bfsOk w h s → rd s.2 i = c → i < s.2.length → L.drop j = rest → j ≤ L.length →
  impl_distances.l1 (k + 3 + rest.length + 1) s.1 s.2 i L (L.length : Int) j w h o = impl_distances.l0 (k + 3) (rest.foldl (bfs1 w h o c) s).1 (rest.foldl (bfs1 w h o c) s).2 (i + 1) w h o := by
 induction rest with
 | nil =>
  intro k j s hs hc i1 hd hj
  have hl := ok_len hs
  have := List.drop_eq_nil_iff.1 hd
  have e : j = L.length := by omega
  subst e
  simp only [List.length_nil, Nat.add_zero, List.foldl_nil]
  generalize k + 3 = m
  simp only [impl_distances.l1]
  rw [if_neg (by omega), w64_id (x := i + 1) (by omega) (by omega)]
 | cons d rest ih =>
  intro k j s hs hc i1 hd hj
  have hl := ok_len hs
  have hjl : j < L.length := by
   have := congrArg List.length hd
   simp at this; omega
  have hdj : L[j] = d ∧ L.drop (j + 1) = rest := by
   rw [List.drop_eq_getElem_cons hjl] at hd
   exact ⟨(List.cons.inj hd).1, (List.cons.inj hd).2⟩
  have hcm : c ∈ s.2 := hc ▸ rd_in i0 i1
  have hst := hL d (hdj.1 ▸ List.getElem_mem hjl)
  obtain ⟨a1, b1, e1⟩ := bfs1_ok (o := o) hs hcm d
  have hgo := ih k (j + 1) (bfs1 w h o c s d) a1 (by rw [prefix_rd e1 i i0 i1, hc]) (by have := e1.length_le; omega) hdj.2 (by omega)
  have est : impl_Step.f (k + 3 + rest.length + 1) w h o c d = some (stp w h o c d) := by
   rw [show k + 3 + rest.length + 1 = (k + rest.length + 1) + 3 by omega]; exact impl_Step_eq _ _ _ _ _ _
  rw [show k + 3 + (d :: rest).length + 1 = (k + 3 + rest.length + 1) + 1 by simp; omega]
  generalize k + 3 + rest.length + 1 = m at hgo est ⊢
  simp only [impl_distances.l1]
  have erd : rd L (j : Int) = d := by rw [← hdj.1]; unfold rd; simp [List.getD_eq_getElem?_getD, hjl]
  obtain ⟨h1, h2, h3, h4⟩ := hs
  obtain ⟨c0, c1, c2⟩ := h2 _ hcm
  have hv := h3 _ c0 c1
  obtain ⟨_, _, _, hb, _⟩ := stp_bd hst
  rw [if_pos (by omega), if_pos (by omega), if_pos (by omega), if_pos i0, if_pos i1, hc, erd, est, w64_id (x := (j : Int) + 1) (by omega) (by omega)]
  simp only [Option.bind_some, List.foldl_cons]
  rw [if_pos hst, if_pos (by omega)]
  by_cases hr : rd s.1 (stp w h o c d) < 0
  ·rw [if_pos hr, if_pos c0, if_pos (by omega), if_pos (by omega), w64_id (x := rd s.1 c + 1) (by omega) (by omega)]
   have e : bfs1 w h o c s d = (s.1.set (stp w h o c d).toNat (rd s.1 c + 1), s.2 ++ [stp w h o c d]) := by unfold bfs1; rw [if_pos ⟨hst, hr⟩]
   rw [e] at hgo ⊢
   simpa using hgo
  ·rw [if_neg hr]
   have e : bfs1 w h o c s d = s := by unfold bfs1; rw [if_neg (fun hh => hr hh.2)]
   rw [e] at hgo ⊢
   simpa using hgo
theorem impl_run {w h o : Int} (n : Nat) : ∀ (k : Nat) (s : List Int × List Int) (i : Int), bfsOk w h s → 0 ≤ i → 17 - i ≤ n → i ≤ s.2.length → 20 * n + 20 ≤ k → impl_distances.l0 k s.1 s.2 i w h o = some (bfsRun w h o n i s) := by
 induction n with
 | zero =>
  intro k s i hs i0 hn hi hk
  have hl := ok_len hs
  omega
 | succ n ih =>
  intro k s i hs i0 hn hi hk
  have hl := ok_len hs
  obtain ⟨k, rfl⟩ : ∃ m, k = m + 20 := ⟨k - 20, by omega⟩
  have hwy : impl_WaysFrom.f (k + 19) w h o (rd s.2 i) = some (waysL w h o (rd s.2 i)) := impl_WaysFrom_eq (k + 11) _ _ _ _
  have h4 := waysL_len w h o (rd s.2 i)
  have hgo := impl_l1 (w := w) (h := h) (o := o) (c := rd s.2 i) (waysL w h o (rd s.2 i)) (fun d hd => by
   unfold waysL at hd
   have := (List.mem_filter.1 hd).2
   simpa using this) h4 i i0 (waysL w h o (rd s.2 i)) (k + 15 - (waysL w h o (rd s.2 i)).length) 0 s hs rfl
  rw [show k + 15 - (waysL w h o (rd s.2 i)).length + 3 + (waysL w h o (rd s.2 i)).length + 1 = k + 19 by omega] at hgo
  generalize hM : k + 19 = M at hwy hgo
  rw [show k + 20 = M + 1 by omega]
  simp only [impl_distances.l0, bfsRun]
  by_cases h1 : i < (s.2.length : Int)
  ·rw [if_pos h1, if_pos h1, if_pos i0, hwy]
   simp only [Option.bind_some]
   have hgo := hgo h1 rfl (by omega)
   have e : (waysL w h o (rd s.2 i)).foldl (bfs1 w h o (rd s.2 i)) s = bfsCell w h o (rd s.2 i) s := bfs_fold_ways [0, 1, 2, 3] s
   rw [e] at hgo
   obtain ⟨a, b⟩ := bfsCell_ok (o := o) hs (c := rd s.2 i) (rd_in i0 h1)
   have hlen := b.length_le
   generalize bfsCell w h o (rd s.2 i) s = s' at a hlen hgo ⊢
   refine Eq.trans hgo (ih _ s' (i + 1) a (by omega) (by omega) (by omega) (by omega))
  ·rw [if_neg h1, if_neg h1]
theorem impl_dist_eq {w h c : Int} (o : Int) (h0 : 0 ≤ c) (h1 : c < nCells w h) (k : Nat) (hk : 400 ≤ k) : impl_distances.f k w h o c = some (distL w h o c) := by
 have hn := nCells_bd w h
 unfold impl_distances.f slices_Repeat_int_int.f
 rw [impl_CountCells_eq]
 simp only [Option.bind_some]
 rw [if_pos ⟨by simp, by omega, by omega⟩]
 simp only [Option.bind_some]
 rw [if_pos h0, if_pos (by simp; omega), show rd ([-1] : List Int) 0 = -1 from rfl]
 exact impl_run 17 _ (_, _) 0 (bfs_start h0 h1) (by omega) (by omega) (by simp) (by omega)
theorem bfsRun_ok {w h o : Int} (n : Nat) : ∀ (i : Int) (s : List Int × List Int), bfsOk w h s → 0 ≤ i → ∃ q, bfsOk w h (bfsRun w h o n i s, q) := by
 induction n with
 | zero => intro i s hs _; exact ⟨s.2, hs⟩
 | succ n ih =>
  intro i s hs i0
  simp only [bfsRun]
  split
  ·rename_i h1
   exact ih _ _ (bfsCell_ok hs (rd_in i0 h1)).1 (by omega)
  ·exact ⟨s.2, hs⟩
theorem distL_ok {w h c : Int} (o : Int) (h0 : 0 ≤ c) (h1 : c < nCells w h) : ((distL w h o c).length : Int) = nCells w h ∧ ∀ x : Int, 0 ≤ x → x < nCells w h → -1 ≤ rd (distL w h o c) x ∧ rd (distL w h o c) x < 16 := by
 obtain ⟨q, hq⟩ := bfsRun_ok (o := o) 17 0 _ (bfs_start h0 h1) (by omega)
 have hl := ok_len hq
 refine ⟨hq.1, fun x x0 x1 => ?_⟩
 have := hq.2.2.1 x x0 x1
 simp only at this hl
 unfold distL; omega
theorem isIn_eq (w h o : Int) (l : List Int) : impl_isIn.f w h o l = some (mOk w h o && l.all (cellIn w h)) := by
 unfold impl_isIn.f
 rw [impl_MazeOk_eq]
 simp only [Option.bind_some]
 rw [show (fun c => !cellB w h c) = fun c => !cellIn w h c from funext fun c => by unfold cellB; rw [isCell_eq]; rfl]
 by_cases hm : mOk w h o = true
 ·rw [if_pos hm, hm]; simp [List.all_eq_not_any_not]
 ·rw [if_neg hm, Bool.eq_false_iff.2 hm]; simp
def distV (w h o a b : Int) : Int := if mOk w h o = true ∧ cellIn w h a = true ∧ cellIn w h b = true then rd (distL w h o a) b else -1
theorem impl_DistanceOf_eq (w h o a b : Int) (k : Nat) (hk : 400 ≤ k) : impl_DistanceOf.f k w h o a b = some (distV w h o a b) := by
 unfold impl_DistanceOf.f distV
 rw [isIn_eq]
 simp only [Option.bind_some, List.all_cons, List.all_nil]
 by_cases hm : mOk w h o = true <;> by_cases ha : cellIn w h a = true <;> by_cases hb : cellIn w h b = true <;> simp only [hm, ha, hb, Bool.and_true, Bool.true_and, Bool.and_self, if_true, Bool.false_eq_true, if_false, false_and, and_false, and_self, true_and]
 ·obtain ⟨a0, a1⟩ := cellIn_iff.1 ha
  obtain ⟨b0, b1⟩ := cellIn_iff.1 hb
  rw [impl_dist_eq o a0 a1 k (by omega)]
  simp only [Option.bind_some]
  rw [if_pos b0, if_pos (by rw [(distL_ok o a0 a1).1]; exact b1)]
theorem rd_surj {l : List Int} {x : Int} (hx : x ∈ l) : ∃ j : Int, 0 ≤ j ∧ j < l.length ∧ rd l j = x := by
 obtain ⟨n, hn, e⟩ := List.getElem_of_mem hx
 exact ⟨n, by omega, by omega, by rw [← e]; unfold rd; simp [List.getD_eq_getElem?_getD, hn]⟩
def goL (w h o : Int) : Int → List Int → Option (List Int)
 | _, [] => some []
 | x, d :: l => if stp w h o x d < 0 then none else (goL w h o (stp w h o x d) l).map fun r => stp w h o x d :: r
theorem goL_len {w h o : Int} : ∀ (l : List Int) (x : Int) {r}, goL w h o x l = some r → r.length = l.length
 | [], _, r, hr => by simp only [goL, Option.some.injEq] at hr; rw [← hr]
 | d :: l, x, r, hr => by
  simp only [goL] at hr
  split at hr
  ·exact absurd hr (by simp)
  ·obtain ⟨s, hs, rfl⟩ := Option.map_eq_some_iff.1 hr
   simp [goL_len l _ hs]
def lastOf (x : Int) (r : List Int) : Int := (x :: r).getLast (by simp)
theorem lastOf_cons (x y : Int) (r : List Int) : lastOf x (y :: r) = lastOf y r := by
 unfold lastOf; rw [List.getLast_cons (by simp)]
theorem goL_drop {w h o x : Int} {l : List Int} {i : Nat} (hi : i < l.length) : goL w h o x (l.drop i) = if stp w h o x (rd l i) < 0 then none else (goL w h o (stp w h o x (rd l i)) (l.drop (i + 1))).map fun r => stp w h o x (rd l i) :: r := by
 rw [List.drop_eq_getElem_cons hi, rd_mem l i hi]; rfl
theorem impl_Cells_loop (w h o : Int) (l : List Int) (hl : l.length ≤ 400) (d : Nat) : ∀ (x : Int) (i k : Nat) (acc : List Int), i + d = l.length → d < k → acc.length + d ≤ 1000 → impl_CellsOn.l0 (k + 3) x acc l (l.length : Int) i w h o = some (match goL w h o x (l.drop i) with | none => [] | some r => acc ++ r) := by
 induction d with
 | zero =>
  intro x i k acc hi _ _
  simp only [impl_CellsOn.l0]
  rw [if_neg (by omega), List.drop_of_length_le (by omega)]; simp [goL]
 | succ d ih =>
  intro x i k acc hi hk ha
  obtain ⟨k, rfl⟩ : ∃ m, k = m + 1 := ⟨k - 1, by omega⟩
  have est := impl_Step_eq k w h o x (rd l i)
  have hgo := ih (stp w h o x (rd l i)) (i + 1) k (acc ++ [stp w h o x (rd l i)]) (by omega) (by omega) (by simp; omega)
  rw [goL_drop (by omega), show k + 1 + 3 = (k + 3) + 1 by omega]
  generalize k + 3 = m at est hgo ⊢
  simp only [impl_CellsOn.l0]
  rw [if_pos (by omega), if_pos (by omega), if_pos (by omega), est, w64_id (x := (i : Int) + 1) (by omega) (by omega)]
  simp only [Option.bind_some]
  by_cases hneg : stp w h o x (rd l i) < 0
  ·rw [if_pos hneg, if_pos hneg]
  ·rw [if_neg hneg, if_neg hneg, if_pos (by omega)]
   rw [show ((i + 1 : Nat) : Int) = (i : Int) + 1 by omega] at hgo
   rw [hgo]
   cases goL w h o (stp w h o x (rd l i)) (l.drop (i + 1)) with
   | none => rfl
   | some r => simp
def wayOk (w h o c : Int) (l : List Int) : Bool := (mOk w h o && cellIn w h c) && decide (l.length ≤ 400)
def cellsV (w h o c : Int) (l : List Int) : List Int := if wayOk w h o c l = true then (match goL w h o c l with | none => [] | some r => c :: r) else []
theorem impl_CellsOn_eq (w h o c : Int) (l : List Int) (hl : l.length ≤ 1048576) (k : Nat) (hk : 1000 ≤ k) : impl_CellsOn.f k w h o c l = some (cellsV w h o c l) := by
 obtain ⟨k, rfl⟩ : ∃ m, k = m + 3 + 1 := ⟨k - 4, by omega⟩
 unfold impl_CellsOn.f cellsV wayOk
 rw [isIn_eq]
 simp only [Option.bind_some, List.all_cons, List.all_nil, Bool.and_true]
 by_cases hm : (mOk w h o && cellIn w h c) = true
 ·rw [if_pos hm, hm, Bool.true_and]
  by_cases hlen : l.length ≤ 400
  ·have hgo := impl_Cells_loop w h o l hlen l.length c 0 k [c] (by omega) (by omega) (by simp; omega)
   rw [show decide ((l.length : Int) > 400) = false by simp; omega]
   generalize k + 3 = m at hgo ⊢
   simp only [impl_CellsOn.j0, Bool.false_eq_true, if_false, decide_eq_true hlen, if_true]
   rw [show ((0 : Nat) : Int) = 0 from rfl] at hgo
   rw [hgo, List.drop_zero]
   cases goL w h o c l <;> rfl
  ·rw [show decide ((l.length : Int) > 400) = true by simp; omega]
   simp [impl_CellsOn.j0, hlen]
 ·rw [if_neg hm]
  simp [impl_CellsOn.j0, hm]
def walkV (w h o c : Int) (l : List Int) : Int × Bool := if wayOk w h o c l = true then (match goL w h o c l with | none => (-1, false) | some r => (lastOf c r, true)) else (-1, false)
theorem rd_last (x : Int) (r : List Int) (hr : r.length ≤ 1000) : rd (x :: r) (wrap64 (((x :: r).length : Int) - 1)) = lastOf x r := by
 have : (x :: r).length = r.length + 1 := rfl
 rw [w64_id (by omega) (by omega), show ((x :: r).length : Int) - 1 = (((x :: r).length - 1 : Nat) : Int) by omega, rd_mem _ _ (by omega)]
 unfold lastOf
 rw [List.getLast_eq_getElem]
theorem impl_WalkWay_eq (w h o c : Int) (l : List Int) (hl : l.length ≤ 1048576) (k : Nat) (hk : 1000 ≤ k) : impl_WalkWay.f k w h o c l = some (walkV w h o c l) := by
 unfold impl_WalkWay.f
 rw [impl_CellsOn_eq w h o c l hl k hk]
 simp only [Option.bind_some]
 unfold cellsV walkV
 by_cases hq : wayOk w h o c l = true
 ·rw [if_pos hq, if_pos hq]
  have h4 : l.length ≤ 400 := by unfold wayOk at hq; simp at hq; exact hq.2
  cases hg : goL w h o c l with
  | none => rfl
  | some r =>
   have := goL_len l c hg
   simp only
   rw [if_neg (by simp), rd_last c r (by omega)]
 ·rw [if_neg hq, if_neg hq]; rfl
def opp (d : Int) : Int := (d + 2) % 4
def backB (w h c d : Int) : Bool := decide (nbr w h c d < 0) || (decide (nbr w h (nbr w h c d) (opp d) = c) && decide (gapAt w h (nbr w h c d) (opp d) = gapAt w h c d))
theorem back_all {w h : Int} (hk : gOk w h = true) (c d : Nat) (hc : c < 16) (hd : d < 4) : backB w h c d = true := by
 have h16 : ∀ c : Fin 16, ∀ d : Fin 4, backB w h c.val d.val = true := by
  obtain ⟨hw, hh⟩ := gOk_cases hk
  rcases hw with rfl | rfl | rfl | rfl <;> rcases hh with rfl | rfl | rfl | rfl <;> decide +kernel
 exact h16 ⟨c, hc⟩ ⟨d, hd⟩
theorem nbr_back {w h c d : Int} (hn : 0 ≤ nbr w h c d) : nbr w h (nbr w h c d) (opp d) = c ∧ gapAt w h (nbr w h c d) (opp d) = gapAt w h c d := by
 obtain ⟨⟨c0, c1⟩, hd⟩ := nbr_cases hn
 have hk := ok_of_cell c0 c1
 have hb := nCells_bd w h
 have hd' : 0 ≤ d ∧ d ≤ 3 := by rcases hd with h | h | h | h <;> omega
 have := back_all hk c.toNat d.toNat (by omega) (by omega)
 rw [Int.toNat_of_nonneg c0, Int.toNat_of_nonneg hd'.1] at this
 unfold backB at this
 simp only [Bool.or_eq_true, Bool.and_eq_true, decide_eq_true_eq] at this
 rcases this with h | h
 ·omega
 ·exact h
theorem stp_iff {w h o c d : Int} : 0 ≤ stp w h o c d ↔ mOk w h o = true ∧ 0 ≤ nbr w h c d ∧ bitAt o (gapAt w h c d) = true := by
 constructor
 ·intro hs
  obtain ⟨hm, _, _, _, he⟩ := stp_bd hs
  have hn : 0 ≤ nbr w h c d := by omega
  refine ⟨hm, hn, ?_⟩
  unfold stp at hs
  rw [if_pos hm] at hs
  split at hs
  ·rename_i hq; exact hq.2
  ·omega
 ·rintro ⟨hm, hn, hb⟩
  have hg := gapAt_bd hn
  unfold stp
  rw [if_pos hm, if_pos ⟨hg.1, hb⟩]
  exact hn
theorem stp_nbr {w h o c d : Int} (hs : 0 ≤ stp w h o c d) : stp w h o c d = nbr w h c d := (stp_bd hs).2.2.2.2
theorem stp_back {w h o c d : Int} (hs : 0 ≤ stp w h o c d) : stp w h o (stp w h o c d) (opp d) = c := by
 obtain ⟨hm, hn, hb⟩ := stp_iff.1 hs
 obtain ⟨_, ⟨c0, _⟩, _⟩ := stp_bd hs
 obtain ⟨e1, e2⟩ := nbr_back hn
 rw [stp_nbr hs]
 have h2 : 0 ≤ stp w h o (nbr w h c d) (opp d) := stp_iff.2 ⟨hm, by rw [e1]; exact c0, by rw [e2]; exact hb⟩
 rw [stp_nbr h2, e1]
inductive Wlk (w h o a : Int) : Nat → Int → Prop
 | z : Wlk w h o a 0 a
 | s {n : Nat} {x : Int} (d : Int) : Wlk w h o a n x → 0 ≤ stp w h o x d → Wlk w h o a (n + 1) (stp w h o x d)
theorem Wlk.front {w h o a b d : Int} {n : Nat} (hd : 0 ≤ stp w h o a d) (hw : Wlk w h o (stp w h o a d) n b) : Wlk w h o a (n + 1) b := by
 induction hw with
 | z => exact Wlk.s d Wlk.z hd
 | s d' _ hs ih => exact Wlk.s d' ih hs
theorem Wlk.rev {w h o a b : Int} {n : Nat} (hw : Wlk w h o a n b) : Wlk w h o b n a := by
 induction hw with
 | z => exact Wlk.z
 | s d hx hs ih =>
  have hb := stp_back hs
  have h0 := (stp_bd hs).2.1.1
  have := Wlk.front (w := w) (h := h) (o := o) (a := stp w h o _ d) (d := opp d) (by rw [hb]; exact h0) (by rw [hb]; exact ih)
  exact this
structure BI (w h o a : Int) (s : List Int × List Int) (m : Int) : Prop where
 ok : bfsOk w h s
 has : ∀ x : Int, 0 ≤ x → x < nCells w h → 0 ≤ rd s.1 x → x ∈ s.2
 srt : s.2.Pairwise fun x y => rd s.1 x ≤ rd s.1 y
 top : ∀ x ∈ s.2, rd s.1 x ≤ m
 wlk : ∀ x : Int, 0 ≤ x → x < nCells w h → 0 ≤ rd s.1 x → Wlk w h o a (rd s.1 x).toNat x
theorem bfs1_BI {w h o a c : Int} {s : List Int × List Int} (hs : BI w h o a s (rd s.1 c + 1)) (hc : c ∈ s.2) (d : Int) :
  BI w h o a (bfs1 w h o c s d) (rd s.1 c + 1) ∧ (∀ x : Int, 0 ≤ x → x < nCells w h → 0 ≤ rd s.1 x → rd (bfs1 w h o c s d).1 x = rd s.1 x) ∧ (0 ≤ stp w h o c d → 0 ≤ rd (bfs1 w h o c s d).1 (stp w h o c d) ∧ rd (bfs1 w h o c s d).1 (stp w h o c d) ≤ rd s.1 c + 1) := by
 obtain ⟨ok', _, _⟩ := bfs1_ok (o := o) hs.ok hc d
 obtain ⟨h1, h2, h3, h4⟩ := hs.ok
 obtain ⟨c0, c1, c2⟩ := h2 c hc
 by_cases hq : 0 ≤ stp w h o c d ∧ rd s.1 (stp w h o c d) < 0
 ·obtain ⟨_, _, _, hb, _⟩ := stp_bd hq.1
  have e : bfs1 w h o c s d = (s.1.set (stp w h o c d).toNat (rd s.1 c + 1), s.2 ++ [stp w h o c d]) := by unfold bfs1; rw [if_pos hq]
  have hsz : ∀ j : Int, 0 ≤ j → rd (s.1.set (stp w h o c d).toNat (rd s.1 c + 1)) j = if j = stp w h o c d then rd s.1 c + 1 else rd s.1 j := fun j hj => rd_set s.1 _ j _ hq.1 (by omega) hj
  rw [e] at ok' ⊢
  have hst := hq.1
  have hlt := hq.2
  have hwk : Wlk w h o a (rd s.1 c + 1).toNat (stp w h o c d) := by
   rw [show (rd s.1 c + 1).toNat = (rd s.1 c).toNat + 1 by omega]
   exact Wlk.s d (hs.wlk c c0 c1 c2) hst
  generalize stp w h o c d = t at hb hst hlt hsz ok' hwk ⊢
  have hkeep : ∀ x : Int, 0 ≤ x → 0 ≤ rd s.1 x → rd (s.1.set t.toNat (rd s.1 c + 1)) x = rd s.1 x := fun x x0 hx => by
   rw [hsz x x0]; split
   ·rename_i hh; subst hh; omega
   ·rfl
  have hq2 : ∀ x ∈ s.2, rd (s.1.set t.toNat (rd s.1 c + 1)) x = rd s.1 x := fun x hx => hkeep x (h2 x hx).1 (h2 x hx).2.2
  have ht : rd (s.1.set t.toNat (rd s.1 c + 1)) t = rd s.1 c + 1 := by rw [hsz t hst, if_pos rfl]
  refine ⟨⟨ok', ?_, ?_, ?_, ?_⟩, fun x x0 _ hx => hkeep x x0 hx, fun _ => by show 0 ≤ rd (s.1.set _ _) t ∧ rd (s.1.set _ _) t ≤ _; omega⟩
  ·intro x x0 x1 hx
   have hx' : 0 ≤ rd (s.1.set t.toNat (rd s.1 c + 1)) x := hx
   rw [hsz x x0] at hx'
   by_cases ex : x = t
   ·exact List.mem_append_right _ (by simp [ex])
   ·rw [if_neg ex] at hx'
    exact List.mem_append_left _ (hs.has x x0 x1 hx')
  ·show (s.2 ++ [t]).Pairwise fun x y => rd (s.1.set _ _) x ≤ rd (s.1.set _ _) y
   rw [List.pairwise_append]
   refine ⟨List.Pairwise.imp_of_mem (fun {x y} hx hy hh => by rw [hq2 x hx, hq2 y hy]; exact hh) hs.srt, List.pairwise_singleton _ _, fun x hx y hy => ?_⟩
   have hy : y = t := by simpa using hy
   subst hy
   rw [hq2 x hx, ht]
   exact hs.top x hx
  ·intro x hx
   show rd (s.1.set _ _) x ≤ _
   rcases List.mem_append.1 hx with hx | hx
   ·rw [hq2 x hx]; exact hs.top x hx
   ·have hx : x = t := by simpa using hx
    subst hx; omega
  ·intro x x0 x1 hx
   have hx' : 0 ≤ rd (s.1.set t.toNat (rd s.1 c + 1)) x := hx
   show Wlk w h o a (rd (s.1.set t.toNat (rd s.1 c + 1)) x).toNat x
   rw [hsz x x0] at hx' ⊢
   by_cases ex : x = t
   ·rw [if_pos ex, ex]; exact hwk
   ·rw [if_neg ex] at hx' ⊢
    exact hs.wlk x x0 x1 hx'
 ·have e : bfs1 w h o c s d = s := by unfold bfs1; rw [if_neg hq]
  rw [e]
  refine ⟨hs, fun x _ _ _ => rfl, fun hst => ?_⟩
  obtain ⟨_, _, _, hb, _⟩ := stp_bd hst
  have h0 : 0 ≤ rd s.1 (stp w h o c d) := by
   by_cases hh : rd s.1 (stp w h o c d) < 0
   ·exact absurd ⟨hst, hh⟩ hq
   ·omega
  exact ⟨h0, hs.top _ (hs.has _ hst hb h0)⟩
theorem fold_BI {w h o a c : Int} (L : List Int) : ∀ {s : List Int × List Int} (_ : BI w h o a s (rd s.1 c + 1)) (_ : c ∈ s.2),
  BI w h o a (L.foldl (bfs1 w h o c) s) (rd s.1 c + 1) ∧ (∀ x : Int, 0 ≤ x → x < nCells w h → 0 ≤ rd s.1 x → rd (L.foldl (bfs1 w h o c) s).1 x = rd s.1 x) ∧ (∀ d ∈ L, 0 ≤ stp w h o c d → 0 ≤ rd (L.foldl (bfs1 w h o c) s).1 (stp w h o c d) ∧ rd (L.foldl (bfs1 w h o c) s).1 (stp w h o c d) ≤ rd s.1 c + 1) := by
 induction L with
 | nil => intro s hs hc; exact ⟨hs, fun _ _ _ _ => rfl, fun d hd => by simp at hd⟩
 | cons d L ih =>
  intro s hs hc
  obtain ⟨a1, a2, a3⟩ := bfs1_BI hs hc d
  obtain ⟨_, b2, _⟩ := bfs1_ok (o := o) hs.ok hc d
  obtain ⟨c0, c1, c2⟩ := hs.ok.2.1 c hc
  have ec := a2 c c0 c1 c2
  rw [← ec] at a1
  obtain ⟨g1, g2, g3⟩ := ih a1 b2
  rw [ec] at g1 g3
  refine ⟨g1, fun x x0 x1 hx => ?_, fun d' hd hst => ?_⟩
  ·have e1 := a2 x x0 x1 hx
   rw [List.foldl_cons, g2 x x0 x1 (by rw [e1]; exact hx), e1]
  ·rcases List.mem_cons.1 hd with rfl | hd
   ·obtain ⟨p, q⟩ := a3 hst
    obtain ⟨_, _, _, hb, _⟩ := stp_bd hst
    rw [List.foldl_cons, g2 _ hst hb p]
    exact ⟨p, q⟩
   ·exact g3 d' hd hst
structure Dist (w h o a : Int) (D : List Int) : Prop where
 src : rd D a = 0
 wlk : ∀ x : Int, 0 ≤ x → x < nCells w h → 0 ≤ rd D x → Wlk w h o a (rd D x).toNat x
 shut : ∀ x d : Int, 0 ≤ x → x < nCells w h → 0 ≤ rd D x → 0 ≤ stp w h o x d → 0 ≤ rd D (stp w h o x d) ∧ rd D (stp w h o x d) ≤ rd D x + 1
theorem run_Dist {w h o a : Int} (n : Nat) : ∀ (s : List Int × List Int) (i : Int), bfsOk w h s → 0 ≤ i → 17 - i ≤ n → i ≤ s.2.length → rd s.1 a = 0 → 0 ≤ a → a < nCells w h →
  (∀ m, (i < s.2.length → m = rd s.1 (rd s.2 i) + 1) → (¬ i < s.2.length → m = 100) → BI w h o a s m) →
  (∀ j d : Int, 0 ≤ j → j < i → 0 ≤ stp w h o (rd s.2 j) d → 0 ≤ rd s.1 (stp w h o (rd s.2 j) d) ∧ rd s.1 (stp w h o (rd s.2 j) d) ≤ rd s.1 (rd s.2 j) + 1) → Dist w h o a (bfsRun w h o n i s) := by
 induction n with
 | zero =>
  intro s i hs i0 hn hi
  have := ok_len hs
  omega
 | succ n ih =>
  intro s i hs i0 hn hi hsrc ha0 ha1 hB hD
  simp only [bfsRun]
  by_cases h1 : i < (s.2.length : Int)
  ·rw [if_pos h1]
   have hBI := hB _ (fun _ => rfl) (fun h => absurd h1 h)
   have hcm := rd_in i0 h1
   obtain ⟨p, q⟩ := bfsCell_ok (o := o) hs hcm
   obtain ⟨g1, g2, g3⟩ := fold_BI [0, 1, 2, 3] hBI hcm
   obtain ⟨c0, c1, c2⟩ := hs.2.1 _ hcm
   have hlen := q.length_le
   have hlp := ok_len p
   have hpre := fun j j0 j1 => prefix_rd q j j0 j1
   change BI w h o a (bfsCell w h o (rd s.2 i) s) _ at g1
   change ∀ x : Int, 0 ≤ x → x < nCells w h → 0 ≤ rd s.1 x → rd (bfsCell w h o (rd s.2 i) s).1 x = rd s.1 x at g2
   change ∀ d ∈ [0, 1, 2, 3], 0 ≤ stp w h o (rd s.2 i) d → 0 ≤ rd (bfsCell w h o (rd s.2 i) s).1 (stp w h o (rd s.2 i) d) ∧ rd (bfsCell w h o (rd s.2 i) s).1 (stp w h o (rd s.2 i) d) ≤ rd s.1 (rd s.2 i) + 1 at g3
   generalize bfsCell w h o (rd s.2 i) s = s' at p q g1 g2 g3 hlen hlp hpre ⊢
   refine ih s' (i + 1) p (by omega) (by omega) (by omega) (by rw [g2 a ha0 ha1 (by omega), hsrc]) ha0 ha1 (fun m m1 m2 => ?_) (fun j d j0 j1 hst => ?_)
   ·refine ⟨p, g1.has, g1.srt, fun x hx => ?_, g1.wlk⟩
    have ht := g1.top x hx
    by_cases hz : i + 1 < s'.2.length
    ·rw [m1 hz]
     have e1 := hpre i i0 h1
     have hs2 : rd s'.1 (rd s'.2 i) ≤ rd s'.1 (rd s'.2 (i + 1)) := by
      have := List.pairwise_iff_getElem.1 g1.srt i.toNat (i + 1).toNat (by omega) (by omega) (by omega)
      have r1 : rd s'.2 i = s'.2[i.toNat]'(by omega) := by unfold rd; rw [List.getD_eq_getElem?_getD, List.getElem?_eq_getElem (by omega)]; rfl
      have r2 : rd s'.2 (i + 1) = s'.2[(i + 1).toNat]'(by omega) := by unfold rd; rw [List.getD_eq_getElem?_getD, List.getElem?_eq_getElem (by omega)]; rfl
      rw [r1, r2]; exact this
     rw [e1, g2 _ c0 c1 c2] at hs2
     omega
    ·rw [m2 hz]
     obtain ⟨x0, x1, _⟩ := p.2.1 x hx
     have := (p.2.2.1 x x0 x1).2
     omega
   ·by_cases ej : j = i
    ·subst ej
     rw [hpre j j0 h1] at hst ⊢
     obtain ⟨_, _, hd, _, _⟩ := stp_bd hst
     have := g3 d (by simp; omega) hst
     rw [g2 _ c0 c1 c2]; exact this
    ·rw [hpre j j0 (by omega)] at hst ⊢
     obtain ⟨u, v⟩ := hD j d j0 (by omega) hst
     obtain ⟨_, _, _, hb, _⟩ := stp_bd hst
     obtain ⟨x0, x1, x2⟩ := hs.2.1 _ (rd_in j0 (show j < s.2.length by omega))
     rw [g2 _ hst hb u, g2 _ x0 x1 x2]; exact ⟨u, v⟩
  ·rw [if_neg h1]
   have hBI := hB 100 (fun h => absurd h h1) (fun _ => rfl)
   refine ⟨hsrc, hBI.wlk, fun x d x0 x1 hx hst => ?_⟩
   obtain ⟨j, j0, j1, je⟩ := rd_surj (hBI.has x x0 x1 hx)
   have := hD j d j0 (by omega)
   rw [je] at this
   exact this hst
theorem distL_Dist {w h a : Int} (o : Int) (h0 : 0 ≤ a) (h1 : a < nCells w h) : Dist w h o a (distL w h o a) := by
 have hn := nCells_bd w h
 have hr : ∀ j : Int, 0 ≤ j → j < nCells w h → rd ((List.replicate (nCells w h).toNat (-1 : Int)).set a.toNat 0) j = if j = a then 0 else -1 := fun j j0 j1 => by
  rw [rd_set _ _ _ _ h0 (by simp; omega) j0]; split
  ·rfl
  ·exact replicate_rd _ _ _ j0 (by omega)
 refine run_Dist 17 _ 0 (bfs_start h0 h1) (by omega) (by omega) (by simp) (by rw [hr a h0 h1, if_pos rfl]) h0 h1 (fun m m1 _ => ?_) (fun j d j0 j1 => by omega)
 have hm := m1 (by simp)
 have e0 : rd ([a] : List Int) 0 = a := rfl
 change m = rd _ (rd [a] 0) + 1 at hm
 rw [e0, hr a h0 h1, if_pos rfl] at hm
 refine ⟨bfs_start h0 h1, fun x x0 x1 hx => ?_, List.pairwise_singleton _ _, fun x hx => ?_, fun x x0 x1 hx => ?_⟩
 ·have hx' := hx
  change 0 ≤ rd (List.set _ _ _) x at hx'
  rw [hr x x0 x1] at hx'
  split at hx'
  ·rename_i e; simp [e]
  ·omega
 ·have hx : x = a := by simpa using hx
  subst hx
  show rd (List.set _ _ _) x ≤ m
  rw [hr x h0 h1, if_pos rfl]; omega
 ·have hx' := hx
  change 0 ≤ rd (List.set _ _ _) x at hx'
  show Wlk w h o a (rd (List.set _ _ _) x).toNat x
  rw [hr x x0 x1] at hx' ⊢
  split at hx'
  ·rename_i e; subst e; rw [if_pos rfl]; exact Wlk.z
  ·omega
theorem Dist.le {w h o a : Int} {D : List Int} (hD : Dist w h o a D) (h0 : 0 ≤ a) (h1 : a < nCells w h) {n : Nat} {x : Int} (hw : Wlk w h o a n x) : 0 ≤ rd D x ∧ rd D x ≤ n ∧ 0 ≤ x ∧ x < nCells w h := by
 induction hw with
 | z => exact ⟨by rw [hD.src]; omega, by rw [hD.src]; omega, h0, h1⟩
 | s d hx hst ih =>
  obtain ⟨i0, i1, i2, i3⟩ := ih
  obtain ⟨_, _, _, hb, _⟩ := stp_bd hst
  obtain ⟨p, q⟩ := hD.shut _ d i2 i3 i0 hst
  exact ⟨p, by omega, hst, hb⟩
theorem dist_symm {w h a b : Int} (o : Int) (a0 : 0 ≤ a) (a1 : a < nCells w h) (b0 : 0 ≤ b) (b1 : b < nCells w h) : rd (distL w h o a) b = rd (distL w h o b) a := by
 have ha := distL_Dist o a0 a1
 have hb := distL_Dist o b0 b1
 have ra := (distL_ok o a0 a1).2 b b0 b1
 have rb := (distL_ok o b0 b1).2 a a0 a1
 have p : 0 ≤ rd (distL w h o a) b → 0 ≤ rd (distL w h o b) a ∧ rd (distL w h o b) a ≤ rd (distL w h o a) b := fun hp => by
  have := Dist.le hb b0 b1 (Wlk.rev (ha.wlk b b0 b1 hp))
  omega
 have q : 0 ≤ rd (distL w h o b) a → 0 ≤ rd (distL w h o a) b ∧ rd (distL w h o a) b ≤ rd (distL w h o b) a := fun hp => by
  have := Dist.le ha a0 a1 (Wlk.rev (hb.wlk a a0 a1 hp))
  omega
 omega
theorem first_good (P : Int → Prop) (d : Int) (h0 : 0 ≤ d) (h3 : d ≤ 3) (hd : P d) : ∃ e, (0 ≤ e ∧ e ≤ 3) ∧ P e ∧ ∀ j, 0 ≤ j → j < e → ¬ P j := by
 by_cases p0 : P 0
 ·exact ⟨0, by omega, p0, fun j a b => by omega⟩
 ·by_cases p1 : P 1
  ·exact ⟨1, by omega, p1, fun j a b => by rw [show j = 0 by omega]; exact p0⟩
  ·by_cases p2 : P 2
   ·refine ⟨2, by omega, p2, fun j a b => ?_⟩
    rcases (by omega : j = 0 ∨ j = 1) with rfl | rfl
    ·exact p0
    ·exact p1
   ·refine ⟨3, by omega, ?_, fun j a b => ?_⟩
    ·rcases (by omega : d = 0 ∨ d = 1 ∨ d = 2 ∨ d = 3) with rfl | rfl | rfl | rfl
     ·exact absurd hd p0
     ·exact absurd hd p1
     ·exact absurd hd p2
     ·exact hd
    ·rcases (by omega : j = 0 ∨ j = 1 ∨ j = 2) with rfl | rfl | rfl
     ·exact p0
     ·exact p1
     ·exact p2
theorem ways_split {w h o x e : Int} (h0 : 0 ≤ e ∧ e ≤ 3) (hs : 0 ≤ stp w h o x e) : ∃ A B, waysL w h o x = A ++ e :: B ∧ ∀ p ∈ A, 0 ≤ p ∧ p < e ∧ 0 ≤ stp w h o x p := by
 have : ∃ A B, [0, 1, 2, 3] = A ++ e :: B ∧ ∀ p ∈ A, 0 ≤ p ∧ p < e := by
  rcases (by omega : e = 0 ∨ e = 1 ∨ e = 2 ∨ e = 3) with rfl | rfl | rfl | rfl
  ·exact ⟨[], [1, 2, 3], rfl, fun p hp => by simp at hp⟩
  ·exact ⟨[0], [2, 3], rfl, fun p hp => by simp at hp; omega⟩
  ·exact ⟨[0, 1], [3], rfl, fun p hp => by simp at hp; omega⟩
  ·exact ⟨[0, 1, 2], [], rfl, fun p hp => by simp at hp; omega⟩
 obtain ⟨A, B, e1, e2⟩ := this
 refine ⟨A.filter fun d => decide (0 ≤ stp w h o x d), B.filter fun d => decide (0 ≤ stp w h o x d), ?_, fun p hp => ?_⟩
 ·unfold waysL
  rw [e1, List.filter_append, List.filter_cons, if_pos (by simpa using hs)]
 ·obtain ⟨a, b⟩ := List.mem_filter.1 hp
  obtain ⟨c, d⟩ := e2 p a
  exact ⟨c, d, by simpa using b⟩
theorem impl_scan {w h o b x e : Int} {D acc : List Int} (hlen : (D.length : Int) = nCells w h) (x0 : 0 ≤ x) (x1 : x < nCells w h) (hs : 0 ≤ stp w h o x e) (hv : rd D (stp w h o x e) < rd D x) (ha : acc.length ≤ 1000) (L B : List Int) (hL : L.length ≤ 4)
  (A : List Int) : ∀ (k j : Nat), L.drop j = A ++ e :: B → (∀ p ∈ A, 0 ≤ stp w h o x p ∧ ¬ rd D (stp w h o x p) < rd D x) → impl_WayBetween.l1 (k + 3 + A.length + 1) b D acc x L (L.length : Int) j w h o = impl_WayBetween.l0 (k + 3) b D (acc ++ [e]) (stp w h o x e) w h o := by
 induction A with
 | nil =>
  intro k j hd _
  have hjl : j < L.length := by have := congrArg List.length hd; simp at this; omega
  have erd : rd L (j : Int) = e := by
   rw [List.drop_eq_getElem_cons hjl] at hd
   rw [← (List.cons.inj hd).1]; unfold rd; simp [List.getD_eq_getElem?_getD, hjl]
  have est := impl_Step_eq k w h o x e
  rw [show k + 3 + ([] : List Int).length + 1 = (k + 3) + 1 by simp]
  generalize k + 3 = m at est ⊢
  obtain ⟨_, _, _, hb, _⟩ := stp_bd hs
  simp only [impl_WayBetween.l1]
  rw [if_pos (by omega), if_pos (by omega), if_pos (by omega), erd, est]
  simp only [Option.bind_some]
  rw [if_pos hs, if_pos (by omega), if_pos x0, if_pos (by omega), if_pos hv, if_pos (by omega)]
 | cons p A ih =>
  intro k j hd hA
  have hjl : j < L.length := by have := congrArg List.length hd; simp at this; omega
  obtain ⟨q1, q2⟩ := hA p List.mem_cons_self
  have hdd : L[j] = p ∧ L.drop (j + 1) = A ++ e :: B := by
   rw [List.drop_eq_getElem_cons hjl] at hd
   exact ⟨(List.cons.inj hd).1, (List.cons.inj hd).2⟩
  have erd : rd L (j : Int) = p := by rw [← hdd.1]; unfold rd; simp [List.getD_eq_getElem?_getD, hjl]
  have hgo := ih k (j + 1) hdd.2 (fun q hq => hA q (List.mem_cons_of_mem _ hq))
  have est := impl_Step_eq (k + A.length + 1) w h o x p
  rw [show k + A.length + 1 + 3 = k + 3 + A.length + 1 by omega] at est
  rw [show k + 3 + (p :: A).length + 1 = (k + 3 + A.length + 1) + 1 by simp; omega]
  generalize k + 3 + A.length + 1 = m at est hgo ⊢
  obtain ⟨_, _, _, hb, _⟩ := stp_bd q1
  simp only [impl_WayBetween.l1]
  rw [if_pos (by omega), if_pos (by omega), if_pos (by omega), erd, est, w64_id (x := (j : Int) + 1) (by omega) (by omega)]
  simp only [Option.bind_some]
  rw [if_pos q1, if_pos (by omega), if_pos x0, if_pos (by omega), if_neg q2]
  exact hgo
theorem down_step {w h o b x : Int} {D : List Int} (hD : Dist w h o b D) (b0 : 0 ≤ b) (b1 : b < nCells w h) {n : Nat} (x0 : 0 ≤ x) (x1 : x < nCells w h) (hx : rd D x = (n : Int) + 1) : ∃ d, (0 ≤ d ∧ d ≤ 3) ∧ 0 ≤ stp w h o x d ∧ rd D (stp w h o x d) = rd D x - 1 := by
 have hw := hD.wlk x x0 x1 (by omega)
 rw [hx, show ((n : Int) + 1).toNat = n + 1 by omega] at hw
 cases hw with
 | @s _ y d hy hs =>
  have hb := stp_back hs
  obtain ⟨y0, yn, y1, y2⟩ := Dist.le hD b0 b1 hy
  have h2 : 0 ≤ stp w h o (stp w h o y d) (opp d) := by rw [hb]; exact y1
  obtain ⟨_, _, hd3, _, _⟩ := stp_bd h2
  refine ⟨opp d, hd3, h2, ?_⟩
  rw [hb]
  have := (hD.shut y d y1 y2 y0 hs).2
  omega
def dirOf (c : Int) : Int := if c = 78 then 0 else if c = 69 then 1 else if c = 83 then 2 else if c = 87 then 3 else -1
theorem index_dirOf (k : Nat) (c : Int) : slices_Index_byte_byte.f (k + 5) [78, 69, 83, 87] c = some (dirOf c) := by
 unfold slices_Index_byte_byte.f dirOf
 rw [show k + 5 = k + 1 + 1 + 1 + 1 + 1 by omega]
 have w1 : wrap64 (0 + 1) = 1 := (by first | decide | (unfold wrap64; omega))
 have w2 : wrap64 (1 + 1) = 2 := (by first | decide | (unfold wrap64; omega))
 have w3 : wrap64 (2 + 1) = 3 := (by first | decide | (unfold wrap64; omega))
 have w4 : wrap64 (3 + 1) = 4 := (by first | decide | (unfold wrap64; omega))
 have r0 : rd [78, 69, 83, 87] 0 = 78 := rfl
 have r1 : rd [78, 69, 83, 87] 1 = 69 := rfl
 have r2 : rd [78, 69, 83, 87] 2 = 83 := rfl
 have r3 : rd [78, 69, 83, 87] 3 = 87 := rfl
 simp only [slices_Index_byte_byte.l0, w1, w2, w3, w4, r0, r1, r2, r3, List.length_cons, List.length_nil]
 by_cases h0 : c = 78
 ·subst h0; simp
 ·by_cases h1 : c = 69
  ·subst h1; simp
  ·by_cases h2 : c = 83
   ·subst h2; simp
   ·by_cases h3 : c = 87
    ·subst h3; simp
    ·simp [h0, h1, h2, h3]
def numsTo : Nat → List Int
 | 0 => []
 | n + 1 => numsTo n ++ [(n : Int)]
def Con (w h o a b : Int) : Prop := ∃ n, Wlk w h o a n b
theorem Wlk.append {w h o a b c : Int} {n m : Nat} (h1 : Wlk w h o a n b) (h2 : Wlk w h o b m c) : Wlk w h o a (n + m) c := by
 induction h2 with
 | z => exact h1
 | s d _ hs ih => exact Wlk.s d ih hs
theorem Con.refl (w h o a : Int) : Con w h o a a := ⟨0, Wlk.z⟩
theorem Con.symm {w h o a b : Int} (hc : Con w h o a b) : Con w h o b a := by
 obtain ⟨n, hn⟩ := hc
 exact ⟨n, Wlk.rev hn⟩
theorem Con.trans {w h o a b c : Int} (h1 : Con w h o a b) (h2 : Con w h o b c) : Con w h o a c := by
 obtain ⟨n, hn⟩ := h1
 obtain ⟨m, hm⟩ := h2
 exact ⟨n + m, Wlk.append hn hm⟩
theorem Con.step {w h o a d : Int} (hs : 0 ≤ stp w h o a d) : Con w h o a (stp w h o a d) := ⟨1, Wlk.s d Wlk.z hs⟩
theorem con_dist {w h a b : Int} (o : Int) (a0 : 0 ≤ a) (a1 : a < nCells w h) (b0 : 0 ≤ b) (b1 : b < nCells w h) : 0 ≤ rd (distL w h o a) b ↔ Con w h o a b := by
 have hD := distL_Dist (w := w) (h := h) o a0 a1
 constructor
 ·intro hr
  exact ⟨_, hD.wlk b b0 b1 hr⟩
 ·rintro ⟨n, hn⟩
  exact (Dist.le hD a0 a1 hn).1
def edgeB (w h c d : Int) : Bool := decide (nbr w h c d < 0) || (gapIn w h (gapAt w h c d) && (decide (ends w h (gapAt w h c d) = (c, nbr w h c d)) || decide (ends w h (gapAt w h c d) = (nbr w h c d, c))))
theorem edge_all {w h : Int} (hk : gOk w h = true) (c d : Nat) (hc : c < 16) (hd : d < 4) : edgeB w h c d = true := by
 have h16 : ∀ c : Fin 16, ∀ d : Fin 4, edgeB w h c.val d.val = true := by
  obtain ⟨hw, hh⟩ := gOk_cases hk
  rcases hw with rfl | rfl | rfl | rfl <;> rcases hh with rfl | rfl | rfl | rfl <;> decide +kernel
 exact h16 ⟨c, hc⟩ ⟨d, hd⟩
theorem nbr_ends {w h c d : Int} (hn : 0 ≤ nbr w h c d) : gapIn w h (gapAt w h c d) = true ∧ (ends w h (gapAt w h c d) = (c, nbr w h c d) ∨ ends w h (gapAt w h c d) = (nbr w h c d, c)) := by
 obtain ⟨⟨c0, c1⟩, hd⟩ := nbr_cases hn
 have hk := ok_of_cell c0 c1
 have hb := nCells_bd w h
 have hd' : 0 ≤ d ∧ d ≤ 3 := by rcases hd with h | h | h | h <;> omega
 have := edge_all hk c.toNat d.toNat (by omega) (by omega)
 rw [Int.toNat_of_nonneg c0, Int.toNat_of_nonneg hd'.1] at this
 unfold edgeB at this
 simp only [Bool.or_eq_true, Bool.and_eq_true, decide_eq_true_eq] at this
 rcases this with h | h
 ·omega
 ·exact h
def endB (w h g : Int) : Bool := !(gapIn w h g) || ((decide (0 ≤ (ends w h g).1) && (decide ((ends w h g).1 < (ends w h g).2) && decide ((ends w h g).2 < nCells w h))) && [1, 2].any fun d => decide (nbr w h (ends w h g).1 d = (ends w h g).2) && decide (gapAt w h (ends w h g).1 d = g))
theorem end_all {w h : Int} (hk : gOk w h = true) (g : Nat) (hg : g < 24) : endB w h g = true := by
 have h24 : ∀ g : Fin 24, endB w h g.val = true := by
  obtain ⟨hw, hh⟩ := gOk_cases hk
  rcases hw with rfl | rfl | rfl | rfl <;> rcases hh with rfl | rfl | rfl | rfl <;> decide +kernel
 exact h24 ⟨g, hg⟩
theorem ends_nbr {w h g : Int} (hg : gapIn w h g = true) : (0 ≤ (ends w h g).1 ∧ (ends w h g).1 < (ends w h g).2 ∧ (ends w h g).2 < nCells w h) ∧ ∃ d, nbr w h (ends w h g).1 d = (ends w h g).2 ∧ gapAt w h (ends w h g).1 d = g := by
 obtain ⟨g0, g1⟩ := gapIn_iff.1 hg
 have hk := ok_of_gap hg
 have hb := nGaps_bd w h
 have := end_all hk g.toNat (by omega)
 rw [Int.toNat_of_nonneg g0] at this
 unfold endB at this
 simp only [hg, Bool.not_true, Bool.false_or, Bool.and_eq_true, decide_eq_true_eq, List.any_eq_true] at this
 obtain ⟨⟨p, q, r⟩, d, _, d1, d2⟩ := this
 exact ⟨⟨p, q, r⟩, d, d1, d2⟩
theorem step_gap {w h o g : Int} (hm : mOk w h o = true) (hg : gapIn w h g = true) (hb : bitAt o g = true) : ∃ d, 0 ≤ stp w h o (ends w h g).1 d ∧ stp w h o (ends w h g).1 d = (ends w h g).2 := by
 obtain ⟨⟨p, q, r⟩, d, d1, d2⟩ := ends_nbr hg
 have hs : 0 ≤ stp w h o (ends w h g).1 d := stp_iff.2 ⟨hm, by omega, by rw [d2]; exact hb⟩
 exact ⟨d, hs, by rw [stp_nbr hs, d1]⟩
theorem con_gap {w h o g : Int} (hm : mOk w h o = true) (hg : gapIn w h g = true) (hb : bitAt o g = true) : Con w h o (ends w h g).1 (ends w h g).2 := by
 obtain ⟨d, d1, d2⟩ := step_gap hm hg hb
 rw [← d2]; exact Con.step d1
theorem stp_gap {w h o c d : Int} (hs : 0 ≤ stp w h o c d) : ∃ g, gapIn w h g = true ∧ bitAt o g = true ∧ (ends w h g = (c, stp w h o c d) ∨ ends w h g = (stp w h o c d, c)) := by
 obtain ⟨hm, hn, hb⟩ := stp_iff.1 hs
 obtain ⟨p, q⟩ := nbr_ends hn
 exact ⟨gapAt w h c d, p, hb, by rw [stp_nbr hs]; exact q⟩
theorem Con.mono {w h o o' a b : Int} (hm : mOk w h o' = true) (hb : ∀ g, gapIn w h g = true → bitAt o g = true → bitAt o' g = true) (hc : Con w h o a b) : Con w h o' a b := by
 obtain ⟨n, hn⟩ := hc
 induction hn with
 | z => exact Con.refl _ _ _ _
 | s d _ hs ih =>
  refine Con.trans ih ?_
  obtain ⟨g, g1, g2, g3⟩ := stp_gap hs
  have hcg := con_gap hm g1 (hb g g1 g2)
  rcases g3 with e | e
  ·rw [e] at hcg; exact hcg
  ·rw [e] at hcg; exact hcg.symm
theorem con_add {w h o o' g x y : Int} (hm : mOk w h o = true) (hm' : mOk w h o' = true) (hg : gapIn w h g = true) (hb : ∀ i, gapIn w h i = true → (bitAt o' i = true ↔ bitAt o i = true ∨ i = g)) :
  Con w h o' x y ↔ Con w h o x y ∨ (Con w h o x (ends w h g).1 ∧ Con w h o (ends w h g).2 y) ∨ (Con w h o x (ends w h g).2 ∧ Con w h o (ends w h g).1 y) := by
 have hup : ∀ {p q}, Con w h o p q → Con w h o' p q := fun hc => Con.mono hm' (fun i hi h1 => (hb i hi).2 (.inl h1)) hc
 have hab : Con w h o' (ends w h g).1 (ends w h g).2 := con_gap hm' hg ((hb g hg).2 (.inr rfl))
 constructor
 ·rintro ⟨n, hn⟩
  induction hn with
  | z => exact .inl (Con.refl _ _ _ _)
  | @s n t d _ hs ih =>
   obtain ⟨i, i1, i2, i3⟩ := stp_gap hs
   have hcs : Con w h o t (stp w h o' t d) ∨ (t = (ends w h g).1 ∧ stp w h o' t d = (ends w h g).2) ∨ (t = (ends w h g).2 ∧ stp w h o' t d = (ends w h g).1) := by
    rcases (hb i i1).1 i2 with h1 | rfl
    ·have hcg := con_gap hm i1 h1
     rcases i3 with e | e
     ·rw [e] at hcg; exact .inl hcg
     ·rw [e] at hcg; exact .inl hcg.symm
    ·rcases i3 with e | e
     ·exact .inr (.inl ⟨by rw [e], by rw [e]⟩)
     ·exact .inr (.inr ⟨by rw [e], by rw [e]⟩)
   generalize stp w h o' t d = z at hcs ⊢
   rcases hcs with h1 | ⟨rfl, rfl⟩ | ⟨rfl, rfl⟩
   ·rcases ih with h2 | ⟨h2, h3⟩ | ⟨h2, h3⟩
    ·exact .inl (h2.trans h1)
    ·exact .inr (.inl ⟨h2, h3.trans h1⟩)
    ·exact .inr (.inr ⟨h2, h3.trans h1⟩)
   ·rcases ih with h2 | ⟨h2, h3⟩ | ⟨h2, h3⟩
    ·exact .inr (.inl ⟨h2, Con.refl _ _ _ _⟩)
    ·exact .inr (.inl ⟨h2, Con.refl _ _ _ _⟩)
    ·exact .inl h2
   ·rcases ih with h2 | ⟨h2, h3⟩ | ⟨h2, h3⟩
    ·exact .inr (.inr ⟨h2, Con.refl _ _ _ _⟩)
    ·exact .inl h2
    ·exact .inr (.inr ⟨h2, Con.refl _ _ _ _⟩)
 ·rintro (h1 | ⟨h1, h2⟩ | ⟨h1, h2⟩)
  ·exact hup h1
  ·exact (hup h1).trans (hab.trans (hup h2))
  ·exact (hup h1).trans (hab.symm.trans (hup h2))
theorem con_zero {w h a b : Int} : Con w h 0 a b ↔ a = b := by
 constructor
 ·rintro ⟨n, hn⟩
  cases hn with
  | z => rfl
  | s d _ hs =>
   obtain ⟨_, _, hb⟩ := stp_iff.1 hs
   unfold bitAt at hb; simp at hb
 ·rintro rfl; exact Con.refl _ _ _ _
def repB (w h o : Int) (c : Nat) : Bool := (List.range c).all fun x => decide (rd (distL w h o c) x < 0)
def repsN (w h o : Int) : Nat → Nat
 | 0 => 0
 | n + 1 => repsN w h o n + (repB w h o n).toNat
def partsN (w h o : Int) : Nat := repsN w h o (nCells w h).toNat
theorem repB_iff {w h o : Int} {c : Nat} (hc : (c : Int) < nCells w h) : repB w h o c = true ↔ ∀ x : Int, 0 ≤ x → x < c → ¬ Con w h o c x := by
 unfold repB
 rw [List.all_eq_true]
 constructor
 ·intro hh x x0 x1 hcon
  have := hh x.toNat (List.mem_range.2 (by omega))
  rw [Int.toNat_of_nonneg x0, decide_eq_true_eq] at this
  have := (con_dist o (by omega) hc x0 (by omega)).2 hcon
  omega
 ·intro hh x hx
  have hx' := List.mem_range.1 hx
  rw [decide_eq_true_eq]
  have := hh x (by omega) (by omega)
  rw [← con_dist o (by omega) hc (by omega) (by omega)] at this
  omega
theorem repsN_less {w h o o' : Int} {m : Nat} (hm : repB w h o m = true) : ∀ n : Nat, (∀ c : Nat, c < n → (repB w h o' c = true ↔ repB w h o c = true ∧ c ≠ m)) → repsN w h o' n + (if m < n then 1 else 0) = repsN w h o n
 | 0, _ => rfl
 | n + 1, hh => by
  simp only [repsN]
  have ih := repsN_less hm n (fun c hc => hh c (by omega))
  have hn := hh n (by omega)
  by_cases e : n = m
  ·subst e
   have : repB w h o' n = false := by
    cases hq : repB w h o' n
    ·rfl
    ·exact absurd rfl ((hn.1 hq).2)
   rw [this, hm, if_pos (by omega)]
   rw [if_neg (by omega)] at ih
   simp; omega
  ·have : repB w h o' n = repB w h o n := by
    rw [Bool.eq_iff_iff, hn]; simp [e]
   rw [this]
   by_cases h2 : m < n
   ·rw [if_pos h2] at ih; rw [if_pos (by omega)]; omega
   ·rw [if_neg h2] at ih; rw [if_neg (by omega)]; omega
theorem rep_of {w h : Int} (o : Int) {a : Int} (a0 : 0 ≤ a) (a1 : a < nCells w h) : ∃ r : Nat, (r : Int) < nCells w h ∧ repB w h o r = true ∧ Con w h o r a ∧ ∀ x : Int, 0 ≤ x → Con w h o x a → x < nCells w h → (r : Int) ≤ x := by
 have : ∀ (n : Nat), (∃ x : Nat, x < n ∧ (x : Int) < nCells w h ∧ Con w h o x a) → ∃ r : Nat, (r : Int) < nCells w h ∧ Con w h o r a ∧ ∀ x : Nat, x < r → ¬ Con w h o x a := by
  intro n
  induction n with
  | zero => rintro ⟨x, hx, _⟩; omega
  | succ n ih =>
   rintro ⟨x, hx, hx1, hx2⟩
   by_cases hq : ∃ y : Nat, y < n ∧ (y : Int) < nCells w h ∧ Con w h o y a
   ·exact ih hq
   ·refine ⟨x, hx1, hx2, fun y hy hc => hq ⟨y, by omega, by omega, hc⟩⟩
 obtain ⟨r, r1, r2, r3⟩ := this (a.toNat + 1) ⟨a.toNat, by omega, by omega, by rw [Int.toNat_of_nonneg a0]; exact Con.refl _ _ _ _⟩
 refine ⟨r, r1, (repB_iff r1).2 (fun x x0 x1 hc => r3 x.toNat (by omega) (by rw [Int.toNat_of_nonneg x0]; exact hc.symm.trans r2)), r2, fun x x0 hx x1 => ?_⟩
 by_cases hlt : x < r
 ·exact absurd (by rw [Int.toNat_of_nonneg x0]; exact hx) (r3 x.toNat (by omega))
 ·omega
theorem parts_join {w h o o' g : Int} (hm : mOk w h o = true) (hm' : mOk w h o' = true) (hg : gapIn w h g = true) (hb : ∀ i, gapIn w h i = true → (bitAt o' i = true ↔ bitAt o i = true ∨ i = g)) (hc : ¬ Con w h o (ends w h g).1 (ends w h g).2) : partsN w h o' + 1 = partsN w h o := by
 have hn := nCells_bd w h
 obtain ⟨⟨p, q, r⟩, _⟩ := ends_nbr hg
 obtain ⟨ra, a1, a2, a3, a4⟩ := rep_of (w := w) (h := h) o p (by omega)
 obtain ⟨rb, b1, b2, b3, b4⟩ := rep_of (w := w) (h := h) o (a := (ends w h g).2) (by omega) r
 have hadd := fun x y => con_add (x := x) (y := y) hm hm' hg hb
 generalize (ends w h g).1 = a at *
 generalize (ends w h g).2 = b at *
 have hne : ra ≠ rb := fun e => by subst e; exact hc (a3.symm.trans b3)
 have key : ∀ m k : Nat, ((m = ra ∧ k = rb) ∨ (m = rb ∧ k = ra)) → k < m → partsN w h o' + 1 = partsN w h o := by
  intro m k hmk hlt
  have hmr : repB w h o m = true := by rcases hmk with ⟨rfl, rfl⟩ | ⟨rfl, rfl⟩ <;> assumption
  have hmn : (m : Int) < nCells w h := by rcases hmk with ⟨rfl, rfl⟩ | ⟨rfl, rfl⟩ <;> assumption
  have hkm : Con w h o' m k := by
   rcases hmk with ⟨rfl, rfl⟩ | ⟨rfl, rfl⟩
   ·exact (hadd _ _).2 (.inr (.inl ⟨a3, b3.symm⟩))
   ·exact (hadd _ _).2 (.inr (.inr ⟨b3, a3.symm⟩))
  unfold partsN
  have := repsN_less (w := w) (h := h) (o := o) (o' := o') hmr (nCells w h).toNat (fun c hcn => ?_)
  ·rw [if_pos (by omega)] at this; exact this
  ·rw [repB_iff (by omega), repB_iff (by omega)]
   constructor
   ·intro hh
    refine ⟨fun x x0 x1 hx => hh x x0 x1 ((hadd _ _).2 (.inl hx)), fun e => ?_⟩
    subst e
    exact hh k (by omega) (by omega) hkm
   ·rintro ⟨hh, hcm⟩ x x0 x1 hx
    rcases (hadd _ _).1 hx with h1 | ⟨h1, h2⟩ | ⟨h1, h2⟩
    ·exact hh x x0 x1 h1
    ·have e1 : (ra : Int) ≤ c := a4 c (by omega) h1 (by omega)
     have e2 : (rb : Int) ≤ x := b4 x x0 h2.symm (by omega)
     have e3 : ¬ (ra : Int) < c := fun hl => hh ra (by omega) hl (h1.trans a3.symm)
     rcases hmk with ⟨rfl, rfl⟩ | ⟨rfl, rfl⟩ <;> omega
    ·have e1 : (rb : Int) ≤ c := b4 c (by omega) h1 (by omega)
     have e2 : (ra : Int) ≤ x := a4 x x0 h2.symm (by omega)
     have e3 : ¬ (rb : Int) < c := fun hl => hh rb (by omega) hl (h1.trans b3.symm)
     rcases hmk with ⟨rfl, rfl⟩ | ⟨rfl, rfl⟩ <;> omega
 by_cases hlt : ra < rb
 ·exact key rb ra (.inr ⟨rfl, rfl⟩) hlt
 ·exact key ra rb (.inl ⟨rfl, rfl⟩) (by omega)
theorem parts_zero (w h : Int) : partsN w h 0 = (nCells w h).toNat := by
 have hn := nCells_bd w h
 have : ∀ n : Nat, (n : Int) ≤ nCells w h → repsN w h 0 n = n := by
  intro n
  induction n with
  | zero => intro _; rfl
  | succ n ih =>
   intro hle
   have : repB w h 0 n = true := (repB_iff (by omega)).2 (fun x x0 x1 hx => by have := con_zero.1 hx; omega)
   simp only [repsN]; rw [ih (by omega), this]; rfl
 exact this _ (by omega)
theorem parts_one {w h : Int} (o : Int) (hk : gOk w h = true) : partsN w h o = 1 ↔ ∀ x : Int, 0 ≤ x → x < nCells w h → Con w h o x 0 := by
 have hn := nCells_bd w h
 have h1 := hn.2.2 hk
 obtain ⟨m, hm⟩ : ∃ m, (nCells w h).toNat = m + 1 := ⟨(nCells w h).toNat - 1, by omega⟩
 have hr0 : repB w h o 0 = true := rfl
 have hone : ∀ n : Nat, repsN w h o (n + 1) = 1 ↔ ∀ c : Nat, 1 ≤ c → c < n + 1 → repB w h o c = false := by
  intro n
  induction n with
  | zero => simp [repsN, repB]; intro c a b; omega
  | succ n ih =>
   have hge : 1 ≤ repsN w h o (n + 1) := by
    have : ∀ n : Nat, 1 ≤ repsN w h o (n + 1) := by
     intro n
     induction n with
     | zero => simp [repsN, repB]
     | succ n ih => simp only [repsN] at ih ⊢; omega
    exact this n
   rw [show repsN w h o (n + 1 + 1) = repsN w h o (n + 1) + (repB w h o (n + 1)).toNat from rfl]
   constructor
   ·intro he c c1 c2
    cases hq : repB w h o (n + 1) with
    | true => rw [hq] at he; simp at he; omega
    | false =>
     rw [hq] at he
     by_cases e : c = n + 1
     ·rw [e]; exact hq
     ·exact ih.1 (by simpa using he) c c1 (by omega)
   ·intro hh
    rw [hh (n + 1) (by omega) (by omega), ih.2 (fun c c1 c2 => hh c c1 (by omega))]; rfl
 unfold partsN
 rw [hm, hone m]
 constructor
 ·intro hh x x0 x1
  obtain ⟨r, r1, r2, r3, _⟩ := rep_of (w := w) (h := h) o x0 x1
  by_cases e : r = 0
  ·subst e; exact r3.symm
  ·rw [hh r (by omega) (by omega)] at r2; exact absurd r2 (by simp)
 ·intro hh c c1 c2
  cases hq : repB w h o c with
  | false => rfl
  | true => exact absurd (hh c (by omega) (by omega)) ((repB_iff (by omega)).1 hq 0 (by omega) (by omega))
def loopsZ (w h o : Int) : Int := pcnt w h o - nCells w h + (partsN w h o : Int)
theorem bits_on {w h o g : Int} (hg : gapIn w h g = true) : ∀ i, gapIn w h i = true → (bitAt (setG o g true) i = true ↔ bitAt o i = true ∨ i = g) := fun i hi => by
 obtain ⟨g0, _⟩ := gapIn_iff.1 hg
 obtain ⟨i0, _⟩ := gapIn_iff.1 hi
 rw [bit_setG i g0 i0]
 by_cases e : i = g
 ·subst e; simp
 ·simp [e]
theorem pcN_bits (o o' g : Nat) (h1 : o.testBit g = true) (h0 : o'.testBit g = false) (hs : ∀ i, i ≠ g → o'.testBit i = o.testBit i) : ∀ n, pcN o n = pcN o' n + (if g < n then 1 else 0)
 | 0 => rfl
 | n + 1 => by
  have ih := pcN_bits o o' g h1 h0 hs n
  have e : ∀ x, pcN x (n + 1) = pcN x n + (if x.testBit n then 1 else 0) := fun x => rfl
  rw [e, e, ih]
  by_cases hn : n = g
  ·subst hn; simp [h1, h0]
  ·have h2 := hs n hn
   by_cases hl : g < n
   ·simp [h2, hl, show g < n + 1 by omega]; omega
   ·simp [h2, hl, show ¬ g < n + 1 by omega]
theorem pcnt_zero (w h : Int) : pcnt w h 0 = 0 := by
 have : ∀ n, pcN 0 n = 0 := by
  intro n
  induction n with
  | zero => rfl
  | succ n ih => show pcN 0 n + (if Nat.testBit 0 n then 1 else 0) = 0; rw [ih]; simp
 unfold pcnt; split
 ·rw [show (0 : Int).toNat = 0 from rfl, this]; rfl
 ·rfl
theorem loops_zero {w h : Int} : loopsZ w h 0 = 0 := by
 have := nCells_bd w h
 unfold loopsZ; rw [pcnt_zero, parts_zero]; omega
theorem nbr_less {w h x : Int} (x0 : 0 < x) (x1 : x < nCells w h) : ∃ d, 0 ≤ nbr w h x d ∧ nbr w h x d < x := by
 have hk := ok_of_cell (by omega) x1
 have hw := gOk_iff.1 hk
 have hxy := cell_xy (by omega) x1
 by_cases hp : 0 < x % w
 ·refine ⟨3, ?_⟩
  unfold nbr
  rw [if_pos ⟨by omega, x1⟩]
  simp [hp]
  omega
 ·refine ⟨0, ?_⟩
  have hz : 0 < x / w := by
   by_cases hz : 0 < x / w
   ·exact hz
   ·have e : x / w = 0 := by omega
    rw [e] at hxy; omega
  have hge : w ≤ x := by
   have : x / w * w ≥ 1 * w := Int.mul_le_mul_of_nonneg_right (by omega) (by omega)
   omega
  unfold nbr
  rw [if_pos ⟨by omega, x1⟩]
  simp [hz]
  omega
theorem all_con {w h o : Int} (hall : ∀ g, gapIn w h g = true → Con w h o (ends w h g).1 (ends w h g).2) : ∀ (n : Nat) (x : Int), x = n → x < nCells w h → Con w h o x 0 := by
 intro n
 induction n using Nat.strongRecOn with
 | _ n ih =>
  intro x hx x1
  by_cases e : n = 0
  ·subst e; rw [hx]; exact Con.refl _ _ _ _
  ·obtain ⟨d, d0, d1⟩ := nbr_less (w := w) (h := h) (x := x) (by omega) x1
   obtain ⟨g1, g2⟩ := nbr_ends d0
   have hc := hall _ g1
   have hy := ih (nbr w h x d).toNat (by omega) (nbr w h x d) (by omega) (by omega)
   rcases g2 with e | e
   ·rw [e] at hc; exact hc.trans hy
   ·rw [e] at hc; exact hc.symm.trans hy
theorem numsTo_len : ∀ n, (numsTo n).length = n
 | 0 => rfl
 | n + 1 => by rw [show numsTo (n + 1) = numsTo n ++ [(n : Int)] from rfl, List.length_append, numsTo_len n]; rfl
def relab (L : List Int) (old new : Int) : List Int := L.map fun v => if v = old then new else v
theorem relab_len (L : List Int) (old new : Int) : (relab L old new).length = L.length := by unfold relab; simp
theorem relab_rd (L : List Int) (old new x : Int) (h0 : 0 ≤ x) (h1 : x < L.length) : rd (relab L old new) x = if rd L x = old then new else rd L x := by
 obtain ⟨n, rfl⟩ : ∃ n : Nat, x = n := ⟨x.toNat, by omega⟩
 rw [rd_mem _ n (by rw [relab_len]; omega), rd_mem L n (by omega)]
 unfold relab; simp
theorem rd_app (A B : List Int) (x : Nat) : rd (A ++ B) x = if x < A.length then rd A x else rd B ((x - A.length : Nat) : Int) := by
 unfold rd
 simp only [Int.toNat_natCast, List.getD_eq_getElem?_getD]
 by_cases hx : x < A.length
 ·rw [if_pos hx, List.getElem?_append_left hx]
 ·rw [if_neg hx, List.getElem?_append_right (by omega)]
theorem rd_drop (L : List Int) (i x : Nat) : rd (L.drop i) x = rd L ((i + x : Nat) : Int) := by
 unfold rd
 simp only [Int.toNat_natCast, List.getD_eq_getElem?_getD, List.getElem?_drop]
theorem rd_take (L : List Int) (i x : Nat) (h : x < i) : rd (L.take i) x = rd L x := by
 unfold rd
 simp only [Int.toNat_natCast, List.getD_eq_getElem?_getD, List.getElem?_take, if_pos h]
theorem mix_rd (L M : List Int) (hl : M.length = L.length) (i x : Nat) (hi : i ≤ L.length) : rd (M.take i ++ L.drop i) x = if x < i then rd M x else rd L x := by
 rw [rd_app, List.length_take, Nat.min_eq_left (by omega)]
 by_cases hx : x < i
 ·rw [if_pos hx, if_pos hx, rd_take _ _ _ hx]
 ·rw [if_neg hx, if_neg hx, rd_drop, show i + (x - i) = x by omega]
theorem mix_set (L M : List Int) (hl : M.length = L.length) (i : Nat) (hi : i < L.length) : (M.take i ++ L.drop i).set i (rd M i) = M.take (i + 1) ++ L.drop (i + 1) := by
 rw [List.set_append_right _ _ (by rw [List.length_take]; omega), List.length_take, Nat.min_eq_left (by omega), Nat.sub_self, List.drop_eq_getElem_cons hi, List.set_cons_zero, List.take_succ_eq_append_getElem (by omega : i < M.length), rd_mem M i (by omega)]
 simp only [List.append_assoc, List.cons_append, List.nil_append]
theorem mix_next (L M : List Int) (hl : M.length = L.length) (i : Nat) (hi : i < L.length) (he : rd M i = rd L i) : M.take i ++ L.drop i = M.take (i + 1) ++ L.drop (i + 1) := by
 rw [← mix_set L M hl i hi, he]
 symm
 have : rd (M.take i ++ L.drop i) i = rd L i := by rw [mix_rd L M hl i i (by omega), if_neg (by omega)]
 rw [← this, rd_mem _ i (by simp; omega), List.set_getElem_self]
theorem tree_l3 (L : List Int) (hL : L.length ≤ 1000) (a old n6 x9 x10 x11 i1 h1 w h p q o : Int) (l : List Int) (a0 : 0 ≤ a) (a1 : a < L.length) (hne : rd L a ≠ old) (d : Nat) : ∀ (m i : Nat), i + d = L.length →
  spec_l03Tree.l3 (m + d + 1) n6 ((relab L old (rd L a)).take i ++ L.drop i) x9 x10 x11 a old i l i1 h1 w h p q o = spec_l03Tree.l2 m n6 (relab L old (rd L a)) x9 x10 (wrap64 (x11 + 1)) l i1 h1 w h p q o := by
 induction d with
 | zero =>
  intro m i hi
  simp only [spec_l03Tree.l3]
  rw [if_neg (by simp [relab_len]; omega), List.take_of_length_le (by rw [relab_len]; omega), List.drop_of_length_le (by omega), List.append_nil]
 | succ d ih =>
  intro m i hi
  have hgo := ih m (i + 1) (by omega)
  have hlen : ((relab L old (rd L a)).take i ++ L.drop i).length = L.length := by simp [relab_len]; omega
  have hrl := relab_len L old (rd L a)
  have hra : rd ((relab L old (rd L a)).take i ++ L.drop i) a = rd L a := by
   obtain ⟨n, rfl⟩ : ∃ n : Nat, a = n := ⟨a.toNat, by omega⟩
   rw [mix_rd L _ hrl i n (by omega)]
   split
   ·rw [relab_rd L old _ n (by omega) (by omega), if_neg hne]
   ·rfl
  have hri : rd ((relab L old (rd L a)).take i ++ L.drop i) i = rd L i := by
   rw [mix_rd L _ hrl i i (by omega), if_neg (by omega)]
  have hrr := relab_rd L old (rd L a) i (by omega) (by omega)
  rw [show m + (d + 1) + 1 = (m + d + 1) + 1 by omega]
  generalize m + d + 1 = M at hgo ⊢
  simp only [spec_l03Tree.l3]
  rw [hlen, hra, hri, if_pos (by omega), if_pos (by omega), w64_id (x := (i : Int) + 1) (by omega) (by omega)]
  rw [show ((i + 1 : Nat) : Int) = (i : Int) + 1 by omega] at hgo
  by_cases he : rd L i = old
  ·rw [if_pos he, if_pos a0, if_pos a1]
   rw [if_pos he] at hrr
   have := mix_set L _ hrl i (by omega)
   rw [hrr] at this
   rw [Int.toNat_natCast, this]; exact hgo
  ·rw [if_neg he]
   rw [if_neg he] at hrr
   rw [mix_next L _ hrl i (by omega) hrr]; exact hgo
theorem or_setG {o g : Int} (ho : 0 ≤ o) (ho2 : o < 16777216) (h0 : 0 ≤ g) (h1 : g ≤ 24) : Go.bits .or .i64 o (shl .i64 1 g) = setG o g true := by
 have hp : (2 : Nat) ^ g.toNat ≤ 16777216 := by
  have := Nat.pow_le_pow_right (n := 2) (by omega) (show g.toNat ≤ 24 by omega)
  omega
 rw [shl_one h0 (by omega), show o = ((o.toNat : Nat) : Int) by omega, show (2 : Int) ^ g.toNat = ((2 ^ g.toNat : Nat) : Int) by norm_cast, bits_or_nat (by omega) (by omega)]
 unfold setG bitAt
 simp only [Int.toNat_natCast]
 by_cases hb : o.toNat.testBit g.toNat = true
 ·rw [if_pos hb]
  congr 1
  apply Nat.eq_of_testBit_eq
  intro i
  rw [Nat.testBit_or, Nat.testBit_two_pow]
  by_cases e : g.toNat = i
  ·rw [← e, hb]; simp
  ·simp [e]
 ·rw [if_neg hb]
  congr 1
  apply Nat.eq_of_testBit_eq
  intro i
  rw [Nat.testBit_or, Nat.testBit_xor, Nat.testBit_two_pow]
  by_cases e : g.toNat = i
  ·rw [← e]; simp at hb; simp [hb]
  ·simp [e]
theorem pcnt_on {w h o g : Int} (hm : mOk w h o = true) (hg : gapIn w h g = true) (hb : bitAt o g = false) : pcnt w h (setG o g true) = pcnt w h o + 1 := by
 obtain ⟨g0, g1⟩ := gapIn_iff.1 hg
 have hm' := mOk_setG (b := true) hm hg
 unfold pcnt
 rw [if_pos hm, if_pos hm', pcN_bits (setG o g true).toNat o.toNat g.toNat ?_ hb ?_, if_pos (by omega)]
 ·omega
 ·have := bit_setG (o := o) (b := true) g g0 g0
  rw [if_pos rfl] at this; exact this
 ·intro i hi
  have := bit_setG (o := o) (b := true) (i : Int) g0 (by omega)
  rw [if_neg (by omega)] at this
  unfold bitAt at this
  simpa using this.symm
theorem loops_join {w h o g : Int} (hm : mOk w h o = true) (hg : gapIn w h g = true) (hc : ¬ Con w h o (ends w h g).1 (ends w h g).2) : loopsZ w h (setG o g true) = loopsZ w h o := by
 have hb : bitAt o g = false := by
  cases hq : bitAt o g with
  | false => rfl
  | true => exact absurd (con_gap hm hg hq) hc
 have h1 := pcnt_on hm hg hb
 have h2 := parts_join hm (mOk_setG hm hg) hg (bits_on hg) hc
 unfold loopsZ; omega
theorem con_on {w h o g x y : Int} (hm : mOk w h o = true) (hg : gapIn w h g = true) (hc : Con w h o x y) : Con w h (setG o g true) x y :=
 Con.mono (mOk_setG hm hg) (fun i hi hb => (bits_on hg i hi).2 (.inl hb)) hc
structure TI (w h o : Int) (L : List Int) : Prop where
 ok : mOk w h o = true
 len : (L.length : Int) = nCells w h
 lab : ∀ x y : Int, 0 ≤ x → x < nCells w h → 0 ≤ y → y < nCells w h → (rd L x = rd L y ↔ Con w h o x y)
 tree : loopsZ w h o = 0
theorem TI.join {w h o g : Int} {L : List Int} (hT : TI w h o L) (hg : gapIn w h g = true) (hne : rd L (ends w h g).1 ≠ rd L (ends w h g).2) : TI w h (setG o g true) (relab L (rd L (ends w h g).2) (rd L (ends w h g).1)) := by
 obtain ⟨⟨p, q, r⟩, _⟩ := ends_nbr hg
 have hnc : ¬ Con w h o (ends w h g).1 (ends w h g).2 := fun hc => hne ((hT.lab _ _ p (by omega) (by omega) r).2 hc)
 have hlen := hT.len
 refine ⟨mOk_setG hT.ok hg, by rw [relab_len]; exact hlen, fun x y x0 x1 y0 y1 => ?_, by rw [loops_join hT.ok hg hnc]; exact hT.tree⟩
 rw [con_add hT.ok (mOk_setG hT.ok hg) hg (bits_on hg), ← hT.lab x y x0 x1 y0 y1, ← hT.lab x _ x0 x1 p (by omega), ← hT.lab _ y (by omega) r y0 y1, ← hT.lab x _ x0 x1 (by omega) r, ← hT.lab _ y p (by omega) y0 y1, relab_rd L _ _ x x0 (by omega), relab_rd L _ _ y y0 (by omega)]
 generalize rd L x = X at *
 generalize rd L y = Y at *
 generalize rd L (ends w h g).1 = A at *
 generalize rd L (ends w h g).2 = B at *
 clear hT hg hnc hlen p q r x0 x1 y0 y1
 by_cases e1 : X = B
 ·by_cases e2 : Y = B
  ·rw [if_pos e1, if_pos e2]; subst e1; subst e2; simp
  ·rw [if_pos e1, if_neg e2]; subst e1
   constructor
   ·intro hh; exact .inr (.inr ⟨rfl, hh⟩)
   ·rintro (hh | ⟨hh, _⟩ | ⟨_, hh⟩)
    ·exact absurd hh.symm e2
    ·exact absurd hh.symm hne
    ·exact hh
 ·by_cases e2 : Y = B
  ·rw [if_neg e1, if_pos e2]; subst e2
   constructor
   ·intro hh; exact .inr (.inl ⟨hh, rfl⟩)
   ·rintro (hh | ⟨hh, _⟩ | ⟨hh, _⟩)
    ·exact absurd hh e1
    ·exact hh
    ·exact absurd hh e1
  ·rw [if_neg e1, if_neg e2]
   constructor
   ·intro hh; exact .inl hh
   ·rintro (hh | ⟨_, hh⟩ | ⟨hh, _⟩)
    ·exact hh
    ·exact absurd hh.symm e2
    ·exact absurd hh e1
def gapNo (first step n : Int) (i : Nat) : Int := (first + i * step) % n
theorem tree_l2 {w h : Int} (hk : gOk w h = true) (hn : 0 < nGaps w h) (first step i1 h1 : Int) (l : List Int) (f0 : 0 ≤ first) (f1 : first < nGaps w h) (s0 : 0 ≤ step) (s1 : step ≤ 100) (d : Nat) : ∀ (k j : Nat) (o : Int) (L : List Int), (j : Int) + d = nGaps w h → 20 * d + 20 ≤ k → TI w h o L → (∀ i : Nat, i < j → Con w h o (ends w h (gapNo first step (nGaps w h) i)).1 (ends w h (gapNo first step (nGaps w h) i)).2) →
  ∃ o', spec_l03Tree.l2 k (nGaps w h) L first step j l i1 h1 w h w h o = some (w, h, o', i1, h1) ∧ mOk w h o' = true ∧ loopsZ w h o' = 0 ∧ ∀ i : Nat, (i : Int) < nGaps w h → Con w h o' (ends w h (gapNo first step (nGaps w h) i)).1 (ends w h (gapNo first step (nGaps w h) i)).2 := by
 have hb := nGaps_bd w h
 have hnc := nCells_bd w h
 induction d with
 | zero =>
  intro k j o L hj hk2 hT hD
  obtain ⟨k, rfl⟩ : ∃ m, k = m + 1 := ⟨k - 1, by omega⟩
  refine ⟨o, ?_, hT.ok, hT.tree, fun i hi => hD i (by omega)⟩
  simp only [spec_l03Tree.l2]; rw [if_neg (by omega)]
 | succ d ih =>
  intro k j o L hj hk2 hT hD
  obtain ⟨k, rfl⟩ : ∃ m, k = m + 1 := ⟨k - 1, by omega⟩
  have hjs : 0 ≤ (j : Int) * step ∧ (j : Int) * step ≤ 2400 := ⟨Int.mul_nonneg (by omega) s0, by
   have := Int.mul_le_mul (show (j : Int) ≤ 24 by omega) s1 s0 (by omega); omega⟩
  have hgn : Int.tmod (wrap64 (first + (wrap64 ((j : Int) * step)))) (nGaps w h) = gapNo first step (nGaps w h) j := by
   rw [w64_id (x := (j : Int) * step) (by omega) (by omega), w64_id (by omega) (by omega), Int.tmod_eq_emod_of_nonneg (by omega)]; rfl
  have hg0 : 0 ≤ gapNo first step (nGaps w h) j := Int.emod_nonneg _ (by omega)
  have hg1 : gapNo first step (nGaps w h) j < nGaps w h := Int.emod_lt_of_pos _ hn
  have hgi : gapIn w h (gapNo first step (nGaps w h) j) = true := gapIn_iff.2 ⟨hg0, hg1⟩
  have hbo := mOk_bd hT.ok
  have hor := or_setG (o := o) (g := gapNo first step (nGaps w h) j) hbo.1 hbo.2 hg0 (by omega)
  obtain ⟨⟨p, q, r⟩, _⟩ := ends_nbr hgi
  have hlen := hT.len
  have hlab := hT.lab (ends w h (gapNo first step (nGaps w h) j)).1 (ends w h (gapNo first step (nGaps w h) j)).2 p (by omega) (by omega) r
  have hjoin := fun hne => TI.join (g := gapNo first step (nGaps w h) j) hT hgi hne
  have hl3 := fun a1 hne m => tree_l3 L (by omega) (ends w h (gapNo first step (nGaps w h) j)).1 (rd L (ends w h (gapNo first step (nGaps w h) j)).2) (nGaps w h) first step j i1 h1 w h w h (setG o (gapNo first step (nGaps w h) j) true) l p a1 hne L.length m 0 (by omega)
  have hcon : ∀ x y, Con w h o x y → Con w h (setG o (gapNo first step (nGaps w h) j) true) x y := fun x y hc => con_on hT.ok hgi hc
  have hcg : Con w h (setG o (gapNo first step (nGaps w h) j) true) (ends w h (gapNo first step (nGaps w h) j)).1 (ends w h (gapNo first step (nGaps w h) j)).2 := con_gap (mOk_setG hT.ok hgi) hgi ((bits_on hgi _ hgi).2 (.inr rfl))
  simp only [spec_l03Tree.l2]
  rw [if_pos (by omega), if_neg (by omega), hgn, spec_EndsOf_eq, w64_id (x := (j : Int) + 1) (by omega) (by omega)]
  simp only [Option.bind_some]
  rw [if_pos p, if_pos (by omega), if_pos (by omega), if_pos (by omega), hor]
  by_cases he : rd L (ends w h (gapNo first step (nGaps w h) j)).1 = rd L (ends w h (gapNo first step (nGaps w h) j)).2
  ·rw [if_pos he]
   refine ih k (j + 1) o L (by omega) (by omega) hT (fun i hi => ?_)
   by_cases e : i = j
   ·rw [e]; exact hlab.1 he
   ·exact hD i (by omega)
  ·rw [if_neg he, if_pos hg0]
   obtain ⟨m, hm⟩ : ∃ m, k = m + L.length + 1 := ⟨k - L.length - 1, by omega⟩
   have h3 := hl3 (by omega) he m
   rw [List.take_zero, List.nil_append, List.drop_zero, ← hm, w64_id (x := (j : Int) + 1) (by omega) (by omega)] at h3
   rw [show (0 : Int) = ((0 : Nat) : Int) from rfl, h3]
   refine ih m (j + 1) _ _ (by omega) (by omega) (hjoin he) (fun i hi => ?_)
   by_cases e : i = j
   ·rw [e]; exact hcg
   ·exact hcon _ _ (hD i (by omega))
theorem common_all : ((List.range 25).all fun n => (List.range 26).all fun s => n == 0 || s == 0 || (spec_l03Common.f 40 (s : Int) (n : Int) == some (decide (1 < Nat.gcd s n)))) = true := by decide +kernel
theorem common_k (k : Nat) (a b : Int) (r : Bool) (h40 : spec_l03Common.f 40 a b = some r) : spec_l03Common.f (40 + k) a b = some r := by
 induction k with
 | zero => exact h40
 | succ k ih => exact spec_l03Common.mono a b (40 + k) r ih
theorem common_eq (k n s : Nat) (hk : 40 ≤ k) (n0 : 0 < n) (n1 : n ≤ 24) (s0 : 0 < s) (s1 : s ≤ 25) : spec_l03Common.f k s n = some (decide (1 < Nat.gcd s n)) := by
 obtain ⟨k, rfl⟩ : ∃ m, k = 40 + m := ⟨k - 40, by omega⟩
 refine common_k k s n _ ?_
 have := List.all_eq_true.1 (List.all_eq_true.1 common_all n (List.mem_range.2 (by omega))) s (List.mem_range.2 (by omega))
 simp only [Bool.or_eq_true, beq_iff_eq] at this
 rcases this with (h | h) | h
 ·omega
 ·omega
 ·exact h
theorem cover_all : ((List.range 25).all fun n => (List.range 26).all fun s => decide (1 < Nat.gcd s n) || ((List.range n).all fun g => (List.range n).any fun i => i * s % n == g)) = true := by decide +kernel
theorem cover {n s : Nat} (n1 : n ≤ 24) (s1 : s ≤ 25) (hg : ¬ 1 < Nat.gcd s n) {first g : Int} (f0 : 0 ≤ first) (f1 : first < n) (g0 : 0 ≤ g) (g1 : g < n) : ∃ i : Nat, i < n ∧ gapNo first s n i = g := by
 have h1 := List.all_eq_true.1 (List.all_eq_true.1 cover_all n (List.mem_range.2 (by omega))) s (List.mem_range.2 (by omega))
 simp only [Bool.or_eq_true, decide_eq_true_eq] at h1
 rcases h1 with h1 | h1
 ·exact absurd h1 hg
 ·have hd0 : 0 ≤ (g - first) % n := Int.emod_nonneg _ (by omega)
  have hd1 : (g - first) % n < n := Int.emod_lt_of_pos _ (by omega)
  obtain ⟨i, hi, hie⟩ := List.any_eq_true.1 (List.all_eq_true.1 h1 ((g - first) % n).toNat (List.mem_range.2 (by omega)))
  refine ⟨i, List.mem_range.1 hi, ?_⟩
  have he : i * s % n = ((g - first) % n).toNat := by simpa using hie
  have he' : (i : Int) * (s : Int) % (n : Int) = (g - first) % n := by
   have : ((i * s % n : Nat) : Int) = (((g - first) % n).toNat : Int) := by rw [he]
   rw [Int.toNat_of_nonneg hd0] at this
   rw [← this]; push_cast; rfl
  unfold gapNo
  rw [Int.add_emod, he', ← Int.add_emod, show first + (g - first) = g by omega, Int.emod_eq_of_lt g0 g1]
theorem tree_l1 {n : Nat} (n0 : 0 < n) (n1 : n ≤ 24) (L l : List Int) (first i1 h1 w h p q o : Int) (d : Nat) : ∀ (k s : Nat), s + d = n + 1 → 0 < s → d + 50 ≤ k → ∃ m s' : Nat, k ≤ m + d + 1 ∧ 0 < s' ∧ s' ≤ n + 1 ∧ ¬ 1 < Nat.gcd s' n ∧ spec_l03Tree.l1 k n L first s l i1 h1 w h p q o = spec_l03Tree.l2 m n L first s' 0 l i1 h1 w h p q o := by
 induction d with
 | zero =>
  intro k s hs s0 hk
  obtain ⟨k, rfl⟩ : ∃ m, k = m + 1 := ⟨k - 1, by omega⟩
  have hg : ¬ 1 < Nat.gcd s n := by
   rw [show s = n + 1 by omega]; simp
  refine ⟨k, s, by omega, s0, by omega, hg, ?_⟩
  have hc := common_eq k n s (by omega) n0 n1 s0 (by omega)
  simp only [spec_l03Tree.l1]
  rw [hc]; simp [hg]
 | succ d ih =>
  intro k s hs s0 hk
  obtain ⟨k, rfl⟩ : ∃ m, k = m + 1 := ⟨k - 1, by omega⟩
  have hc := common_eq k n s (by omega) n0 n1 s0 (by omega)
  by_cases hg : 1 < Nat.gcd s n
  ·obtain ⟨m, s', m1, m2, m3, m4, m5⟩ := ih k (s + 1) (by omega) (by omega) (by omega)
   refine ⟨m, s', by omega, m2, m3, m4, ?_⟩
   simp only [spec_l03Tree.l1]
   rw [hc]
   simp only [Option.bind_some, decide_eq_true hg, if_true]
   rw [w64_id (by omega) (by omega), show (s : Int) + 1 = ((s + 1 : Nat) : Int) by omega]
   exact m5
  ·refine ⟨k, s, by omega, s0, by omega, hg, ?_⟩
   simp only [spec_l03Tree.l1]
   rw [hc]; simp [hg]
theorem numsTo_rd {n : Nat} {x : Int} (x0 : 0 ≤ x) (x1 : x < n) : rd (numsTo n) x = x := by
 induction n with
 | zero => omega
 | succ n ih =>
  obtain ⟨i, rfl⟩ : ∃ i : Nat, x = i := ⟨x.toNat, by omega⟩
  rw [show numsTo (n + 1) = numsTo n ++ [(n : Int)] from rfl, rd_app, numsTo_len]
  by_cases hi : i < n
  ·rw [if_pos hi]; exact ih (by omega)
  ·rw [if_neg hi, show i = n by omega, Nat.sub_self]; rfl
theorem tree_l0 (n : Nat) (hn : n ≤ 1000) (n6 i1 h1 w h p q o : Int) (l : List Int) (d : Nat) : ∀ (m i : Nat), i + d = n → spec_l03Tree.l0 (m + d + 1) n6 ((numsTo n).take i ++ (List.replicate n (0 : Int)).drop i) i l i1 h1 w h p q o = spec_l03Tree.l0 (m + 1) n6 (numsTo n) n l i1 h1 w h p q o := by
 induction d with
 | zero =>
  intro m i hi
  rw [List.take_of_length_le (by rw [numsTo_len]; omega), List.drop_of_length_le (by simp; omega), List.append_nil, show i = n by omega]
 | succ d ih =>
  intro m i hi
  have hgo := ih m (i + 1) (by omega)
  have hlen : ((numsTo n).take i ++ (List.replicate n (0 : Int)).drop i).length = n := by simp [numsTo_len]; omega
  have hs := mix_set (List.replicate n (0 : Int)) (numsTo n) (by simp [numsTo_len]) i (by simp; omega)
  rw [numsTo_rd (by omega) (by omega)] at hs
  rw [show m + (d + 1) + 1 = (m + d + 1) + 1 by omega]
  generalize m + d + 1 = M at hgo ⊢
  simp only [spec_l03Tree.l0]
  rw [hlen, if_pos (by omega), if_pos (by omega), w64_id (x := (i : Int) + 1) (by omega) (by omega), Int.toNat_natCast, hs]
  rw [show ((i + 1 : Nat) : Int) = (i : Int) + 1 by omega] at hgo
  rw [hgo]
  simp only [spec_l03Tree.l0]
theorem mOk_zero {w h : Int} (hk : gOk w h = true) : mOk w h 0 = true := by
 refine mOk_iff.2 ⟨hk, by omega, ?_⟩
 have : 0 < (2 : Nat) ^ (nGaps w h).toNat := Nat.pow_pos (by omega)
 exact_mod_cast this
theorem l03Tree_tot (l : List Int) (hl : l.length ≤ 140737488351232) (i h0 : Int) (hi : 0 ≤ i) {w h : Int} (hk : gOk w h = true) (k : Nat) (hk2 : 2000 ≤ k) : ∃ o i' h', spec_l03Tree.f k l i h0 w h = some (w, h, o, i', h') ∧ mOk w h o = true ∧ loopsZ w h o = 0 ∧ partsN w h o = 1 ∧ 0 ≤ i' := by
 have hn := nCells_bd w h
 have hb := nGaps_bd w h
 unfold spec_l03Tree.f
 rw [spec_CountGaps_eq, spec_CountCells_eq]
 simp only [Option.bind_some]
 rw [if_pos hn.1, if_pos (by omega)]
 obtain ⟨m, hm⟩ : ∃ m, k = m + (nCells w h).toNat + 1 := ⟨k - (nCells w h).toNat - 1, by omega⟩
 have hfill := tree_l0 (nCells w h).toNat (by omega) (nGaps w h) i h0 w h w h 0 l (nCells w h).toNat m 0 (by omega)
 rw [List.take_zero, List.nil_append, List.drop_zero, ← hm] at hfill
 rw [show ((0 : Nat) : Int) = 0 from rfl] at hfill
 rw [hfill]
 have hT : TI w h 0 (numsTo (nCells w h).toNat) := by
  refine ⟨mOk_zero hk, by rw [numsTo_len]; omega, fun x y x0 x1 y0 y1 => ?_, loops_zero⟩
  rw [numsTo_rd x0 (by omega), numsTo_rd y0 (by omega), con_zero]
 have hstep : spec_l03Tree.l0 (m + 1) (nGaps w h) (numsTo (nCells w h).toNat) ((nCells w h).toNat : Nat) l i h0 w h w h 0 = (if nGaps w h = 0 then (some (w, h, 0, i, h0)) else ((spec_l01Below.f l i h0 (nGaps w h)).bind fun bt576 => ((spec_l01Below.f l bt576.2.1 bt576.2.2 (nGaps w h)).bind fun bt579 => (spec_l03Tree.l1 m (nGaps w h) (numsTo (nCells w h).toNat) bt576.1 (wrap64 (1 + bt579.1)) l bt579.2.1 bt579.2.2 w h w h 0)))) := by
  simp only [spec_l03Tree.l0]
  rw [numsTo_len, if_neg (by omega)]
 rw [hstep]
 have hfin : ∀ o, mOk w h o = true → (∀ g, gapIn w h g = true → Con w h o (ends w h g).1 (ends w h g).2) → partsN w h o = 1 := fun o ho hall => (parts_one o hk).2 fun x x0 x1 => all_con hall x.toNat x (by omega) x1
 by_cases hz : nGaps w h = 0
 ·rw [if_pos hz]
  exact ⟨0, i, h0, rfl, hT.ok, hT.tree, hfin 0 hT.ok (fun g hg => by have := gapIn_iff.1 hg; omega), hi⟩
 ·rw [if_neg hz]
  obtain ⟨first, i1, h1, e1, f0, f1, _, i10⟩ := l01Below_tot l hl i h0 (nGaps w h) hi
  have f1 := f1 (by omega)
  rw [e1]; simp only [Option.bind_some]
  obtain ⟨st, i2, h2, e2, s0, s1, _, i20⟩ := l01Below_tot l hl i1 h1 (nGaps w h) i10
  have s1 := s1 (by omega)
  rw [e2]; simp only [Option.bind_some]
  obtain ⟨n, hnn⟩ : ∃ n : Nat, nGaps w h = n := ⟨(nGaps w h).toNat, by omega⟩
  rw [w64_id (by omega) (by omega), hnn, show 1 + st = (((1 + st).toNat : Nat) : Int) by omega]
  obtain ⟨m', s', m1, m2, m3, m4, m5⟩ := tree_l1 (n := n) (by omega) (by omega) (numsTo (nCells w h).toNat) l first i2 h2 w h w h 0 (n + 1 - (1 + st).toNat) m (1 + st).toNat (by omega) (by omega) (by omega)
  rw [m5]
  obtain ⟨o', q1, q2, q3, q4⟩ := tree_l2 hk (by omega) first s' i2 h2 l f0 f1 (by omega) (by omega) n m' 0 0 (numsTo (nCells w h).toNat) (by omega) (by omega) hT (fun i hi => absurd hi (by omega))
  rw [hnn] at q1 q4
  refine ⟨o', i2, h2, q1, q2, q3, hfin o' q2 (fun g hg => ?_), i20⟩
  obtain ⟨g0, g1⟩ := gapIn_iff.1 hg
  obtain ⟨ii, ii1, ii2⟩ := cover (n := n) (s := s') (by omega) (by omega) m4 f0 (by omega) g0 (by omega)
  have := q4 ii (by omega)
  rw [ii2] at this; exact this
theorem xor_any {o g : Int} (ho : 0 ≤ o) (ho2 : o < 16777216) (h0 : 0 ≤ g) (h1 : g ≤ 24) : ∃ b, Go.bits .xor .i64 o (shl .i64 1 g) = setG o g b := by
 rw [xor_setG ho ho2 h0 h1]
 refine ⟨!(bitAt o g), ?_⟩
 unfold setG
 cases bitAt o g <;> simp
theorem l03Maze_l0 (l : List Int) (hl : l.length ≤ 140737488351232) {w h : Int} (hk : gOk w h = true) (hg : 0 < nGaps w h) (d : Nat) : ∀ (k : Nat) (x i h0 o : Int), x + 1 ≤ d → x ≤ 1000 → -1 ≤ x → d < k → 0 ≤ i → mOk w h o = true → ∃ o' i' h', spec_l03Maze.l0 k (nGaps w h) x l i h0 w h o = some (w, h, o', i', h') ∧ mOk w h o' = true ∧ 0 ≤ i' := by
 have hb := nGaps_bd w h
 induction d with
 | zero =>
  intro k x i h0 o hx _ hx1 hk hi hm
  obtain ⟨k, rfl⟩ : ∃ m, k = m + 1 := ⟨k - 1, by omega⟩
  simp only [spec_l03Maze.l0]; rw [if_neg (by omega)]
  exact ⟨_, _, _, rfl, hm, hi⟩
 | succ d ih =>
  intro k x i h0 o hx hx0 hx1 hk hi hm
  obtain ⟨k, rfl⟩ : ∃ m, k = m + 1 := ⟨k - 1, by omega⟩
  simp only [spec_l03Maze.l0]
  by_cases hp : x ≥ 0
  ·rw [if_pos hp]
   obtain ⟨y, i1, h1, e1, y0, y1, _, i10⟩ := l01Below_tot l hl i h0 (nGaps w h) hi
   have y1 := y1 hg
   rw [e1]; simp only [Option.bind_some]
   have hbo := mOk_bd hm
   obtain ⟨b, hxor⟩ := xor_any (o := o) (g := y) hbo.1 hbo.2 y0 (by omega)
   rw [if_pos y0, hxor, w64_id (by omega) (by omega)]
   exact ih k _ _ _ _ (by omega) (by omega) (by omega) (by omega) i10 (mOk_setG hm (gapIn_iff.2 ⟨y0, y1⟩))
  ·rw [if_neg hp]
   exact ⟨_, _, _, rfl, hm, hi⟩
theorem l03Maze_tot (l : List Int) (hl : l.length ≤ 140737488351232) (i h0 : Int) (hi : 0 ≤ i) (k : Nat) (hk : 2100 ≤ k) : ∃ w h o i' h', spec_l03Maze.f k l i h0 = some (w, h, o, i', h') ∧ mOk w h o = true ∧ 0 ≤ i' := by
 unfold spec_l03Maze.f
 obtain ⟨w, h, i1, h1, e, hg, i10⟩ := l02Grid_tot l hl i h0 hi
 rw [e]; simp only [Option.bind_some]
 obtain ⟨o, i2, h2, e, hm, _, _, i20⟩ := l03Tree_tot l hl i1 h1 i10 hg k (by omega)
 rw [e]; simp only [Option.bind_some]
 rw [spec_CountGaps_eq]; simp only [Option.bind_some]
 have hj : ∀ k i h0, spec_l03Maze.j0 (k + 1) (nGaps w h) false l i h0 w h o = some (w, h, o, i, h0) := fun k i h0 => by simp [spec_l03Maze.j0]
 obtain ⟨k, rfl⟩ : ∃ m, k = m + 1 := ⟨k - 1, by omega⟩
 by_cases hz : nGaps w h > 0
 ·rw [if_pos hz]
  obtain ⟨b, i3, h3, e, i30⟩ := l01Once_tot l hl i2 h2 2 i20
  rw [e]; simp only [Option.bind_some]
  cases b with
  | false => rw [hj]; exact ⟨_, _, _, _, _, rfl, hm, i30⟩
  | true =>
   simp only [spec_l03Maze.j0, if_true]
   obtain ⟨y, i4, h4, e, y0, y1, _, i40⟩ := l01Below_tot l hl i3 h3 4 i30
   have y1 := y1 (by omega)
   rw [e]; simp only [Option.bind_some]
   obtain ⟨o', i', h', q1, q2, q3⟩ := l03Maze_l0 l hl hg hz 5 k y i4 h4 o (by omega) (by omega) (by omega) (by omega) i40 hm
   exact ⟨_, _, _, _, _, q1, q2, q3⟩
 ·rw [if_neg hz, hj]; exact ⟨_, _, _, _, _, rfl, hm, i20⟩
theorem DrawCells_tot (l : List Int) (hl : l.length ≤ 140737488351232) (k : Nat) (hk : l.length < k) (hk2 : 2100 ≤ k) : ∃ w h o a b, spec_DrawCells.f k l = some (w, h, o, a, b) ∧ mOk w h o = true ∧ (0 ≤ a ∧ a < nCells w h) ∧ (0 ≤ b ∧ b < nCells w h) := by
 unfold spec_DrawCells.f
 obtain ⟨h', e⟩ := l01New_eq l hl k hk
 rw [e]; simp only [Option.bind_some]
 obtain ⟨w, h, o, i', h2, e, hm, i0⟩ := l03Maze_tot l hl 0 h' (by omega) k hk2
 rw [e]; simp only [Option.bind_some]
 have hn := (nCells_bd w h).2.2 (mOk_iff.1 hm).1
 rw [spec_CountCells_eq]; simp only [Option.bind_some]
 obtain ⟨a, i3, h3, e, a0, a1, _, i30⟩ := l01Below_tot l hl i' h2 (nCells w h) i0
 rw [e]; simp only [Option.bind_some]
 obtain ⟨b, i4, h4, e, b0, b1, _, i40⟩ := l01Below_tot l hl i3 h3 (nCells w h) i30
 rw [e]; simp only [Option.bind_some]
 exact ⟨_, _, _, _, _, rfl, hm, ⟨a0, a1 (by omega)⟩, ⟨b0, b1 (by omega)⟩⟩
theorem big_eq (l : List Int) : laws_big.f l = some (decide ((l.length : Int) > 1048576)) := rfl
theorem bt_nums (xs : List Int) (i : Nat) (hi : i < xs.length) (hb : 0 ≤ rd xs i ∧ rd xs i ≤ 255) : bt (strOfNums xs) i = rd xs i := by
 have hs : i < (strOfNums xs).size := by rw [strOfNums_size]; exact hi
 unfold bt
 rw [dif_pos (by simpa using hs)]
 rw [rd_mem xs i hi] at hb ⊢
 show (((strOfNums xs).data[i]'hs).toNat : Int) = xs[i]
 simp only [strOfNums, List.getElem_toArray, List.getElem_map, Int.toNat_natCast]
 simp
 omega
theorem ways_impl {w h o b : Int} (b0 : 0 ≤ b) (b1 : b < nCells w h) {D : List Int} (hD : Dist w h o b D) (hlen : (D.length : Int) = nCells w h) (n : Nat) : ∀ (x : Int) (acc : List Int), 0 ≤ x → x < nCells w h → rd D x = (n : Int) → n ≤ 50 → acc.length + n ≤ 100 →
  ∃ s cs, (∀ k, 20 * n + 20 ≤ k → impl_WayBetween.l0 k b D acc x w h o = some (acc ++ s, true)) ∧ s.length = n ∧ (∀ d ∈ s, 0 ≤ d ∧ d ≤ 3) ∧ goL w h o x s = some cs ∧ lastOf x cs = b := by
 induction n with
 | zero =>
  intro x acc x0 x1 hx _ ha
  have hw := hD.wlk x x0 x1 (by omega)
  rw [hx] at hw
  have e : x = b := by
   have : ∀ m y, Wlk w h o b m y → m = 0 → y = b := fun m y hh => by
    cases hh with
    | z => exact fun _ => rfl
    | s => exact fun h0 => absurd h0 (by omega)
   exact this _ _ hw rfl
  refine ⟨[], [], fun k hk => ?_, rfl, fun d hd => by simp at hd, rfl, e⟩
  obtain ⟨k, rfl⟩ : ∃ m, k = m + 1 := ⟨k - 1, by omega⟩
  simp only [impl_WayBetween.l0]; rw [if_pos e, List.append_nil]
 | succ n ih =>
  intro x acc x0 x1 hx hn ha
  have hne : x ≠ b := fun hh => by rw [hh, hD.src] at hx; omega
  obtain ⟨d, d1, d2, d3⟩ := down_step hD b0 b1 x0 x1 (n := n) (by omega)
  obtain ⟨e, e1, ⟨e2, e3⟩, e4⟩ := first_good (fun d => 0 ≤ stp w h o x d ∧ rd D (stp w h o x d) = rd D x - 1) d d1.1 d1.2 ⟨d2, d3⟩
  obtain ⟨_, _, _, hb, _⟩ := stp_bd e2
  obtain ⟨s, cs, r2, r3, r4, r5, r6⟩ := ih (stp w h o x e) (acc ++ [e]) e2 hb (by omega) (by omega) (by simp; omega)
  refine ⟨e :: s, stp w h o x e :: cs, fun k hk => ?_, by simp [r3], fun d hd => ?_, ?_, by rw [lastOf_cons]; exact r6⟩
  ·obtain ⟨k, rfl⟩ : ∃ m, k = m + 1 := ⟨k - 1, by omega⟩
   obtain ⟨A, B, s1, s2⟩ := ways_split e1 e2
   have h4 := waysL_len w h o x
   have hA : A.length ≤ 4 := by rw [s1] at h4; simp at h4; omega
   have hsc := impl_scan (w := w) (h := h) (o := o) (b := b) (x := x) (e := e) (D := D) (acc := acc) hlen x0 x1 e2 (by omega) (by omega) (waysL w h o x) B h4 A (k - A.length - 4) 0 (by simpa using s1) (fun p hp => by
    obtain ⟨p0, p1, p2⟩ := s2 p hp
    refine ⟨p2, fun hlt => ?_⟩
    obtain ⟨_, _, _, pb, _⟩ := stp_bd p2
    have hno := e4 p p0 p1
    have hsh := hD.shut x p x0 x1 (by omega) p2
    have hbk := stp_back p2
    have h2 := hD.shut (stp w h o x p) (opp p) p2 pb hsh.1 (by rw [hbk]; exact x0)
    rw [hbk] at h2
    exact hno ⟨p2, by omega⟩)
   rw [show k - A.length - 4 + 3 + A.length + 1 = k by omega] at hsc
   have hwy : impl_WaysFrom.f k w h o x = some (waysL w h o x) := by
    have := impl_WaysFrom_eq (k - 8) w h o x
    rw [show k - 8 + 8 = k by omega] at this; exact this
   simp only [impl_WayBetween.l0]
   rw [if_neg hne, hwy]
   simp only [Option.bind_some]
   rw [show (0 : Int) = ((0 : Nat) : Int) from rfl, hsc]
   have := r2 (k - A.length - 4 + 3) (by omega)
   rw [List.append_assoc] at this
   exact this
  ·rcases List.mem_cons.1 hd with rfl | hd
   ·exact e1
   ·exact r4 d hd
  ·simp only [goL]
   rw [if_neg (by omega), r5]; rfl
theorem impl_Way_both (w h o a b : Int) (hm : mOk w h o = true) (a0 : 0 ≤ a) (a1 : a < nCells w h) (b0 : 0 ≤ b) (b1 : b < nCells w h) : (distV w h o a b < 0 ∧ ∀ k, 2000 ≤ k → impl_WayBetween.f k w h o a b = some ([], false)) ∨
  ∃ s cs, (∀ k, 2000 ≤ k → impl_WayBetween.f k w h o a b = some (s, true)) ∧ (s.length : Int) = distV w h o a b ∧ s.length ≤ 100 ∧ (∀ d ∈ s, 0 ≤ d ∧ d ≤ 3) ∧ goL w h o a s = some cs ∧ lastOf a cs = b := by
 have hsy := dist_symm o a0 a1 b0 b1
 obtain ⟨hlen, hv⟩ := distL_ok (w := w) (h := h) (c := b) o b0 b1
 have hva := hv a a0 a1
 have hdv : distV w h o a b = rd (distL w h o b) a := by unfold distV; rw [if_pos ⟨hm, cellIn_iff.2 ⟨a0, a1⟩, cellIn_iff.2 ⟨b0, b1⟩⟩, hsy]
 have himpl : ∀ k, 2000 ≤ k → impl_WayBetween.f k w h o a b = if rd (distL w h o b) a < 0 then some ([], false) else impl_WayBetween.l0 k b (distL w h o b) [] a w h o := fun k hk => by
  unfold impl_WayBetween.f
  rw [impl_DistanceOf_eq _ _ _ _ _ k (by omega), hdv]
  simp only [Option.bind_some]
  rw [impl_dist_eq o b0 b1 k (by omega)]; rfl
 rw [hdv]
 by_cases hneg : rd (distL w h o b) a < 0
 ·exact .inl ⟨hneg, fun k hk => by rw [himpl k hk, if_pos hneg]⟩
 ·obtain ⟨n, hn⟩ : ∃ n : Nat, rd (distL w h o b) a = (n : Int) := ⟨(rd (distL w h o b) a).toNat, by omega⟩
  obtain ⟨s, cs, r2, r3, r4, r5, r6⟩ := ways_impl b0 b1 (distL_Dist o b0 b1) hlen n a [] a0 a1 hn (by omega) (by simp; omega)
  exact .inr ⟨s, cs, fun k hk => by rw [himpl k hk, if_neg hneg]; exact r2 k (by omega), by omega, by omega, r4, r5, r6⟩
def revO (l : List Int) : List Int := (l.map opp).reverse
theorem goL_append {w h o : Int} : ∀ (l1 l2 : List Int) (x : Int) {r1}, goL w h o x l1 = some r1 → goL w h o x (l1 ++ l2) = (goL w h o (lastOf x r1) l2).map fun r2 => r1 ++ r2
 | [], l2, x, r1, h1 => by
  simp only [goL, Option.some.injEq] at h1
  subst h1
  show goL w h o x l2 = (goL w h o x l2).map fun r2 => [] ++ r2
  cases goL w h o x l2 <;> rfl
 | d :: l1, l2, x, r1, h1 => by
  simp only [goL] at h1
  by_cases hn : stp w h o x d < 0
  ·rw [if_pos hn] at h1; cases h1
  ·rw [if_neg hn] at h1
   obtain ⟨r, hr, rfl⟩ := Option.map_eq_some_iff.1 h1
   have ih := goL_append l1 l2 (stp w h o x d) hr
   simp only [List.cons_append, goL]
   rw [if_neg hn, ih, lastOf_cons]
   cases goL w h o (lastOf (stp w h o x d) r) l2 <;> rfl
theorem lastOf_append (x : Int) (r1 r2 : List Int) : lastOf x (r1 ++ r2) = lastOf (lastOf x r1) r2 := by
 unfold lastOf
 cases r2 with
 | nil => simp
 | cons y r2 => simp [List.getLast_append, List.getLast_cons]
theorem goL_rev {w h o : Int} : ∀ (l : List Int) (x : Int) {cs}, goL w h o x l = some cs → ∃ cs', goL w h o (lastOf x cs) (revO l) = some cs' ∧ lastOf (lastOf x cs) cs' = x
 | [], x, cs, h1 => by
  simp only [goL, Option.some.injEq] at h1
  subst h1
  exact ⟨[], rfl, rfl⟩
 | d :: l, x, cs, h1 => by
  simp only [goL] at h1
  by_cases hn : stp w h o x d < 0
  ·rw [if_pos hn] at h1; cases h1
  ·rw [if_neg hn] at h1
   obtain ⟨r, hr, rfl⟩ := Option.map_eq_some_iff.1 h1
   obtain ⟨cs', c1, c2⟩ := goL_rev l (stp w h o x d) hr
   have hbk := stp_back (w := w) (h := h) (o := o) (c := x) (d := d) (by omega)
   have hx0 := (stp_bd (w := w) (h := h) (o := o) (c := x) (d := d) (by omega)).2.1.1
   have e : revO (d :: l) = revO l ++ [opp d] := by unfold revO; simp
   rw [lastOf_cons, e, goL_append _ _ _ c1, c2]
   refine ⟨cs' ++ [x], ?_, ?_⟩
   ·simp only [goL]
    rw [hbk, if_neg (by omega)]; rfl
   ·rw [lastOf_append, c2]; rfl
theorem revL_eq (l : List Int) (hd : ∀ d ∈ l, 0 ≤ d ∧ d ≤ 3) : ∀ (i : Nat) (acc : List Int), i ≤ l.length → revL l i acc = acc ++ revO (l.take i)
 | 0, acc, _ => by simp [revL, revO]
 | i + 1, acc, hi => by
  have hm := hd _ (rd_in (q := l) (i := (i : Int)) (by omega) (by omega))
  have e : l.take (i + 1) = l.take i ++ [rd l i] := by rw [List.take_succ_eq_append_getElem (by omega), rd_mem l i (by omega)]
  simp only [revL]
  rw [revL_eq l hd i _ (by omega), e, w64_id (by omega) (by omega), Int.tmod_eq_emod_of_nonneg (by omega)]
  unfold revO
  simp [opp]
theorem dirs_all {l : List Int} (hd : ∀ d ∈ l, 0 ≤ d ∧ d ≤ 3) : l.all dirIn = true := List.all_eq_true.2 fun d hm => by unfold dirIn; simp [hd d hm]
theorem revW_eq {l : List Int} (hd : ∀ d ∈ l, 0 ≤ d ∧ d ≤ 3) : revW l = revO l := by
 unfold revW
 rw [if_pos (dirs_all hd), revL_eq l hd l.length [] (Nat.le_refl _), List.take_length]; rfl
theorem revO_dirs {l : List Int} (hd : ∀ d ∈ l, 0 ≤ d ∧ d ≤ 3) : ∀ d ∈ revO l, 0 ≤ d ∧ d ≤ 3 := fun d hm => by
 unfold revO at hm
 obtain ⟨x, hx, rfl⟩ := List.mem_map.1 (List.mem_reverse.1 hm)
 have := hd x hx
 unfold opp; omega
theorem revO_twice {l : List Int} (hd : ∀ d ∈ l, 0 ≤ d ∧ d ≤ 3) : revO (revO l) = l := by
 unfold revO
 rw [List.map_reverse, List.reverse_reverse, List.map_map]
 have e : l.map (opp ∘ opp) = l.map id := List.map_congr_left fun d hm => by
  have := hd d hm
  simp only [Function.comp, opp, id]; omega
 rw [e, List.map_id]
def letL (l : List Int) : List Int := l.map fun d => bt nesw d
theorem letL_rd (l : List Int) (i : Nat) (hi : i < l.length) : rd (letL l) i = bt nesw (rd l i) := by
 unfold letL
 rw [rd_mem _ i (by simpa using hi), rd_mem l i hi, List.getElem_map]
theorem impl_Text_loop (l : List Int) (hl : l.length ≤ 1000) (hd : ∀ d ∈ l, 0 ≤ d ∧ d ≤ 3) (d : Nat) : ∀ (k i : Nat), i + d = l.length → d < k → impl_WayText.l0 k (letL (l.take i)) l (l.length : Int) i = some (strOfNums (letL l)) := by
 induction d with
 | zero =>
  intro k i hi hk
  obtain ⟨k, rfl⟩ : ∃ m, k = m + 1 := ⟨k - 1, by omega⟩
  simp only [impl_WayText.l0]
  rw [if_neg (by omega), List.take_of_length_le (by omega)]
 | succ d ih =>
  intro k i hi hk
  obtain ⟨k, rfl⟩ : ∃ m, k = m + 1 := ⟨k - 1, by omega⟩
  have hm := hd _ (rd_in (q := l) (i := (i : Int)) (by omega) (by omega))
  have hgo := ih k (i + 1) (by omega) (by omega)
  have e : letL (l.take (i + 1)) = letL (l.take i) ++ [bt nesw (rd l i)] := by
   rw [List.take_succ_eq_append_getElem (by omega), rd_mem l i (by omega)]; unfold letL; rw [List.map_append]; rfl
  rw [e] at hgo
  simp only [impl_WayText.l0]
  rw [if_pos (by omega), if_pos (by omega), if_pos (by omega), if_pos (by omega), if_pos (by omega), if_pos (by unfold letL; simp; omega), w64_id (by omega) (by omega), show (i : Int) + 1 = ((i + 1 : Nat) : Int) by omega]
  exact hgo
theorem impl_WayText_eq (l : List Int) (hl : l.length ≤ 1000) (hd : ∀ d ∈ l, 0 ≤ d ∧ d ≤ 3) (k : Nat) (hk : 1000 < k) : impl_WayText.f k l = some (strOfNums (letL l)) := by
 unfold impl_WayText.f
 rw [areDirections_eq, dirs_all hd]
 simp only [Option.bind_some, if_true]
 exact impl_Text_loop l hl hd l.length k 0 (by omega) (by omega)
theorem dir_letter (d : Int) (h0 : 0 ≤ d) (h1 : d ≤ 3) : dirOf (bt nesw d) = d ∧ 0 ≤ bt nesw d ∧ bt nesw d ≤ 255 := by
 have : d = 0 ∨ d = 1 ∨ d = 2 ∨ d = 3 := by omega
 rcases this with rfl | rfl | rfl | rfl <;> decide +kernel
theorem impl_Parse_loop (l : List Int) (hl : l.length ≤ 1000) (hd : ∀ d ∈ l, 0 ≤ d ∧ d ≤ 3) (d : Nat) : ∀ (k i : Nat), i + d = l.length → d + 10 ≤ k → impl_ParseWay.l0 k (strOfNums (letL l)) (l.take i) i = some (l, true) := by
 have hs : (strOfNums (letL l)).size = l.length := by rw [strOfNums_size]; unfold letL; simp
 induction d with
 | zero =>
  intro k i hi hk
  obtain ⟨k, rfl⟩ : ∃ m, k = m + 1 := ⟨k - 1, by omega⟩
  simp only [impl_ParseWay.l0]
  rw [if_neg (by omega), List.take_of_length_le (by omega)]
 | succ d ih =>
  intro k i hi hk
  obtain ⟨k, rfl⟩ : ∃ m, k = m + 1 := ⟨k - 1, by omega⟩
  have hm := hd _ (rd_in (q := l) (i := (i : Int)) (by omega) (by omega))
  obtain ⟨dl, db⟩ := dir_letter _ hm.1 hm.2
  have hgo := ih k (i + 1) (by omega) (by omega)
  have e : l.take (i + 1) = l.take i ++ [rd l i] := by rw [List.take_succ_eq_append_getElem (by omega), rd_mem l i (by omega)]
  rw [e] at hgo
  have hb : bt (strOfNums (letL l)) i = bt nesw (rd l i) := by
   rw [bt_nums _ i (by unfold letL; simp; omega) (by rw [letL_rd l i (by omega)]; exact db), letL_rd l i (by omega)]
  have hix := index_dirOf (k - 5) (bt nesw (rd l i))
  rw [show k - 5 + 5 = k by omega] at hix
  simp only [impl_ParseWay.l0]
  rw [if_pos (by omega), if_pos (by omega), hb, hix, dl]
  simp only [Option.bind_some]
  rw [if_neg (by omega), if_pos (by simp; omega), w64_id (by omega) (by omega), show (i : Int) + 1 = ((i + 1 : Nat) : Int) by omega]
  exact hgo
theorem sameInts_tot (l : List Int) (hl : l.length ≤ 1000) (d : Nat) : ∀ (k i : Nat), l.length - i ≤ d → d < k → laws_sameInts.l0 k l l i = some true := by
 induction d with
 | zero =>
  intro k i hd hk
  obtain ⟨k, rfl⟩ : ∃ m, k = m + 1 := ⟨k - 1, by omega⟩
  simp only [laws_sameInts.l0]; rw [if_neg (by omega)]
 | succ d ih =>
  intro k i hd hk
  obtain ⟨k, rfl⟩ : ∃ m, k = m + 1 := ⟨k - 1, by omega⟩
  simp only [laws_sameInts.l0]
  by_cases hlt : (i : Int) < (l.length : Int)
  ·rw [if_pos hlt, if_pos (by omega), if_pos hlt]
   simp only [if_true]
   rw [w64_id (by omega) (by omega), show (i : Int) + 1 = ((i + 1 : Nat) : Int) by omega]
   exact ih k (i + 1) (by omega) (by omega)
  ·rw [if_neg hlt]
theorem sameInts_self (l : List Int) (hl : l.length ≤ 1000) (k : Nat) (hk : 1000 < k) : laws_sameInts.f k l l = some true := by
 unfold laws_sameInts.f
 rw [if_pos rfl]
 exact sameInts_tot l hl l.length k 0 (by omega) (by omega)
theorem FnWays : laws_FnWays.Pure := by
 intro l hl0 hl hw
 rw [Nat.mul_one] at hl
 obtain ⟨K, hK⟩ : ∃ K, K = l.length + 3000 := ⟨_, rfl⟩
 refine ⟨K, ?_⟩
 unfold laws_FnWays.f
 rw [big_eq]
 simp only [Option.bind_some]
 by_cases hbig : (decide ((l.length : Int) > 1048576)) = true
 ·rw [if_pos hbig]
 ·rw [if_neg hbig]
  obtain ⟨w, h, o, a, b, e, hm, ⟨a0, a1⟩, ⟨b0, b1⟩⟩ := DrawCells_tot l hl K (by omega) (by omega)
  rw [e]; simp only [Option.bind_some]
  have hn := nCells_bd w h
  rcases impl_Way_both w h o a b hm a0 a1 b0 b1 with ⟨h1, h2⟩ | ⟨s, cs, h1, h2, h3, h4, h5, h6⟩
  ·rw [h2 K (by omega)]; simp only [Option.bind_some]
   rw [impl_DistanceOf_eq _ _ _ _ _ K (by omega)]; simp [h1]
  ·rw [h1 K (by omega)]; simp only [Option.bind_some]
   rw [impl_DistanceOf_eq _ _ _ _ _ K (by omega)]; simp only [Option.bind_some, if_true]
   have hok : wayOk w h o a s = true := by unfold wayOk; rw [hm, cellIn_iff.2 ⟨a0, a1⟩]; simp; omega
   have hwk : walkV w h o a s = (b, true) := by unfold walkV; rw [if_pos hok, h5]; simp [h6]
   obtain ⟨cs', c1, c2⟩ := goL_rev s a h5
   rw [h6] at c1 c2
   have hrl : (revO s).length = s.length := by unfold revO; simp
   have hok2 : wayOk w h o b (revO s) = true := by unfold wayOk; rw [hm, cellIn_iff.2 ⟨b0, b1⟩]; simp; omega
   have hbk : walkV w h o b (revO s) = (a, true) := by unfold walkV; rw [if_pos hok2, c1]; simp [c2]
   have hcl : cellsV w h o a s = a :: cs := by unfold cellsV; rw [if_pos hok, h5]
   have hcn := goL_len s a h5
   have hps := impl_Parse_loop s (by omega) h4 s.length K 0 (by omega) (by omega)
   have hlast := rd_last a cs (by omega)
   have hcc : (((a :: cs).length : Nat) : Int) = distV w h o a b + 1 := by simp; omega
   rw [impl_WalkWay_eq w h o a s (by omega) K (by omega), hwk]; simp only [Option.bind_some]
   rw [impl_ReverseWay_eq s (by omega) K (by omega), revW_eq h4]; simp only [Option.bind_some]
   rw [impl_WalkWay_eq w h o b (revO s) (by omega) K (by omega), hbk]; simp only [Option.bind_some]
   rw [impl_CellsOn_eq w h o a s (by omega) K (by omega), hcl]; simp only [Option.bind_some]
   rw [impl_WayText_eq s (by omega) h4 K (by omega)]; simp only [Option.bind_some]
   have hpf : impl_ParseWay.f K (strOfNums (letL s)) = some (s, true) := hps
   rw [hpf]; simp only [Option.bind_some]
   rw [hcc, w64_id (by omega) (by omega)] at hlast
   rw [if_pos h2]
   simp only [if_true]
   rw [hcc, w64_id (by omega) (by omega), if_pos rfl, if_pos (by omega), if_pos (show rd (a :: cs) 0 = a from rfl), if_pos (by omega), if_pos (by omega)]
   rw [show distV w h o a b + 1 - 1 = distV w h o a b by omega] at hlast
   rw [hlast, if_pos h6, sameInts_self s (by omega) K (by omega)]; simp only [Option.bind_some, if_true]
   rw [impl_ReverseWay_eq (revO s) (by omega) K (by omega), revW_eq (revO_dirs h4), revO_twice h4]; simp only [Option.bind_some]
   rw [sameInts_self s (by omega) K (by omega)]; rfl

end Go.Proofs.Ytpaecckpdaiogaa.Q.P
namespace Go.Proofs.Ytpaecckpdaiogaa.Pure
theorem FnWays : Go.Proofs.Ytpaecckpdaiogaa.Q.laws_FnWays.Pure := Go.Proofs.Ytpaecckpdaiogaa.Q.P.FnWays
end Go.Proofs.Ytpaecckpdaiogaa.Pure
