/- The plain law FnExactWallLoops: for every input that its Go types allow, the printed functions of the program and of the reference answer so that the law's own function says true. No further condition. -/
import Derived.Test.YtkbfknodibnkgaaQx0
import Derived.Test.YtkbfknodibnkgaaQx1
import Derived.Test.YtkbfknodibnkgaaQx2
import Derived.Test.YtkbfknodibnkgaaQx23
import Derived.Test.YtkbfknodibnkgaaQx29
import Derived.Test.YtkbfknodibnkgaaQx3
import Derived.Test.YtkbfknodibnkgaaQx30
import Derived.Test.YtkbfknodibnkgaaQx31
import Derived.Test.YtkbfknodibnkgaaQx32
import Derived.Test.YtkbfknodibnkgaaQx34
import Derived.Test.YtkbfknodibnkgaaQx35
import Derived.Test.YtkbfknodibnkgaaQx36
import Derived.Test.YtkbfknodibnkgaaQx4
import Derived.Test.YtkbfknodibnkgaaQx5
namespace Go.Proofs.Ytkbfknodibnkgaa.Q.P
open Go.RowKit Go.Proofs.Ytkbfknodibnkgaa.Q Go.Proofs.YtkbfknodibnkgaaW.PrintWords Go.Proofs.YtkbfknodibnkgaaW.PrintLast
set_option linter.unusedVariables false
set_option linter.unusedSimpArgs false

theorem w64_id {x : Int} (h0 : -9223372036854775808 ≤ x) (h1 : x ≤ 9223372036854775807) : wrap64 x = x := by
 unfold wrap64; omega
theorem shl_one {g : Int} (h0 : 0 ≤ g) (h1 : g ≤ 62) : shl .i64 1 g = 2 ^ g.toNat := by
 unfold shl
 rw [i64_w, Nat.min_eq_left (by simp only [IntKind.bits]; omega), Int.one_mul]
 have : (2 : Int) ^ g.toNat ≤ 2 ^ 62 := by
  have := Nat.pow_le_pow_right (n := 2) (by omega) (show g.toNat ≤ 62 by omega)
  exact_mod_cast this
 have h3 : (0 : Int) < 2 ^ g.toNat := by exact_mod_cast Nat.pow_pos (by omega)
 exact w64_id (by omega) (by omega)
theorem shl_pos {g : Int} (h0 : 0 ≤ g) (h1 : g ≤ 62) : 0 < shl .i64 1 g ∧ shl .i64 1 g ≤ 4611686018427387904 := by
 rw [shl_one h0 h1]
 have : (2 : Int) ^ g.toNat ≤ 2 ^ 62 := by
  have := Nat.pow_le_pow_right (n := 2) (by omega) (show g.toNat ≤ 62 by omega)
  exact_mod_cast this
 have h3 : (0 : Int) < 2 ^ g.toNat := by exact_mod_cast Nat.pow_pos (by omega)
 exact ⟨h3, by omega⟩
theorem shr_nat {o g : Int} (ho : 0 ≤ o) (h1 : g ≤ 64) : shr .i64 o g = ((o.toNat >>> g.toNat : Nat) : Int) := by
 unfold shr
 rw [Nat.min_eq_left (by simp only [IntKind.bits]; omega), Nat.shiftRight_eq_div_pow]
 obtain ⟨n, rfl⟩ := Int.eq_ofNat_of_zero_le ho
 simp only [Int.toNat_natCast]
 rw [Int.natCast_ediv, Int.natCast_pow]; rfl
def bitAt (o g : Int) : Bool := o.toNat.testBit g.toNat
theorem ofInt_nat (x : Nat) : BitVec.ofInt 64 (x : Int) = BitVec.ofNat 64 x := by
 apply BitVec.eq_of_toNat_eq; simp
theorem bits_and_nat {x y : Nat} (hx : x < 9223372036854775808) (hy : y < 9223372036854775808) : Go.bits .and .i64 (x : Int) (y : Int) = ((x &&& y : Nat) : Int) := by
 show IntKind.i64.wrap (((BitVec.ofInt 64 (x : Int)) &&& (BitVec.ofInt 64 (y : Int))).toNat : Int) = _
 rw [i64_w, ofInt_nat, ofInt_nat]
 simp only [BitVec.toNat_and, BitVec.toNat_ofNat]
 rw [Nat.mod_eq_of_lt (by omega), Nat.mod_eq_of_lt (by omega)]
 have := Nat.and_le_left (n := x) (m := y)
 exact w64_id (by omega) (by omega)
theorem bits_and_one {x : Nat} (hx : x < 9223372036854775808) : Go.bits .and .i64 (x : Int) 1 = ((x % 2 : Nat) : Int) := by
 rw [show (1 : Int) = ((1 : Nat) : Int) from rfl, bits_and_nat hx (by omega), Nat.and_one_is_mod]
theorem bit_test {o g : Int} (ho : 0 ≤ o) (ho2 : o ≤ 9223372036854775807) (h1 : g ≤ 64) : (Go.bits .and .i64 (shr .i64 o g) 1 == 1) = bitAt o g := by
 rw [shr_nat ho h1, bits_and_one (by rw [Nat.shiftRight_eq_div_pow]; have := Nat.div_le_self o.toNat (2 ^ g.toNat); omega)]
 unfold bitAt
 rw [Nat.testBit, Bool.eq_iff_iff]
 simp only [beq_iff_eq, bne_iff_ne, ne_eq, Nat.and_comm 1, Nat.and_one_is_mod]
 omega
def gOk (w h : Int) : Bool := decide (1 ≤ w) && decide (w ≤ 4) && decide (1 ≤ h) && decide (h ≤ 4)
theorem gOk_iff {w h : Int} : gOk w h = true ↔ 1 ≤ w ∧ w ≤ 4 ∧ 1 ≤ h ∧ h ≤ 4 := by
 unfold gOk; simp only [Bool.and_eq_true, decide_eq_true_eq]; omega
theorem gOk_cases {w h : Int} (hg : gOk w h = true) : (w = 1 ∨ w = 2 ∨ w = 3 ∨ w = 4) ∧ (h = 1 ∨ h = 2 ∨ h = 3 ∨ h = 4) := by
 have := gOk_iff.1 hg; omega
def nCells (w h : Int) : Int := if gOk w h = true then w * h else 0
def nGaps (w h : Int) : Int := if gOk w h = true then (w - 1) * h + w * (h - 1) else 0
def nCorn (w h : Int) : Int := if gOk w h = true then (w + 1) * (h + 1) else 0
def nEast (w h : Int) : Int := (w - 1) * h
theorem nCells_bd (w h : Int) : 0 ≤ nCells w h ∧ nCells w h ≤ 16 ∧ (gOk w h = true → 1 ≤ nCells w h) := by
 unfold nCells
 split
 ·rename_i hg; rcases gOk_cases hg with ⟨rfl | rfl | rfl | rfl, rfl | rfl | rfl | rfl⟩ <;> decide +kernel
 ·rename_i hg; exact ⟨by omega, by omega, fun h => absurd h hg⟩
theorem nGaps_bd (w h : Int) : 0 ≤ nGaps w h ∧ nGaps w h ≤ 24 := by
 unfold nGaps
 split
 ·rename_i hg; rcases gOk_cases hg with ⟨rfl | rfl | rfl | rfl, rfl | rfl | rfl | rfl⟩ <;> decide +kernel
 ·omega
theorem nCorn_bd (w h : Int) : 0 ≤ nCorn w h ∧ nCorn w h ≤ 25 := by
 unfold nCorn
 split
 ·rename_i hg; rcases gOk_cases hg with ⟨rfl | rfl | rfl | rfl, rfl | rfl | rfl | rfl⟩ <;> decide +kernel
 ·omega
theorem l01In_eq (a b c : Int) : spec_l01In.f a b c = some (decide (b ≤ a) && decide (a ≤ c)) := by
 unfold spec_l01In.f
 by_cases h : a ≥ b
 ·rw [if_pos h]; simp [show b ≤ a from h]
 ·rw [if_neg h]; simp [show ¬ b ≤ a from h]
theorem spec_GridOk_eq (w h : Int) : spec_GridOk.f w h = some (gOk w h) := by
 unfold spec_GridOk.f gOk
 simp only [l01In_eq, Option.bind_some]
 by_cases h1 : 1 ≤ w <;> by_cases h2 : w ≤ 4 <;> simp [h1, h2]
theorem impl_GridOk_eq (w h : Int) : impl_GridOk.f w h = some (gOk w h) := by
 unfold impl_GridOk.f gOk
 by_cases h1 : 1 ≤ w <;> by_cases h2 : w ≤ 4 <;> by_cases h3 : 1 ≤ h <;> simp [h1, h2, h3]
theorem toMaze_eq (w h o : Int) : laws_toMaze.f w h o = some (w, h, o) := rfl
theorem spec_CountCorners_eq (w h : Int) : spec_CountCorners.f w h = some (nCorn w h) := by
 unfold spec_CountCorners.f nCorn
 rw [spec_GridOk_eq]; simp only [Option.bind_some]
 by_cases hg : gOk w h = true
 ·rw [if_pos hg, if_pos hg]
  rcases gOk_cases hg with ⟨rfl | rfl | rfl | rfl, rfl | rfl | rfl | rfl⟩ <;> decide +kernel
 ·rw [if_neg hg, if_neg hg]
theorem impl_CountCorners_eq (w h : Int) : impl_CountCorners.f w h = some (nCorn w h) := by
 unfold impl_CountCorners.f nCorn
 rw [impl_GridOk_eq]; simp only [Option.bind_some]
 by_cases hg : gOk w h = true
 ·rw [if_pos hg, if_pos hg]
  rcases gOk_cases hg with ⟨rfl | rfl | rfl | rfl, rfl | rfl | rfl | rfl⟩ <;> decide +kernel
 ·rw [if_neg hg, if_neg hg]
theorem l02East_eq {w h : Int} (hg : gOk w h = true) : spec_l02East.f w h = some (nEast w h) := by
 unfold spec_l02East.f nEast
 rcases gOk_cases hg with ⟨rfl | rfl | rfl | rfl, rfl | rfl | rfl | rfl⟩ <;> decide +kernel
theorem spec_CountGaps_eq (w h : Int) : spec_CountGaps.f w h = some (nGaps w h) := by
 unfold spec_CountGaps.f nGaps
 rw [spec_GridOk_eq]; simp only [Option.bind_some]
 by_cases hg : gOk w h = true
 ·rw [if_pos hg, if_pos hg, l02East_eq hg]
  rcases gOk_cases hg with ⟨rfl | rfl | rfl | rfl, rfl | rfl | rfl | rfl⟩ <;> decide +kernel
 ·rw [if_neg hg, if_neg hg]
theorem impl_CountGaps_eq (w h : Int) : impl_CountGaps.f w h = some (nGaps w h) := by
 unfold impl_CountGaps.f nGaps
 rw [impl_GridOk_eq]; simp only [Option.bind_some]
 by_cases hg : gOk w h = true
 ·rw [if_pos hg, if_pos hg]
  rcases gOk_cases hg with ⟨rfl | rfl | rfl | rfl, rfl | rfl | rfl | rfl⟩ <;> decide +kernel
 ·rw [if_neg hg, if_neg hg]
def mOk (w h o : Int) : Bool := gOk w h && (decide (0 ≤ o) && decide (o < shl .i64 1 (nGaps w h)))
theorem mOk_iff {w h o : Int} : mOk w h o = true ↔ gOk w h = true ∧ 0 ≤ o ∧ o < 2 ^ (nGaps w h).toNat := by
 unfold mOk
 have := nGaps_bd w h
 rw [shl_one (by omega) (by omega)]
 simp only [Bool.and_eq_true, decide_eq_true_eq]
theorem mOk_bd {w h o : Int} (hm : mOk w h o = true) : 0 ≤ o ∧ o < 16777216 := by
 obtain ⟨_, h0, h1⟩ := mOk_iff.1 hm
 have := nGaps_bd w h
 have h2 := Nat.pow_le_pow_right (n := 2) (by omega) (show (nGaps w h).toNat ≤ 24 by omega)
 have h3 : (2 : Int) ^ (nGaps w h).toNat ≤ 2 ^ 24 := by exact_mod_cast h2
 omega
theorem spec_MazeOk_eq (w h o : Int) : spec_MazeOk.f w h o = some (mOk w h o) := by
 unfold spec_MazeOk.f mOk
 have hb := nGaps_bd w h
 have hs := shl_pos (g := nGaps w h) (by omega) (by omega)
 simp only [spec_GridOk_eq, spec_CountGaps_eq, l01In_eq, Option.bind_some]
 rw [if_pos hb.1, w64_id (by omega) (by omega)]
 by_cases hg : gOk w h = true
 ·rw [if_pos hg, hg, Bool.true_and]
  congr 2
  rw [Bool.eq_iff_iff]; simp only [decide_eq_true_eq]; omega
 ·rw [if_neg hg]; simp [hg]
theorem impl_MazeOk_eq (w h o : Int) : impl_MazeOk.f w h o = some (mOk w h o) := by
 unfold impl_MazeOk.f mOk
 have hb := nGaps_bd w h
 simp only [impl_GridOk_eq, impl_CountGaps_eq, Option.bind_some]
 rw [if_pos hb.1]
 by_cases hg : gOk w h = true
 ·rw [if_pos hg, hg, Bool.true_and]
  by_cases h0 : 0 ≤ o
  ·rw [if_pos h0]; simp [h0]
  ·rw [if_neg h0]; simp [h0]
 ·rw [if_neg hg]; simp [hg]
def gapIn (w h g : Int) : Bool := decide (0 ≤ g) && decide (g < nGaps w h)
theorem gapIn_iff {w h g : Int} : gapIn w h g = true ↔ 0 ≤ g ∧ g < nGaps w h := by unfold gapIn; simp
theorem gapIn_spec (w h g : Int) : (decide (0 ≤ g) && decide (g ≤ wrap64 (nGaps w h - 1))) = gapIn w h g := by
 have hb := nGaps_bd w h
 rw [w64_id (by omega) (by omega)]
 unfold gapIn; rw [Bool.eq_iff_iff]; simp; omega
theorem isGap_eq (w h g : Int) : impl_isGap.f w h g = some (gapIn w h g) := by
 unfold impl_isGap.f gapIn
 rw [impl_CountGaps_eq]
 by_cases h0 : 0 ≤ g
 ·rw [if_pos h0]; simp [h0]
 ·rw [if_neg h0]; simp [h0]
theorem isOpen_eq {w h o g : Int} (hm : mOk w h o = true) (hg : g ≤ 64) : impl_isOpen.f w h o g = some (decide (0 ≤ g) && bitAt o g) := by
 unfold impl_isOpen.f
 have hb := mOk_bd hm
 by_cases h0 : 0 ≤ g
 ·rw [if_pos h0, if_pos h0, bit_test hb.1 (by omega) hg]; simp [h0]
 ·rw [if_neg h0]; simp [h0]
theorem l03Bit_eq {o g : Int} (ho : 0 ≤ o) (ho2 : o ≤ 9223372036854775807) (hg0 : 0 ≤ g) (hg : g ≤ 64) : spec_l03Bit.f o g = some (bitAt o g) := by
 unfold spec_l03Bit.f
 rw [if_pos hg0, bit_test ho ho2 hg]
def ends (w h g : Int) : Int × Int :=
 if gapIn w h g = true then (if g < nEast w h then (g / (w - 1) * w + g % (w - 1), g / (w - 1) * w + g % (w - 1) + 1) else (g - nEast w h, g - nEast w h + w)) else (-1, -1)
theorem spec_EndsOf_eq (w h g : Int) : spec_EndsOf.f w h g = some (ends w h g) := by
 unfold spec_EndsOf.f ends
 simp only [spec_CountGaps_eq, l01In_eq, Option.bind_some, gapIn_spec]
 by_cases hg : gapIn w h g = true
 ·rw [if_pos hg, if_pos hg]
  have h1 := gapIn_iff.1 hg
  have hk : gOk w h = true := by
   by_cases hk : gOk w h = true
   ·exact hk
   ·have := h1.2; unfold nGaps at this; rw [if_neg hk] at this; omega
  have h2 : nGaps w h = (w - 1) * h + w * (h - 1) := by unfold nGaps; rw [if_pos hk]
  rw [h2] at h1
  rw [l02East_eq hk]
  simp only [Option.bind_some]
  have e1 : wrap64 (w - 1) = w - 1 := by have := gOk_iff.1 hk; exact w64_id (by omega) (by omega)
  rw [e1]
  by_cases he : g < nEast w h
  ·rw [if_pos he, if_pos he]
   unfold nEast at he
   rcases gOk_cases hk with ⟨rfl | rfl | rfl | rfl, rfl | rfl | rfl | rfl⟩ <;> first | omega | (simp only [Int.reduceSub, Int.tdiv_eq_ediv_of_nonneg h1.1, Int.tmod_eq_emod_of_nonneg h1.1]; rw [if_neg (by decide), w64_id (x := g / _) (by omega) (by omega), w64_id (x := g / _ * _) (by omega) (by omega), w64_id (x := g / _ * _ + g % _) (by omega) (by omega), w64_id (by omega) (by omega)])
  ·rw [if_neg he, if_neg he]
   unfold nEast at he ⊢
   rcases gOk_cases hk with ⟨rfl | rfl | rfl | rfl, rfl | rfl | rfl | rfl⟩ <;> (rw [w64_id (x := g - _) (by omega) (by omega), w64_id (by omega) (by omega)])
 ·rw [if_neg hg, if_neg hg]
theorem impl_EndsOf_eq (w h g : Int) : impl_EndsOf.f w h g = some (ends w h g) := by
 unfold impl_EndsOf.f ends
 simp only [isGap_eq, Option.bind_some]
 by_cases hg : gapIn w h g = true
 ·rw [if_pos hg, if_pos hg]
  have h1 := gapIn_iff.1 hg
  have hk : gOk w h = true := by
   by_cases hk : gOk w h = true
   ·exact hk
   ·have := h1.2; unfold nGaps at this; rw [if_neg hk] at this; omega
  have h2 : nGaps w h = (w - 1) * h + w * (h - 1) := by unfold nGaps; rw [if_pos hk]
  rw [h2] at h1
  have h3 : wrap64 ((wrap64 (w - 1)) * h) = nEast w h := by
   unfold nEast
   rcases gOk_cases hk with ⟨rfl | rfl | rfl | rfl, rfl | rfl | rfl | rfl⟩ <;> decide +kernel
  rw [h3]
  have e1 : wrap64 (w - 1) = w - 1 := by have := gOk_iff.1 hk; exact w64_id (by omega) (by omega)
  rw [e1]
  by_cases he : g < nEast w h
  ·rw [if_neg (by omega), if_pos he]
   unfold nEast at he
   rcases gOk_cases hk with ⟨rfl | rfl | rfl | rfl, rfl | rfl | rfl | rfl⟩ <;> first | omega | (simp only [Int.reduceSub, Int.tdiv_eq_ediv_of_nonneg h1.1, Int.tmod_eq_emod_of_nonneg h1.1]; rw [if_neg (by decide), w64_id (x := g / _) (by omega) (by omega), w64_id (x := g / _ * _) (by omega) (by omega), w64_id (x := g / _ * _ + g % _) (by omega) (by omega), w64_id (by omega) (by omega)])
  ·rw [if_pos (by omega), if_neg he]
   unfold nEast at he ⊢
   rcases gOk_cases hk with ⟨rfl | rfl | rfl | rfl, rfl | rfl | rfl | rfl⟩ <;> (rw [w64_id (x := g - _) (by omega) (by omega), w64_id (by omega) (by omega)])
 ·rw [if_neg hg, if_neg hg]
def edgeC (w h c : Int) : Bool :=
 (decide (0 ≤ c) && decide (c < nCorn w h)) && (decide (c % (w + 1) = 0) || (decide (c % (w + 1) = w) || (decide (c / (w + 1) = 0) || decide (c / (w + 1) = h))))
theorem ok_of_corn {w h c : Int} (h0 : 0 ≤ c) (h1 : c < nCorn w h) : gOk w h = true := by
 by_cases hk : gOk w h = true
 ·exact hk
 ·unfold nCorn at h1; rw [if_neg hk] at h1; omega
theorem edge_tests {w h c : Int} (h0 : 0 ≤ c) (h1 : c < nCorn w h) :
  (if (wrap64 (w + 1)) = 0 then (none : Option Bool) else (if (Int.tmod c (wrap64 (w + 1))) = 0 then (some true) else (if (Int.tmod c (wrap64 (w + 1))) = w then (some true) else (if (wrap64 (Int.tdiv c (wrap64 (w + 1)))) = 0 then (some true) else (some ((wrap64 (Int.tdiv c (wrap64 (w + 1)))) == h)))))) = some (edgeC w h c) := by
 have hk := ok_of_corn h0 h1
 have hw := gOk_iff.1 hk
 have hb := nCorn_bd w h
 have e1 : wrap64 (w + 1) = w + 1 := w64_id (by omega) (by omega)
 rw [e1, if_neg (by omega), Int.tdiv_eq_ediv_of_nonneg h0, Int.tmod_eq_emod_of_nonneg h0]
 have e2 : wrap64 (c / (w + 1)) = c / (w + 1) := by
  have a1 : 0 ≤ c / (w + 1) := Int.ediv_nonneg h0 (by omega)
  have a2 : c / (w + 1) ≤ c := Int.ediv_le_self _ h0
  exact w64_id (by omega) (by omega)
 rw [e2]
 unfold edgeC
 by_cases a1 : c % (w + 1) = 0
 ·rw [if_pos a1]; simp [a1, h0, h1]
 ·rw [if_neg a1]
  by_cases a2 : c % (w + 1) = w
  ·rw [if_pos a2]; simp [a2, h0, h1]
  ·rw [if_neg a2]
   by_cases a3 : c / (w + 1) = 0
   ·rw [if_pos a3]; simp [a3, h0, h1]
   ·rw [if_neg a3]; simp only [a1, a2, a3, h0, h1, decide_true, decide_false, Bool.true_and, Bool.false_or]; congr 1
theorem spec_IsEdgeCorner_eq (w h c : Int) : spec_IsEdgeCorner.f w h c = some (edgeC w h c) := by
 unfold spec_IsEdgeCorner.f
 have hb := nCorn_bd w h
 simp only [spec_CountCorners_eq, l01In_eq, Option.bind_some]
 rw [w64_id (x := nCorn w h - 1) (by omega) (by omega)]
 by_cases hc : (decide (0 ≤ c) && decide (c ≤ nCorn w h - 1)) = true
 ·rw [if_pos hc]
  simp only [Bool.and_eq_true, decide_eq_true_eq] at hc
  exact edge_tests hc.1 (by omega)
 ·rw [if_neg hc]
  unfold edgeC
  simp only [Bool.and_eq_true, decide_eq_true_eq] at hc
  have : (decide (0 ≤ c) && decide (c < nCorn w h)) = false := by rw [Bool.eq_false_iff]; simp only [ne_eq, Bool.and_eq_true, decide_eq_true_eq]; omega
  rw [this]; rfl
theorem impl_IsEdgeCorner_eq (w h c : Int) : impl_IsEdgeCorner.f w h c = some (edgeC w h c) := by
 unfold impl_IsEdgeCorner.f
 have hb := nCorn_bd w h
 simp only [impl_CountCorners_eq, Option.bind_some]
 by_cases h0 : c < 0
 ·rw [if_pos h0]; unfold edgeC; simp [show ¬ 0 ≤ c by omega]
 ·rw [if_neg h0]
  by_cases h1 : c ≥ nCorn w h
  ·rw [if_pos h1]; unfold edgeC; simp [show ¬ c < nCorn w h by omega]
  ·rw [if_neg h1]; exact edge_tests (by omega) (by omega)
theorem ok_of_cell {w h c : Int} (h0 : 0 ≤ c) (h1 : c < nCells w h) : gOk w h = true := by
 by_cases hk : gOk w h = true
 ·exact hk
 ·unfold nCells at h1; rw [if_neg hk] at h1; omega
theorem nCells_ok {w h : Int} (hk : gOk w h = true) : nCells w h = w * h := by unfold nCells; rw [if_pos hk]
theorem nGaps_ok {w h : Int} (hk : gOk w h = true) : nGaps w h = (w - 1) * h + w * (h - 1) := by unfold nGaps; rw [if_pos hk]
theorem cell_xy {w h c : Int} (h0 : 0 ≤ c) (h1 : c < nCells w h) : (0 ≤ c % w ∧ c % w ≤ w - 1) ∧ (0 ≤ c / w ∧ c / w ≤ h - 1) ∧ c = c / w * w + c % w := by
 have hk := ok_of_cell h0 h1
 rw [nCells_ok hk] at h1
 rcases gOk_cases hk with ⟨rfl | rfl | rfl | rfl, rfl | rfl | rfl | rfl⟩ <;> omega
theorem cell_w64 {w h c : Int} (h0 : 0 ≤ c) (h1 : c < nCells w h) : wrap64 (Int.tdiv c w) = c / w ∧ Int.tmod c w = c % w := by
 have := cell_xy h0 h1
 have hw := gOk_iff.1 (ok_of_cell h0 h1)
 rw [Int.tdiv_eq_ediv_of_nonneg h0, Int.tmod_eq_emod_of_nonneg h0]
 exact ⟨w64_id (by omega) (by omega), rfl⟩
def corners (w h g : Int) : Int × Int :=
 if gapIn w h g = true then (if g < nEast w h then ((ends w h g).2 / w * (w + 1) + (ends w h g).2 % w, (ends w h g).2 / w * (w + 1) + (ends w h g).2 % w + w + 1) else ((ends w h g).2 / w * (w + 1) + (ends w h g).2 % w, (ends w h g).2 / w * (w + 1) + (ends w h g).2 % w + 1)) else (-1, -1)
theorem ok_of_gap {w h g : Int} (hg : gapIn w h g = true) : gOk w h = true := by
 have h1 := gapIn_iff.1 hg
 by_cases hk : gOk w h = true
 ·exact hk
 ·have := h1.2; unfold nGaps at this; rw [if_neg hk] at this; omega
theorem ends_bd {w h g : Int} (hg : gapIn w h g = true) : 0 ≤ (ends w h g).1 ∧ (ends w h g).1 < (ends w h g).2 ∧ (ends w h g).2 < nCells w h ∧ (g < nEast w h → (ends w h g).2 = (ends w h g).1 + 1) ∧ (¬ g < nEast w h → (ends w h g).2 = (ends w h g).1 + w) := by
 have hk := ok_of_gap hg
 have h1 := gapIn_iff.1 hg
 rw [nGaps_ok hk] at h1
 rw [nCells_ok hk]
 unfold ends
 by_cases he : g < nEast w h
 ·simp only [hg, he, ↓reduceIte, not_true_eq_false, false_imp_iff, and_true, true_imp_iff]
  unfold nEast at he
  rcases gOk_cases hk with ⟨rfl | rfl | rfl | rfl, rfl | rfl | rfl | rfl⟩ <;> omega
 ·simp only [hg, he, ↓reduceIte, not_false_eq_true, false_imp_iff, and_true, true_imp_iff, true_and]
  unfold nEast at he ⊢
  rcases gOk_cases hk with ⟨rfl | rfl | rfl | rfl, rfl | rfl | rfl | rfl⟩ <;> omega
theorem corner_w64 {w h g : Int} (hg : gapIn w h g = true) :
  wrap64 ((wrap64 ((wrap64 (Int.tdiv (ends w h g).2 w)) * (wrap64 (w + 1)))) + (Int.tmod (ends w h g).2 w)) = (ends w h g).2 / w * (w + 1) + (ends w h g).2 % w ∧ (0 ≤ (ends w h g).2 / w * (w + 1) + (ends w h g).2 % w ∧ (ends w h g).2 / w * (w + 1) + (ends w h g).2 % w ≤ 30) ∧ (1 ≤ w ∧ w ≤ 4) := by
 obtain ⟨a0, ab, b1, _⟩ := ends_bd hg
 have hk := ok_of_gap hg
 have hw := gOk_iff.1 hk
 have hxy := cell_xy (show 0 ≤ (ends w h g).2 by omega) b1
 obtain ⟨e1, e2⟩ := cell_w64 (show 0 ≤ (ends w h g).2 by omega) b1
 have p1 : (ends w h g).2 / w * (w + 1) = (ends w h g).2 / w * w + (ends w h g).2 / w := by rw [Int.mul_add, Int.mul_one]
 have hb := nCells_bd w h
 have p0 : 0 ≤ (ends w h g).2 / w * w := Int.mul_nonneg hxy.2.1.1 (by omega)
 rw [e1, e2, w64_id (x := w + 1) (by omega) (by omega), w64_id (x := (ends w h g).2 / w * (w + 1)) (by omega) (by omega)]
 exact ⟨w64_id (by omega) (by omega), ⟨by omega, by omega⟩, by omega, by omega⟩
theorem ends_out {w h g : Int} (hg : ¬ gapIn w h g = true) : ends w h g = (-1, -1) := by unfold ends; rw [if_neg hg]
theorem spec_CornersOf_eq (w h g : Int) : spec_CornersOf.f w h g = some (corners w h g) := by
 unfold spec_CornersOf.f corners
 rw [spec_EndsOf_eq]; simp only [Option.bind_some]
 by_cases hg : gapIn w h g = true
 ·obtain ⟨a0, ab, b1, _⟩ := ends_bd hg
  obtain ⟨e, hb, hw⟩ := corner_w64 hg
  rw [if_neg (show ¬ (ends w h g).1 < 0 by omega), if_neg (show ¬ w = 0 by omega), if_pos hg, l02East_eq (ok_of_gap hg)]
  simp only [Option.bind_some]
  rw [e]
  by_cases he : g < nEast w h
  ·rw [if_pos he, if_pos he, w64_id (x := _ + w) (by omega) (by omega), w64_id (by omega) (by omega)]
  ·rw [if_neg he, if_neg he, w64_id (by omega) (by omega)]
 ·rw [if_neg hg, ends_out hg, if_pos (by decide)]
theorem impl_CornersOf_eq (w h g : Int) : impl_CornersOf.f w h g = some (corners w h g) := by
 unfold impl_CornersOf.f corners
 rw [impl_EndsOf_eq]; simp only [Option.bind_some]
 by_cases hg : gapIn w h g = true
 ·obtain ⟨a0, ab, b1, q1, q2⟩ := ends_bd hg
  obtain ⟨e, hb, hw⟩ := corner_w64 hg
  have hc := nCells_bd w h
  have hk := ok_of_gap hg
  have h3 : wrap64 ((wrap64 (w - 1)) * h) = nEast w h := by
   unfold nEast
   rcases gOk_cases hk with ⟨rfl | rfl | rfl | rfl, rfl | rfl | rfl | rfl⟩ <;> decide +kernel
  rw [if_neg (show ¬ (ends w h g).1 < 0 by omega), if_neg (show ¬ w = 0 by omega), if_pos hg, e, w64_id (x := (ends w h g).1 + 1) (by omega) (by omega), h3, w64_id (x := _ + w) (by omega) (by omega), w64_id (x := _ + w + 1) (by omega) (by omega), w64_id (x := _ + 1) (by omega) (by omega)]
  by_cases he : g < nEast w h
  ·rw [if_pos (q1 he), if_pos he, if_pos he]
  ·rw [if_neg he, if_neg he]; split <;> rfl
 ·rw [if_neg hg, ends_out hg, if_pos (by decide)]
def pcN (o : Nat) : Nat → Nat
 | 0 => 0
 | n + 1 => pcN o n + (if o.testBit n then 1 else 0)
theorem pcN_le (o n : Nat) : pcN o n ≤ n := by
 induction n with
 | zero => simp [pcN]
 | succ n ih => simp only [pcN]; split <;> omega
theorem tb_hi (b t i : Nat) (hb : b < 256) : (256 * t + b).testBit i = if i < 8 then b.testBit i else t.testBit (i - 8) := by
 have := Nat.testBit_two_pow_mul_add t (i := 8) (show b < 2 ^ 8 by omega) i
 simpa using this
theorem and_byte (b t m M : Nat) (hb : b < 256) (hm : m < 256) : (256 * t + b) &&& (256 * M + m) = 256 * (t &&& M) + (b &&& m) := by
 have hbm : b &&& m < 256 := Nat.lt_of_le_of_lt Nat.and_le_left hb
 apply Nat.eq_of_testBit_eq
 intro i
 rw [Nat.testBit_and, tb_hi b t i hb, tb_hi m M i hm, tb_hi (b &&& m) (t &&& M) i hbm, Nat.testBit_and, Nat.testBit_and]
 split <;> rfl
theorem and_three (b0 b1 b2 m M : Nat) (h0 : b0 < 256) (h1 : b1 < 256) (hm : m < 256) : (256 * (256 * b2 + b1) + b0) &&& (256 * (256 * (256 * M + m) + m) + m) = 256 * (256 * (b2 &&& (256 * M + m)) + (b1 &&& m)) + (b0 &&& m) := by
 rw [and_byte _ _ _ _ h0 hm, and_byte _ _ _ _ h1 hm]
theorem and_top (b m M : Nat) (h : b < 256) (hm : m < 256) : b &&& (256 * M + m) = b &&& m := by
 have := and_byte b 0 m M h hm
 simpa using this
theorem pc_byte (b t n : Nat) (hb : b < 256) : pcN (256 * t + b) (8 + n) = pcN b 8 + pcN t n := by
 induction n with
 | zero =>
  simp only [pcN, Nat.add_zero, tb_hi b t _ hb]
  simp
 | succ n ih =>
  rw [show 8 + (n + 1) = (8 + n) + 1 by omega]
  rw [show pcN (256 * t + b) (8 + n + 1) = pcN (256 * t + b) (8 + n) + (if (256 * t + b).testBit (8 + n) then 1 else 0) from rfl, show pcN t (n + 1) = pcN t n + (if t.testBit n then 1 else 0) from rfl, ih, tb_hi b t _ hb, if_neg (show ¬ 8 + n < 8 by omega), show 8 + n - 8 = n by omega]
  omega
def stA (b : Nat) : Nat := (b / 2 &&& 85) + (b &&& 85)
def stB (b : Nat) : Nat := (b / 4 &&& 51) + (b &&& 51)
theorem st_all : (∀ b : Fin 256, ∀ e : Fin 2, ((b.val / 2 + 128 * e.val) &&& 85) = (b.val / 2 &&& 85)) ∧ (∀ b : Fin 256, ∀ e : Fin 4, ((b.val / 4 + 64 * e.val) &&& 51) = (b.val / 4 &&& 51)) ∧ (∀ b : Fin 256, stA b.val < 256 ∧ stB (stA b.val) ≤ 68 ∧ stB (stA b.val) % 16 ≤ 4 ∧ stB (stA b.val) / 16 + stB (stA b.val) % 16 = pcN b.val 8) := by decide +kernel
theorem stage1 (b0 b1 b2 : Nat) (h0 : b0 < 256) (h1 : b1 < 256) (h2 : b2 < 256) : ((256 * (256 * b2 + b1) + b0) / 2 &&& 6148914691236517205) + ((256 * (256 * b2 + b1) + b0) &&& 6148914691236517205) = 256 * (256 * stA b2 + stA b1) + stA b0 := by
 have s := st_all.1
 have e0 := s ⟨b0, h0⟩ ⟨b1 % 2, by omega⟩
 have e1 := s ⟨b1, h1⟩ ⟨b2 % 2, by omega⟩
 simp only at e0 e1
 rw [show (256 * (256 * b2 + b1) + b0) / 2 = 256 * (256 * (b2 / 2) + (b1 / 2 + 128 * (b2 % 2))) + (b0 / 2 + 128 * (b1 % 2)) by omega, show 6148914691236517205 = 256 * (256 * (256 * 366503875925 + 85) + 85) + 85 by rfl,
  and_three _ _ _ _ _ (by omega) (by omega) (by omega), and_three _ _ _ _ _ h0 h1 (by omega), and_top _ _ _ (by omega) (by omega), and_top _ _ _ h2 (by omega), e0, e1]
 unfold stA
 omega
theorem stage2 (b0 b1 b2 : Nat) (h0 : b0 < 256) (h1 : b1 < 256) (h2 : b2 < 256) : ((256 * (256 * b2 + b1) + b0) / 4 &&& 3689348814741910323) + ((256 * (256 * b2 + b1) + b0) &&& 3689348814741910323) = 256 * (256 * stB b2 + stB b1) + stB b0 := by
 have s := st_all.2.1
 have e0 := s ⟨b0, h0⟩ ⟨b1 % 4, by omega⟩
 have e1 := s ⟨b1, h1⟩ ⟨b2 % 4, by omega⟩
 simp only at e0 e1
 rw [show (256 * (256 * b2 + b1) + b0) / 4 = 256 * (256 * (b2 / 4) + (b1 / 4 + 64 * (b2 % 4))) + (b0 / 4 + 64 * (b1 % 4)) by omega, show 3689348814741910323 = 256 * (256 * (256 * 219902325555 + 51) + 51) + 51 by rfl,
  and_three _ _ _ _ _ (by omega) (by omega) (by omega), and_three _ _ _ _ _ h0 h1 (by omega), and_top _ _ _ (by omega) (by omega), and_top _ _ _ h2 (by omega), e0, e1]
 unfold stB
 omega
theorem stage3 (c0 c1 c2 : Nat) (h0 : c0 ≤ 68) (h1 : c1 ≤ 68) (h2 : c2 ≤ 68) (g0 : c0 % 16 ≤ 4) (g1 : c1 % 16 ≤ 4) (g2 : c2 % 16 ≤ 4) : ((256 * (256 * c2 + c1) + c0) / 16 + (256 * (256 * c2 + c1) + c0)) &&& 1085102592571150095 = 256 * (256 * (c2 / 16 + c2 % 16) + (c1 / 16 + c1 % 16)) + (c0 / 16 + c0 % 16) := by
 rw [show (256 * (256 * c2 + c1) + c0) / 16 + (256 * (256 * c2 + c1) + c0) = 256 * (256 * (c2 / 16 + c2) + (c1 / 16 + 16 * (c2 % 16) + c1)) + (c0 / 16 + 16 * (c1 % 16) + c0) by omega, show 1085102592571150095 = 256 * (256 * (256 * 64677154575 + 15) + 15) + 15 by rfl,
  and_three _ _ _ _ _ (by omega) (by omega) (by omega), and_top _ _ _ (by omega) (by omega)]
 have a15 : ∀ x : Nat, x &&& 15 = x % 16 := fun x => Nat.and_two_pow_sub_one_eq_mod x 4
 have z0 : (c0 / 16 + 16 * (c1 % 16) + c0) % 16 = c0 / 16 + c0 % 16 := by omega
 have z1 : (c1 / 16 + 16 * (c2 % 16) + c1) % 16 = c1 / 16 + c1 % 16 := by omega
 have z2 : (c2 / 16 + c2) % 16 = c2 / 16 + c2 % 16 := by omega
 rw [a15, a15, a15, z0, z1, z2]
def pop64 (x : Nat) : Nat :=
 let y1 := (x / 2 &&& 6148914691236517205) + (x &&& 6148914691236517205)
 let y2 := (y1 / 4 &&& 3689348814741910323) + (y1 &&& 3689348814741910323)
 let y3 := (y2 / 16 + y2) &&& 1085102592571150095
 let y4 := y3 + y3 / 256
 let y5 := y4 + y4 / 65536
 (y5 + y5 / 4294967296) &&& 127
theorem pop64_eq (x : Nat) (hx : x < 16777216) : pop64 x = pcN x 24 ∧ (x / 2 &&& 6148914691236517205) + (x &&& 6148914691236517205) < 16777216 ∧ (((x / 2 &&& 6148914691236517205) + (x &&& 6148914691236517205)) / 4 &&& 3689348814741910323) + (((x / 2 &&& 6148914691236517205) + (x &&& 6148914691236517205)) &&& 3689348814741910323) < 16777216 := by
 obtain ⟨b0, b1, b2, rfl, h0, h1, h2⟩ : ∃ b0 b1 b2 : Nat, x = 256 * (256 * b2 + b1) + b0 ∧ b0 < 256 ∧ b1 < 256 ∧ b2 < 256 := ⟨x % 256, x / 256 % 256, x / 65536, by omega, by omega, by omega, by omega⟩
 obtain ⟨p0, p1, p2, p3⟩ := st_all.2.2 ⟨b0, h0⟩
 obtain ⟨q0, q1, q2, q3⟩ := st_all.2.2 ⟨b1, h1⟩
 obtain ⟨r0, r1, r2, r3⟩ := st_all.2.2 ⟨b2, h2⟩
 simp only at p0 p1 p2 p3 q0 q1 q2 q3 r0 r1 r2 r3
 have e1 := stage1 b0 b1 b2 h0 h1 h2
 have e2 := stage2 _ _ _ p0 q0 r0
 have e3 := stage3 _ _ _ p1 q1 r1 p2 q2 r2
 have l0 := pcN_le b0 8
 have l1 := pcN_le b1 8
 have l2 := pcN_le b2 8
 have hp : pcN (256 * (256 * b2 + b1) + b0) 24 = pcN b0 8 + (pcN b1 8 + pcN b2 8) := by
  have z1 := pc_byte b0 (256 * b2 + b1) 16 h0
  have z2 := pc_byte b1 b2 8 h1
  rw [z2] at z1; exact z1
 refine ⟨?_, ?_, ?_⟩
 ·unfold pop64
  simp only []
  rw [e1, e2, e3, p3, q3, r3, hp, show (127 : Nat) = 2 ^ 7 - 1 by rfl, Nat.and_two_pow_sub_one_eq_mod]
  clear hp e1 e2 e3 p0 p1 p2 p3 q0 q1 q2 q3 r0 r1 r2 r3
  generalize pcN b0 8 = x0 at l0 ⊢
  generalize pcN b1 8 = x1 at l1 ⊢
  generalize pcN b2 8 = x2 at l2 ⊢
  have f1 : (256 * (256 * x2 + x1) + x0) / 256 = 256 * x2 + x1 := by omega
  rw [f1]
  have f2 : (256 * (256 * x2 + x1) + x0 + (256 * x2 + x1)) / 65536 = x2 := by omega
  rw [f2]
  have f3 : (256 * (256 * x2 + x1) + x0 + (256 * x2 + x1) + x2) / 4294967296 = 0 := by omega
  rw [f3]
  omega
 ·rw [e1]; omega
 ·rw [e1, e2]; omega
theorem u64_wrap {x : Int} (h0 : 0 ≤ x) (h1 : x < 18446744073709551616) : IntKind.u64.wrap x = x := by
 unfold IntKind.wrap
 simp only [IntKind.bits, IntKind.signed, Bool.false_and, Bool.false_eq_true, if_false]
 exact Int.emod_eq_of_lt h0 (by simpa using h1)
theorem u64_add (x y : Nat) (h : x + y < 18446744073709551616) : IntKind.u64.wrap ((x : Int) + (y : Int)) = ((x + y : Nat) : Int) := by
 rw [u64_wrap (by omega) (by omega)]; simp
theorem and_u64 (x y : Nat) (hx : x < 18446744073709551616) (hy : y < 18446744073709551616) : Go.bits .and .u64 (x : Int) (y : Int) = ((x &&& y : Nat) : Int) := by
 show IntKind.u64.wrap (((BitVec.ofInt 64 (x : Int)) &&& (BitVec.ofInt 64 (y : Int))).toNat : Int) = _
 rw [ofInt_nat, ofInt_nat]
 simp only [BitVec.toNat_and, BitVec.toNat_ofNat]
 rw [Nat.mod_eq_of_lt (by omega), Nat.mod_eq_of_lt (by omega)]
 have := Nat.and_le_left (n := x) (m := y)
 exact u64_wrap (by omega) (by omega)
theorem y3_bd (y : Nat) (hy : y < 16777216) : (y / 16 + y) &&& 1085102592571150095 < 33554432 := by
 have := Nat.and_le_left (n := y / 16 + y) (m := 1085102592571150095)
 omega
theorem OnesCount64_eq (x : Nat) (hx : x < 16777216) : bits_OnesCount64.f (x : Int) = some ((pcN x 24 : Nat) : Int) := by
 obtain ⟨e, l1, l2⟩ := pop64_eq x hx
 have a1 : IntKind.u64.wrap ((Go.bits .and .u64 ((x : Int) / 2) 6148914691236517205) + (Go.bits .and .u64 (x : Int) 6148914691236517205)) = (((x / 2 &&& 6148914691236517205) + (x &&& 6148914691236517205) : Nat) : Int) := by
  rw [show ((x : Int) / 2) = ((x / 2 : Nat) : Int) by omega, show (6148914691236517205 : Int) = ((6148914691236517205 : Nat) : Int) from rfl, and_u64 _ _ (by omega) (by omega), and_u64 _ _ (by omega) (by omega), u64_add _ _ (by omega)]
 unfold bits_OnesCount64.f
 rw [a1]
 generalize hy1 : (x / 2 &&& 6148914691236517205) + (x &&& 6148914691236517205) = y1 at l1 l2 e ⊢
 have a2 : IntKind.u64.wrap ((Go.bits .and .u64 ((y1 : Int) / 4) 3689348814741910323) + (Go.bits .and .u64 (y1 : Int) 3689348814741910323)) = (((y1 / 4 &&& 3689348814741910323) + (y1 &&& 3689348814741910323) : Nat) : Int) := by
  rw [show ((y1 : Int) / 4) = ((y1 / 4 : Nat) : Int) by omega, show (3689348814741910323 : Int) = ((3689348814741910323 : Nat) : Int) from rfl, and_u64 _ _ (by omega) (by omega), and_u64 _ _ (by omega) (by omega), u64_add _ _ (by omega)]
 rw [a2]
 generalize hy2 : (y1 / 4 &&& 3689348814741910323) + (y1 &&& 3689348814741910323) = y2 at l2 e ⊢
 have a3 : Go.bits .and .u64 (IntKind.u64.wrap (((y2 : Int) / 16) + (y2 : Int))) 1085102592571150095 = (((y2 / 16 + y2) &&& 1085102592571150095 : Nat) : Int) := by
  rw [show ((y2 : Int) / 16) = ((y2 / 16 : Nat) : Int) by omega, u64_add _ _ (by omega), show (1085102592571150095 : Int) = ((1085102592571150095 : Nat) : Int) from rfl, and_u64 _ _ (by omega) (by omega)]
 rw [a3]
 have b3 := y3_bd y2 l2
 generalize hy3 : (y2 / 16 + y2) &&& 1085102592571150095 = y3 at b3 e ⊢
 have a4 : IntKind.u64.wrap ((y3 : Int) + ((y3 : Int) / 256)) = ((y3 + y3 / 256 : Nat) : Int) := by
  rw [show ((y3 : Int) / 256) = ((y3 / 256 : Nat) : Int) by omega, u64_add _ _ (by omega)]
 rw [a4]
 have b4 : y3 + y3 / 256 < 67108864 := by omega
 generalize hy4 : y3 + y3 / 256 = y4 at b4 e ⊢
 have a5 : IntKind.u64.wrap ((y4 : Int) + ((y4 : Int) / 65536)) = ((y4 + y4 / 65536 : Nat) : Int) := by
  rw [show ((y4 : Int) / 65536) = ((y4 / 65536 : Nat) : Int) by omega, u64_add _ _ (by omega)]
 rw [a5]
 have b5 : y4 + y4 / 65536 < 134217728 := by omega
 generalize hy5 : y4 + y4 / 65536 = y5 at b5 e ⊢
 have a6 : IntKind.u64.wrap ((y5 : Int) + ((y5 : Int) / 4294967296)) = ((y5 + y5 / 4294967296 : Nat) : Int) := by
  rw [show ((y5 : Int) / 4294967296) = ((y5 / 4294967296 : Nat) : Int) by omega, u64_add _ _ (by omega)]
 rw [a6, w64_id (by omega) (by omega), show (127 : Int) = ((127 : Nat) : Int) from rfl, bits_and_nat (by omega) (by omega), ← e]
 unfold pop64
 simp only [hy1, hy2, hy3, hy4, hy5]
def pcnt (w h o : Int) : Int := if mOk w h o = true then ((pcN o.toNat (nGaps w h).toNat : Nat) : Int) else 0
theorem pcN_top (x n m : Nat) (hx : x < 2 ^ n) (hn : n ≤ m) : pcN x m = pcN x n := by
 induction m with
 | zero =>
  obtain rfl : n = 0 := by omega
  rfl
 | succ m ih =>
  by_cases e : n = m + 1
  ·rw [e]
  ·have hm : n ≤ m := by omega
   have : x.testBit m = false := Nat.testBit_lt_two_pow (Nat.lt_of_lt_of_le hx (Nat.pow_le_pow_right (by omega) hm))
   simp only [pcN, this]
   rw [ih hm]; simp
theorem open_nat {w h o : Int} (hm : mOk w h o = true) : o.toNat < 2 ^ (nGaps w h).toNat ∧ o.toNat < 16777216 ∧ ((o.toNat : Nat) : Int) = o := by
 obtain ⟨_, h0, h1⟩ := mOk_iff.1 hm
 have hb := mOk_bd hm
 have : ((o.toNat : Nat) : Int) < ((2 ^ (nGaps w h).toNat : Nat) : Int) := by rw [Int.toNat_of_nonneg h0]; simpa using h1
 exact ⟨by exact_mod_cast this, by omega, by omega⟩
theorem impl_CountPassages_eq (w h o : Int) : impl_CountPassages.f w h o = some (pcnt w h o) := by
 unfold impl_CountPassages.f pcnt
 rw [impl_MazeOk_eq]; simp only [Option.bind_some]
 by_cases hm : mOk w h o = true
 ·obtain ⟨o1, o2, o3⟩ := open_nat hm
  have hn := nGaps_bd w h
  rw [if_pos hm, if_pos hm, u64_wrap (by omega) (by omega)]
  unfold bits_OnesCount.f
  rw [← o3, OnesCount64_eq _ o2]
  simp only [Option.bind_some, Int.toNat_natCast]
  rw [pcN_top _ _ 24 o1 (by omega)]
 ·rw [if_neg hm, if_neg hm]
theorem spec_CP_loop {w h o : Int} (hm : mOk w h o = true) (d : Nat) : ∀ (k : Nat) (i : Nat), (i : Int) ≤ nGaps w h → (nGaps w h).toNat - i ≤ d → 2 * d + 1 < k → spec_CountPassages.l0 k ((pcN o.toNat i : Nat) : Int) i w h o = some ((pcN o.toNat (nGaps w h).toNat : Nat) : Int) := by
 have hb := mOk_bd hm
 have hn := nGaps_bd w h
 induction d with
 | zero =>
  intro k i hi hd hk
  obtain ⟨k, rfl⟩ : ∃ m, k = m + 1 + 1 := ⟨k - 2, by omega⟩
  simp only [spec_CountPassages.l0, spec_CountPassages.j1, spec_CountGaps_eq, Option.bind_some]
  rw [if_neg (by omega), if_neg (by decide), show (nGaps w h).toNat = i by omega]
 | succ d ih =>
  intro k i hi hd hk
  obtain ⟨k, rfl⟩ : ∃ m, k = m + 1 + 1 := ⟨k - 2, by omega⟩
  have hp := pcN_le o.toNat i
  simp only [spec_CountPassages.l0, spec_CountPassages.j1, spec_CountGaps_eq, spec_MazeOk_eq, Option.bind_some]
  by_cases z : (i : Int) < nGaps w h
  ·rw [if_pos z, if_pos hm, l03Bit_eq hb.1 (by omega) (by omega) (by omega), w64_id (x := (i : Int) + 1) (by omega) (by omega), w64_id (by omega) (by omega)]
   simp only [Option.bind_some]
   have hgo := ih k (i + 1) (by omega) (by omega) (by omega)
   simp only [pcN] at hgo
   unfold bitAt
   rw [Int.toNat_natCast]
   by_cases hbit : o.toNat.testBit i = true
   ·rw [if_pos hbit] at hgo ⊢; simpa using hgo
   ·rw [if_neg hbit] at hgo ⊢; simpa using hgo
  ·rw [if_neg z, if_neg (by decide), show (nGaps w h).toNat = i by omega]
theorem spec_CountPassages_eq (k : Nat) (w h o : Int) : spec_CountPassages.f (k + 60) w h o = some (pcnt w h o) := by
 unfold spec_CountPassages.f pcnt
 have hn := nGaps_bd w h
 by_cases hm : mOk w h o = true
 ·rw [if_pos hm]
  exact spec_CP_loop hm (nGaps w h).toNat (k + 60) 0 (by omega) (by omega) (by omega)
 ·rw [if_neg hm]
  obtain ⟨m, hmm⟩ : ∃ m, m = k + 58 := ⟨_, rfl⟩
  rw [show k + 60 = m + 1 + 1 by omega]
  simp only [spec_CountPassages.l0, spec_CountPassages.j1, spec_CountGaps_eq, spec_MazeOk_eq, Option.bind_some]
  rw [Bool.eq_false_iff.2 hm]
  split <;> simp
theorem rd_mem (l : List Int) (i : Nat) (h1 : i < l.length) : rd l i = l[i] := by
 unfold rd; simp [List.getD_eq_getElem?_getD, h1]
theorem rd_in {q : List Int} {i : Int} (h0 : 0 ≤ i) (h1 : i < q.length) : rd q i ∈ q := by
 unfold rd; rw [List.getD_eq_getElem?_getD, List.getElem?_eq_getElem (by omega)]; exact List.getElem_mem _
def numsTo : Nat → List Int
 | 0 => []
 | n + 1 => numsTo n ++ [(n : Int)]
theorem numsTo_len : ∀ n, (numsTo n).length = n
 | 0 => rfl
 | n + 1 => by rw [show numsTo (n + 1) = numsTo n ++ [(n : Int)] from rfl, List.length_append, numsTo_len n]; rfl
theorem numsTo_mem {x : Int} : ∀ {n}, x ∈ numsTo n ↔ 0 ≤ x ∧ x < (n : Int)
 | 0 => by simp [numsTo]; try omega
 | n + 1 => by
  rw [show numsTo (n + 1) = numsTo n ++ [(n : Int)] from rfl, List.mem_append, numsTo_mem (n := n)]
  simp; omega
theorem upTo_loop (n : Nat) (hn : n ≤ 1000) (d : Nat) : ∀ (k i : Nat), i ≤ n → n - i ≤ d → d < k → impl_upTo.l0 k n (numsTo i) i = some (numsTo n) := by
 induction d with
 | zero =>
  intro k i hi hd hk
  obtain ⟨k, rfl⟩ : ∃ m, k = m + 1 := ⟨k - 1, by omega⟩
  obtain rfl : i = n := by omega
  simp only [impl_upTo.l0]; rw [if_neg (by omega)]
 | succ d ih =>
  intro k i hi hd hk
  obtain ⟨k, rfl⟩ : ∃ m, k = m + 1 := ⟨k - 1, by omega⟩
  simp only [impl_upTo.l0]
  by_cases e : i = n
  ·subst e; rw [if_neg (by omega)]
  ·rw [if_pos (by omega), if_pos (by rw [numsTo_len]; omega), w64_id (by omega) (by omega)]
   exact ih k (i + 1) (by omega) (by omega) (by omega)
theorem upTo_eq (n : Nat) (hn : n ≤ 1000) (k : Nat) (hk : n < k) : impl_upTo.f k n = some (numsTo n) := by
 unfold impl_upTo.f
 exact upTo_loop n hn n k 0 (by omega) (by omega) hk
theorem rd_app (A B : List Int) (x : Nat) : rd (A ++ B) x = if x < A.length then rd A x else rd B ((x - A.length : Nat) : Int) := by
 unfold rd
 simp only [Int.toNat_natCast, List.getD_eq_getElem?_getD]
 by_cases hx : x < A.length
 ·rw [if_pos hx, List.getElem?_append_left hx]
 ·rw [if_neg hx, List.getElem?_append_right (by omega)]
theorem rd_drop (L : List Int) (i x : Nat) : rd (L.drop i) x = rd L ((i + x : Nat) : Int) := by
 unfold rd
 simp only [Int.toNat_natCast, List.getD_eq_getElem?_getD, List.getElem?_drop]
theorem numsTo_rd {n : Nat} {x : Int} (x0 : 0 ≤ x) (x1 : x < n) : rd (numsTo n) x = x := by
 induction n with
 | zero => omega
 | succ n ih =>
  obtain ⟨i, rfl⟩ : ∃ i : Nat, x = i := ⟨x.toNat, by omega⟩
  rw [show numsTo (n + 1) = numsTo n ++ [(n : Int)] from rfl, rd_app, numsTo_len]
  by_cases hi : i < n
  ·rw [if_pos hi]; exact ih (by omega)
  ·rw [if_neg hi, show i = n by omega, Nat.sub_self]; rfl
def cntV : List Int → Nat
 | [] => 0
 | x :: l => if x ∈ l then cntV l else cntV l + 1
theorem cntV_snoc (x : Int) : ∀ p : List Int, cntV (p ++ [x]) = if x ∈ p then cntV p else cntV p + 1
 | [] => by simp [cntV]
 | v :: p => by
  have ih := cntV_snoc x p
  by_cases hvx : v = x
  ·subst hvx
   by_cases hp : v ∈ p
   ·simp [cntV, ih, hp]
   ·simp [cntV, ih, hp]
  ·have hxv : ¬ x = v := fun e => hvx e.symm
   by_cases hp : x ∈ p <;> by_cases hq : v ∈ p <;> simp [cntV, ih, hp, hq, hvx, hxv]
theorem mem_join {x y v : Int} : ∀ {l : List Int}, v ≠ x → v ≠ y → (v ∈ l.map (fun u => if u = y then x else u) ↔ v ∈ l)
 | [], _, _ => by simp
 | u :: l, h1, h2 => by
  rw [List.map_cons, List.mem_cons, List.mem_cons, mem_join (l := l) h1 h2]
  by_cases hu : u = y
  ·subst hu; simp [h1, h2]
  ·rw [if_neg hu]
theorem mem_joinx {x y : Int} : ∀ {l : List Int}, (x ∈ l.map (fun u => if u = y then x else u) ↔ (x ∈ l ∨ y ∈ l))
 | [] => by simp
 | u :: l => by
  rw [List.map_cons, List.mem_cons, List.mem_cons, List.mem_cons, mem_joinx (l := l)]
  by_cases hu : u = y
  ·subst hu; simp
  ·rw [if_neg hu]
   have : ¬ y = u := fun e => hu e.symm
   simp only [this, false_or, or_assoc]
theorem cntV_join {x y : Int} (hxy : x ≠ y) : ∀ l : List Int, cntV (l.map fun u => if u = y then x else u) + (if x ∈ l ∧ y ∈ l then 1 else 0) = cntV l
 | [] => by simp [cntV]
 | u :: l => by
  have ih := cntV_join hxy l
  have hyx : ¬ y = x := fun e => hxy e.symm
  rw [List.map_cons]
  by_cases hu : u = y
  ·subst hu
   rw [if_pos rfl]
   simp only [cntV, mem_joinx, List.mem_cons, hxy, hyx, false_or, true_or, and_true]
   by_cases h1 : x ∈ l <;> by_cases h2 : u ∈ l <;> simp only [h1, h2, and_self, and_true, and_false, true_and, false_and, or_self, or_true, or_false, true_or, false_or, if_true, if_false] at ih ⊢ <;> omega
  ·rw [if_neg hu]
   by_cases hux : u = x
   ·subst hux
    simp only [cntV, mem_joinx, List.mem_cons, hyx, false_or, true_or, true_and]
    by_cases h1 : u ∈ l <;> by_cases h2 : y ∈ l <;> simp only [h1, h2, and_self, and_true, and_false, true_and, false_and, or_self, or_true, or_false, true_or, false_or, if_true, if_false] at ih ⊢ <;> omega
   ·have e1 : ¬ x = u := fun e => hux e.symm
    have e2 : ¬ y = u := fun e => hu e.symm
    simp only [cntV, mem_join hux hu, List.mem_cons, e1, e2, false_or]
    by_cases h1 : u ∈ l <;> simp only [h1, if_true, if_false] <;> omega
def joinL (L : List Int) (a b : Int) : List Int := L.map fun v => if v = rd L b then rd L a else v
theorem joinL_len (L : List Int) (a b : Int) : (joinL L a b).length = L.length := by simp [joinL]
theorem cntV_le : ∀ l : List Int, cntV l ≤ l.length
 | [] => Nat.le_refl _
 | x :: l => by
  have := cntV_le l
  simp only [cntV, List.length_cons]
  split <;> omega
theorem joinS_eq {L : List Int} {a b : Int} (hl : L.length ≤ 1000) (ha0 : 0 ≤ a) (ha1 : a < L.length) (hb0 : 0 ≤ b) (hb1 : b < L.length) : joinS (L, (cntV L : Int)) a b = (joinL L a b, (cntV (joinL L a b) : Int)) := by
 unfold joinS
 by_cases h : rd L a = rd L b
 ·rw [if_pos h]
  have e : joinL L a b = L := by
   unfold joinL
   rw [h]
   exact (List.map_congr_left (fun v _ => by split <;> simp_all)).trans (List.map_id L)
  rw [e]
 ·rw [if_neg h]
  have e := cntV_join h L
  rw [if_pos ⟨rd_in ha0 ha1, rd_in hb0 hb1⟩] at e
  have hc := cntV_le L
  show (joinL L a b, wrap64 ((cntV L : Int) - 1)) = _
  rw [w64_id (by omega) (by omega)]
  have e2 : cntV (joinL L a b) + 1 = cntV L := e
  rw [Prod.mk.injEq]
  exact ⟨rfl, by omega⟩
def edgeL (w h : Int) (n j : Nat) : List Int := (numsTo n).map fun v => if v < (j : Int) ∧ edgeC w h v = true then 0 else v
theorem edgeL_len (w h : Int) (n j : Nat) : (edgeL w h n j).length = n := by simp [edgeL, numsTo_len]
theorem rd_map {F : Int → Int} {n : Nat} {x : Int} (x0 : 0 ≤ x) (x1 : x < n) : rd ((numsTo n).map F) x = F x := by
 obtain ⟨i, rfl⟩ := Int.eq_ofNat_of_zero_le x0
 have h := numsTo_rd x0 x1
 unfold rd at h ⊢
 have hl := numsTo_len n
 rw [Int.toNat_natCast] at h ⊢
 have hi : i < (numsTo n).length := by rw [hl]; omega
 rw [List.getD_eq_getElem?_getD, List.getElem?_eq_getElem hi] at h
 rw [List.getD_eq_getElem?_getD, List.getElem?_map, List.getElem?_eq_getElem hi]
 simp only [Option.map_some, Option.getD_some] at h ⊢
 rw [h]
theorem edgeL_step {w h : Int} {n j : Nat} (hj : j < n) : edgeL w h n (j + 1) = if edgeC w h j = true then joinL (edgeL w h n j) 0 j else edgeL w h n j := by
 have r0 : rd (edgeL w h n j) 0 = 0 := by unfold edgeL; rw [rd_map (Int.le_refl _) (by omega)]; split <;> rfl
 have rj : rd (edgeL w h n j) (j : Int) = (j : Int) := by unfold edgeL; rw [rd_map (by omega) (by omega), if_neg (by omega)]
 by_cases he : edgeC w h (j : Int) = true
 ·rw [if_pos he]
  unfold joinL
  rw [r0, rj]
  unfold edgeL
  rw [List.map_map]
  refine List.map_congr_left (fun v hv => ?_)
  have hv2 := numsTo_mem.1 hv
  simp only [Function.comp]
  by_cases hve : edgeC w h v = true
  ·simp only [hve, and_true]
   by_cases h1 : v < (j : Int)
   ·rw [if_pos h1, if_pos (show v < ((j + 1 : Nat) : Int) by omega)]; split <;> rfl
   ·rw [if_neg h1]
    by_cases h2 : v = (j : Int)
    ·rw [if_pos (show v < ((j + 1 : Nat) : Int) by omega), if_pos h2]
    ·rw [if_neg (show ¬ v < ((j + 1 : Nat) : Int) by omega), if_neg h2]
  ·have e1 : ¬ (v < ((j + 1 : Nat) : Int) ∧ edgeC w h v = true) := fun q => hve q.2
   have e2 : ¬ (v < (j : Int) ∧ edgeC w h v = true) := fun q => hve q.2
   rw [if_neg e1, if_neg e2, if_neg (fun q => hve (by rw [q]; exact he))]
 ·rw [if_neg he]
  unfold edgeL
  refine List.map_congr_left (fun v hv => ?_)
  by_cases hvj : v = (j : Int)
  ·subst hvj; rw [if_neg (fun q => he q.2), if_neg (fun q => he q.2)]
  ·by_cases hve : edgeC w h v = true
   ·by_cases hlt : v < (j : Int)
    ·rw [if_pos ⟨by omega, hve⟩, if_pos ⟨hlt, hve⟩]
    ·rw [if_neg (by omega), if_neg (by omega)]
   ·rw [if_neg (fun q => hve q.2), if_neg (fun q => hve q.2)]
theorem wall_edges {w h : Int} {n : Nat} (hn : n ≤ 1000) : ∀ (d j K : Nat), j + d = n → d < K → wall_l0 w h K (j : Int) (edgeL w h n j, (cntV (edgeL w h n j) : Int)) = some (edgeL w h n n, (cntV (edgeL w h n n) : Int))
 | 0, j, K, hd, hK => by
  obtain ⟨K, rfl⟩ : ∃ q, K = q + 1 := ⟨K - 1, by omega⟩
  obtain rfl : j = n := by omega
  rw [wall_l0, edgeL_len, if_neg (by omega)]
 | d + 1, j, K, hd, hK => by
  obtain ⟨K, rfl⟩ : ∃ q, K = q + 1 := ⟨K - 1, by omega⟩
  have ih := wall_edges (w := w) (h := h) hn d (j + 1) K (by omega) (by omega)
  rw [wall_l0, edgeL_len, if_pos (by omega), impl_IsEdgeCorner_eq]
  simp only [Option.bind_some]
  rw [w64_id (x := (j : Int) + 1) (by omega) (by omega), show ((j : Int) + 1) = ((j + 1 : Nat) : Int) by omega]
  rw [edgeL_step (w := w) (h := h) (show j < n by omega)] at ih
  by_cases he : edgeC w h (j : Int) = true
  ·rw [if_pos he] at ih
   rw [if_pos he, joinS_eq (by rw [edgeL_len]; exact hn) (Int.le_refl _) (by rw [edgeL_len]; omega) (by omega) (by rw [edgeL_len]; omega)]
   exact ih
  ·rw [if_neg he] at ih
   rw [if_neg he]
   exact ih
theorem corners_bd {w h g : Int} (hg : gapIn w h g = true) : 0 ≤ (corners w h g).1 ∧ (corners w h g).1 < nCorn w h ∧ 0 ≤ (corners w h g).2 ∧ (corners w h g).2 < nCorn w h := by
 have hk := ok_of_gap hg
 have h1 := gapIn_iff.1 hg
 have h2 := nGaps_bd w h
 obtain ⟨m, rfl⟩ := Int.eq_ofNat_of_zero_le h1.1
 have hm : m < 24 := by omega
 rcases gOk_cases hk with ⟨rfl | rfl | rfl | rfl, rfl | rfl | rfl | rfl⟩ <;>
 ·revert hg
  refine (show ∀ q : Fin 24, gapIn _ _ (q.val : Int) = true → 0 ≤ (corners _ _ (q.val : Int)).1 ∧ (corners _ _ (q.val : Int)).1 < nCorn _ _ ∧ 0 ≤ (corners _ _ (q.val : Int)).2 ∧ (corners _ _ (q.val : Int)).2 < nCorn _ _ from ?_) ⟨m, hm⟩
  decide +kernel
def gapsL (w h o : Int) : Nat → Int → List Int → List Int
 | 0, _, L => L
 | d + 1, g, L => gapsL w h o d (g + 1) (if bitAt o g = true then L else joinL L (corners w h g).1 (corners w h g).2)
theorem wall_gaps {w h o : Int} (hm : mOk w h o = true) : ∀ (d : Nat) (g : Int) (L : List Int) (K : Nat), 0 ≤ g → g + d = nGaps w h → (L.length : Int) = nCorn w h → L.length ≤ 1000 → d < K → wall_l1 w h o K g (L, (cntV L : Int)) = some (cntV (gapsL w h o d g L) : Int)
 | 0, g, L, K, h0, hd, hl, hl2, hK => by
  obtain ⟨K, rfl⟩ : ∃ q, K = q + 1 := ⟨K - 1, by omega⟩
  rw [wall_l1, impl_CountGaps_eq]
  simp only [Option.bind_some]
  rw [if_neg (by omega)]; rfl
 | d + 1, g, L, K, h0, hd, hl, hl2, hK => by
  obtain ⟨K, rfl⟩ : ∃ q, K = q + 1 := ⟨K - 1, by omega⟩
  have hgi : gapIn w h g = true := gapIn_iff.2 ⟨h0, by omega⟩
  have hcb := corners_bd hgi
  have hgb := nGaps_bd w h
  rw [wall_l1, impl_CountGaps_eq]
  simp only [Option.bind_some]
  rw [if_pos (by omega), isOpen_eq hm (by omega), decide_eq_true h0, Bool.true_and, w64_id (x := g + 1) (by omega) (by omega)]
  simp only [Option.bind_some, gapsL]
  by_cases hb : bitAt o g = true
  ·rw [if_pos hb, if_pos hb]
   exact wall_gaps hm d (g + 1) L K (by omega) (by omega) hl hl2 (by omega)
  ·rw [if_neg hb, if_neg hb, impl_CornersOf_eq]
   simp only [Option.bind_some]
   rw [if_pos ⟨hcb.1, by omega, hcb.2.2.1, by omega⟩, joinS_eq hl2 hcb.1 (by omega) hcb.2.2.1 (by omega)]
   exact wall_gaps hm d (g + 1) _ K (by omega) (by omega) (by rw [joinL_len]; exact hl) (by rw [joinL_len]; exact hl2) (by omega)
def zerL (w h : Int) (n j : Nat) : List Int := (numsTo n).map fun v => if v < (j : Int) then (if edgeC w h v = true then 0 else v) else 0
theorem zerL_len (w h : Int) (n j : Nat) : (zerL w h n j).length = n := by simp [zerL, numsTo_len]
theorem set_map {F : Int → Int} {n j : Nat} (hj : j < n) (c : Int) : ((numsTo n).map F).set j c = (numsTo n).map fun v => if v = (j : Int) then c else F v := by
 apply List.ext_getElem
 ·simp
 ·intro i h1 h2
  have hi : i < n := by simpa [numsTo_len] using h2
  have hv : (numsTo n)[i]'(by rw [numsTo_len]; exact hi) = (i : Int) := by
   have h := numsTo_rd (n := n) (x := (i : Int)) (by omega) (by omega)
   unfold rd at h
   rw [Int.toNat_natCast, List.getD_eq_getElem?_getD, List.getElem?_eq_getElem (by rw [numsTo_len]; exact hi)] at h
   exact h
  rw [List.getElem_set, List.getElem_map, List.getElem_map, hv]
  by_cases hij : j = i
  ·subst hij; simp
  ·rw [if_neg hij, if_neg (by omega)]
theorem zerL_step {w h : Int} {n j : Nat} (hj : j < n) : zerL w h n (j + 1) = if edgeC w h j = true then ((zerL w h n j).set j (j : Int)).set j 0 else (zerL w h n j).set j (j : Int) := by
 unfold zerL
 rw [set_map hj, set_map hj]
 by_cases he : edgeC w h (j : Int) = true
 ·rw [if_pos he]
  refine List.map_congr_left (fun v _ => ?_)
  by_cases hv : v = (j : Int)
  ·subst hv; rw [if_pos (by omega), if_pos he, if_pos rfl]
  ·rw [if_neg hv, if_neg hv]
   by_cases hlt : v < (j : Int)
   ·rw [if_pos hlt, if_pos (by omega)]
   ·rw [if_neg hlt, if_neg (by omega)]
 ·rw [if_neg he]
  refine List.map_congr_left (fun v _ => ?_)
  by_cases hv : v = (j : Int)
  ·subst hv; rw [if_pos (by omega), if_neg he, if_pos rfl]
  ·rw [if_neg hv]
   by_cases hlt : v < (j : Int)
   ·rw [if_pos hlt, if_pos (by omega)]
   ·rw [if_neg hlt, if_neg (by omega)]
theorem zerL_zero (w h : Int) (n : Nat) : List.replicate n (0 : Int) = zerL w h n 0 := by
 unfold zerL
 rw [List.map_congr_left (g := fun _ => (0 : Int)) (fun v hv => by rw [if_neg (by have := (numsTo_mem.1 hv).1; omega)]), List.map_const', numsTo_len]
theorem zerL_all (w h : Int) (n : Nat) : zerL w h n n = edgeL w h n n := by
 unfold zerL edgeL
 refine List.map_congr_left (fun v hv => ?_)
 have hv2 := numsTo_mem.1 hv
 rw [if_pos hv2.2]
 by_cases he : edgeC w h v = true
 ·rw [if_pos he, if_pos ⟨hv2.2, he⟩]
 ·rw [if_neg he, if_neg (fun q => he q.2)]
theorem spec_edges {w h o : Int} {n : Nat} (hn : n ≤ 1000) : ∀ (d j K : Nat), j + d = n → spec_WallParts.l0 (K + d + 1) (zerL w h n j) (j : Int) w h o = spec_WallParts.l1 K (edgeL w h n n) 0 w h o
 | 0, j, K, hd => by
  obtain rfl : j = n := by omega
  rw [show K + 0 + 1 = K + 1 by omega]
  simp only [spec_WallParts.l0, zerL_len]
  rw [if_neg (by omega), zerL_all]
 | d + 1, j, K, hd => by
  have ih := spec_edges (w := w) (h := h) (o := o) hn d (j + 1) K (by omega)
  rw [zerL_step (w := w) (h := h) (show j < n by omega)] at ih
  rw [show K + (d + 1) + 1 = (K + d + 1) + 1 by omega]
  rw [spec_WallParts.l0]
  simp only [zerL_len, spec_IsEdgeCorner_eq, Option.bind_some, Int.toNat_natCast]
  rw [if_pos (by omega), if_pos (by omega), w64_id (x := (j : Int) + 1) (by omega) (by omega), show ((j : Int) + 1) = ((j + 1 : Nat) : Int) by omega]
  by_cases he : edgeC w h (j : Int) = true
  ·rw [if_pos he] at ih ⊢; exact ih
  ·rw [if_neg he] at ih ⊢; exact ih
theorem spec_join {w h o g a b : Int} {L : List Int} (hg0 : 0 ≤ g) (hg : g ≤ 64) (ho : 0 ≤ o) (ho2 : o ≤ 9223372036854775807) (hb : bitAt o g = false) (hl : L.length ≤ 1000) (ha0 : 0 ≤ a) (ha1 : a < L.length) : ∀ (d i K : Nat), i + d = L.length →
  spec_WallParts.l2 (K + 2 * d + 2) ((L.take i).map (fun v => if v = rd L b then rd L a else v) ++ L.drop i) g a (rd L b) (i : Int) w h o = spec_WallParts.l1 K (joinL L a b) (wrap64 (g + 1)) w h o
 | 0, i, K, hd => by
  obtain rfl : i = L.length := by omega
  rw [show K + 2 * 0 + 2 = (K + 1) + 1 by omega]
  rw [spec_WallParts.l2, spec_WallParts.j3]
  have e : ((L.take L.length).map (fun v => if v = rd L b then rd L a else v) ++ L.drop L.length) = joinL L a b := by simp [joinL]
  rw [e, joinL_len, if_neg (by omega), if_neg (by decide)]
 | d + 1, i, K, hd => by
  have ih := spec_join (w := w) (h := h) (b := b) hg0 hg ho ho2 hb hl ha0 ha1 d (i + 1) K (by omega)
  have hi : i < L.length := by omega
  obtain ⟨M, hM⟩ : ∃ M, M = (L.take i).map (fun v => if v = rd L b then rd L a else v) ++ L.drop i := ⟨_, rfl⟩
  have hml : M.length = L.length := by rw [hM]; simp; omega
  have hlen : ((L.take i).map (fun v => if v = rd L b then rd L a else v)).length = i := by simp; omega
  have hmi : rd M (i : Int) = rd L i := by
   rw [hM, rd_app, hlen, if_neg (by omega), rd_drop]
   congr 1; omega
  have hma : rd M a = rd L a := by
   obtain ⟨m, hm⟩ : ∃ m : Nat, a = (m : Int) := ⟨a.toNat, by omega⟩
   rw [hM, show rd ((L.take i).map (fun v => if v = rd L b then rd L a else v) ++ L.drop i) a = rd ((L.take i).map (fun v => if v = rd L b then rd L a else v) ++ L.drop i) (m : Int) by rw [← hm], rd_app, hlen]
   by_cases hmi : m < i
   ·rw [if_pos hmi, rd_mem _ m (by rw [hlen]; exact hmi), List.getElem_map, List.getElem_take, ← rd_mem L m (by omega), ← hm]
    split <;> rfl
   ·rw [if_neg hmi, rd_drop]
    congr 1; omega
  rw [← hM]
  rw [show K + 2 * (d + 1) + 2 = (K + 2 * d + 2 + 1) + 1 by omega]
  rw [spec_WallParts.l2, hml, if_pos (by omega), l03Bit_eq ho ho2 hg0 hg]
  simp only [Option.bind_some, hb, Bool.not_false]
  rw [spec_WallParts.j3, if_pos rfl, hml, if_pos (by omega), if_pos (by omega), hmi, hma, w64_id (x := (i : Int) + 1) (by omega) (by omega), show ((i : Int) + 1) = ((i + 1 : Nat) : Int) by omega]
  have hcons : L.drop i = rd L i :: L.drop (i + 1) := by
   rw [List.drop_eq_getElem_cons hi, rd_mem L i hi]
  have htk : (L.take (i + 1)).map (fun v => if v = rd L b then rd L a else v) = (L.take i).map (fun v => if v = rd L b then rd L a else v) ++ [if rd L i = rd L b then rd L a else rd L i] := by
   rw [List.take_add_one, List.getElem?_eq_getElem hi, List.map_append, rd_mem L i hi]; rfl
  by_cases he : rd L i = rd L b
  ·rw [if_pos he, if_pos ha0, if_pos ha1]
   rw [htk, if_pos he] at ih
   rw [← ih]
   congr 1
   rw [hM, hcons, Int.toNat_natCast, List.set_append_right _ _ (by simp; omega)]
   simp [Nat.min_eq_left (Nat.le_of_lt hi)]
  ·rw [if_neg he]
   rw [htk, if_neg he] at ih
   rw [← ih]
   congr 1
   rw [hM, hcons]; simp
theorem spec_skip {w h o g a : Int} {L : List Int} (x : Int) (hg0 : 0 ≤ g) (hg : g ≤ 64) (ho : 0 ≤ o) (ho2 : o ≤ 9223372036854775807) (hb : bitAt o g = true) (K : Nat) : spec_WallParts.l2 (K + 2) L g a x 0 w h o = spec_WallParts.l1 K L (wrap64 (g + 1)) w h o := by
 rw [show K + 2 = (K + 1) + 1 by omega]
 rw [spec_WallParts.l2]
 simp only [l03Bit_eq ho ho2 hg0 hg, Option.bind_some, hb, Bool.not_true, ite_self]
 rw [spec_WallParts.j3, if_neg (by decide)]
theorem spec_first {L : List Int} (hl : L.length ≤ 1000) (n : Int) (j : Nat) (hj : j < L.length) : ∀ (d i K : Nat), i + d = j →
  spec_WallParts.l4 (K + d + 1) L n (j : Int) (decide (¬ rd L j ∈ L.take i)) (i : Int) = spec_WallParts.l3 K L (if rd L j ∈ L.take j then n else wrap64 (n + 1)) (((j + 1 : Nat)) : Int)
 | 0, i, K, hd => by
  obtain rfl : i = j := by omega
  rw [show K + 0 + 1 = K + 1 by omega]
  rw [spec_WallParts.l4]
  rw [if_neg (by omega), w64_id (x := (i : Int) + 1) (by omega) (by omega), show ((i : Int) + 1) = ((i + 1 : Nat) : Int) by omega]
  by_cases hm : rd L i ∈ L.take i
  ·rw [if_neg (by simpa using hm), if_pos hm]
  ·rw [if_pos (by simpa using hm), if_neg hm]
 | d + 1, i, K, hd => by
  have ih := spec_first hl n j hj d (i + 1) K (by omega)
  have hi : i < L.length := by omega
  rw [show K + (d + 1) + 1 = (K + d + 1) + 1 by omega]
  rw [spec_WallParts.l4]
  rw [if_pos (by omega), if_pos (show 0 ≤ (i : Int) by omega), if_pos (show (i : Int) < L.length by omega), if_pos (show 0 ≤ (j : Int) by omega), if_pos (show (j : Int) < L.length by omega), w64_id (x := (i : Int) + 1) (by omega) (by omega), show ((i : Int) + 1) = ((i + 1 : Nat) : Int) by omega]
  have htk : L.take (i + 1) = L.take i ++ [rd L i] := by rw [List.take_add_one, List.getElem?_eq_getElem hi, rd_mem L i hi]; rfl
  rw [htk] at ih
  by_cases hm : rd L j ∈ L.take i
  ·rw [if_neg (by simpa using hm), ← ih]
   congr 1
   simp [hm]
  ·rw [if_pos (by simpa using hm), ← ih]
   congr 1
   by_cases he : rd L i = rd L j
   ·simp [he]
   ·have he2 : ¬ rd L j = rd L i := fun e => he e.symm
    simp [hm, he, he2]
theorem spec_count {L : List Int} (hl : L.length ≤ 25) : ∀ (d j K : Nat), j + d = L.length → 30 * d + 1 ≤ K → spec_WallParts.l3 K L (cntV (L.take j) : Int) (j : Int) = some (cntV L : Int)
 | 0, j, K, hd, hK => by
  obtain ⟨K, rfl⟩ : ∃ q, K = q + 1 := ⟨K - 1, by omega⟩
  obtain rfl : j = L.length := by omega
  rw [spec_WallParts.l3]
  rw [if_neg (by omega), List.take_length]
 | d + 1, j, K, hd, hK => by
  obtain ⟨K, rfl⟩ : ∃ q, K = q + j + 1 + 1 := ⟨K - j - 2, by omega⟩
  have hj : j < L.length := by omega
  have ih := spec_count hl d (j + 1) K (by omega) (by omega)
  have hf := spec_first (by omega) (cntV (L.take j) : Int) j hj j 0 K (by omega)
  have htk : L.take (j + 1) = L.take j ++ [rd L j] := by rw [List.take_add_one, List.getElem?_eq_getElem hj, rd_mem L j hj]; rfl
  have hc := cntV_le (L.take j)
  have hc2 : (L.take j).length ≤ 25 := by simp; omega
  rw [htk, cntV_snoc] at ih
  rw [spec_WallParts.l3]
  rw [if_pos (by omega)]
  simp only [List.take_zero, List.not_mem_nil, not_false_eq_true, decide_true] at hf
  rw [show ((0 : Nat) : Int) = 0 from rfl] at hf
  rw [hf, w64_id (by omega) (by omega), ← ih]
  by_cases hm : rd L j ∈ L.take j
  ·rw [if_pos hm, if_pos hm]
  ·rw [if_neg hm, if_neg hm]; congr 1
theorem spec_gaps {w h o : Int} (hm : mOk w h o = true) : ∀ (d : Nat) (g : Int) (L : List Int) (K : Nat), 0 ≤ g → g + d = nGaps w h → (L.length : Int) = nCorn w h → L.length ≤ 25 → 60 * d + 1000 ≤ K → spec_WallParts.l1 K L g w h o = some (cntV (gapsL w h o d g L) : Int)
 | 0, g, L, K, h0, hd, hl, hl2, hK => by
  obtain ⟨K, rfl⟩ : ∃ q, K = q + 1 := ⟨K - 1, by omega⟩
  rw [spec_WallParts.l1, spec_CountGaps_eq]
  simp only [Option.bind_some, gapsL]
  rw [if_neg (by omega)]
  have := spec_count hl2 L.length 0 K (by omega) (by omega)
  simpa [cntV] using this
 | d + 1, g, L, K, h0, hd, hl, hl2, hK => by
  have hgi : gapIn w h g = true := gapIn_iff.2 ⟨h0, by omega⟩
  have hcb := corners_bd hgi
  have hgb := nGaps_bd w h
  have hb := mOk_bd hm
  obtain ⟨K, rfl⟩ : ∃ q, K = q + 1 := ⟨K - 1, by omega⟩
  rw [spec_WallParts.l1, spec_CountGaps_eq]
  simp only [spec_CornersOf_eq, Option.bind_some, gapsL]
  rw [if_pos (by omega), if_pos hcb.2.2.1, if_pos (by omega)]
  by_cases ht : bitAt o g = true
  ·rw [if_pos ht]
   obtain ⟨K, rfl⟩ : ∃ q, K = q + 2 := ⟨K - 2, by omega⟩
   rw [spec_skip _ h0 (by omega) hb.1 (by omega) ht K, w64_id (x := g + 1) (by omega) (by omega)]
   exact spec_gaps hm d (g + 1) L K (by omega) (by omega) hl hl2 (by omega)
  ·rw [if_neg ht]
   have hf : bitAt o g = false := by simpa using ht
   obtain ⟨K, rfl⟩ : ∃ q, K = q + 2 * L.length + 2 := ⟨K - 2 * L.length - 2, by omega⟩
   have hj := spec_join (L := L) (w := w) (h := h) (b := (corners w h g).2) h0 (by omega) hb.1 (by omega) hf (by omega) hcb.1 (by omega) L.length 0 K (by omega)
   simp only [List.take_zero, List.map_nil, List.nil_append, List.drop_zero] at hj
   rw [show ((0 : Nat) : Int) = 0 from rfl] at hj
   rw [hj, w64_id (x := g + 1) (by omega) (by omega)]
   exact spec_gaps hm d (g + 1) _ K (by omega) (by omega) (by rw [joinL_len]; exact hl) (by rw [joinL_len]; exact hl2) (by omega)
def wallV (w h o : Int) : Int := if mOk w h o = true then (cntV (gapsL w h o (nGaps w h).toNat 0 (edgeL w h (nCorn w h).toNat (nCorn w h).toNat)) : Int) else 0
theorem nCorn_ok {w h : Int} (hk : gOk w h = true) : 4 ≤ nCorn w h ∧ nCorn w h ≤ 25 := by
 unfold nCorn
 rw [if_pos hk]
 rcases gOk_cases hk with ⟨rfl | rfl | rfl | rfl, rfl | rfl | rfl | rfl⟩ <;> decide
theorem spec_WallParts_eq (w h o : Int) (k : Nat) (hk : 3000 ≤ k) : spec_WallParts.f k w h o = some (wallV w h o) := by
 unfold spec_WallParts.f wallV
 rw [spec_MazeOk_eq, spec_CountCorners_eq]
 simp only [Option.bind_some]
 by_cases hm : mOk w h o = true
 ·have hg := (mOk_iff.1 hm).1
  have hc := nCorn_ok hg
  have hn := nGaps_bd w h
  rw [if_pos hm, if_pos hm, if_pos (by omega), if_pos (by omega)]
  obtain ⟨n, hnn⟩ : ∃ n, n = (nCorn w h).toNat := ⟨_, rfl⟩
  rw [← hnn]
  obtain ⟨K, rfl⟩ : ∃ q, k = q + n + 1 := ⟨k - n - 1, by omega⟩
  rw [zerL_zero w h n]
  have h1 := spec_edges (w := w) (h := h) (o := o) (n := n) (by omega) n 0 K (by omega)
  rw [show ((0 : Nat) : Int) = 0 from rfl] at h1
  rw [h1]
  exact spec_gaps hm (nGaps w h).toNat 0 _ K (Int.le_refl _) (by omega) (by rw [edgeL_len]; omega) (by rw [edgeL_len]; omega) (by omega)
 ·rw [if_neg hm, if_neg hm]
theorem cntV_nums : ∀ n : Nat, cntV (numsTo n) = n
 | 0 => rfl
 | n + 1 => by
  rw [numsTo, cntV_snoc, if_neg (fun q => by have := (numsTo_mem.1 q).2; omega), cntV_nums n]
theorem edgeL_zero (w h : Int) (n : Nat) : edgeL w h n 0 = numsTo n := by
 unfold edgeL
 exact (List.map_congr_left (fun v hv => by rw [if_neg (fun q => by have := (numsTo_mem.1 hv).1; have := q.1; omega)]; rfl)).trans (List.map_id _)
theorem impl_WallParts_eq (w h o : Int) (k : Nat) (hk : 3000 ≤ k) : impl_WallParts.f k w h o = some (wallV w h o) := by
 unfold impl_WallParts.f wallV
 rw [impl_MazeOk_eq, impl_CountCorners_eq]
 simp only [Option.bind_some]
 by_cases hm : mOk w h o = true
 ·have hg := (mOk_iff.1 hm).1
  have hc := nCorn_ok hg
  have hn := nGaps_bd w h
  rw [if_pos hm, if_pos hm]
  obtain ⟨n, hnn⟩ : ∃ n, n = (nCorn w h).toNat := ⟨_, rfl⟩
  rw [← hnn, show nCorn w h = (n : Int) by omega, upTo_eq n (by omega) k (by omega)]
  simp only [Option.bind_some]
  rw [numsTo_len, if_pos (by omega)]
  have h1 := wall_edges (w := w) (h := h) (n := n) (by omega) n 0 k (by omega) (by omega)
  rw [edgeL_zero, cntV_nums] at h1
  rw [show ((0 : Nat) : Int) = 0 from rfl] at h1
  rw [h1]
  simp only [Option.bind_some]
  exact wall_gaps hm (nGaps w h).toNat 0 _ k (Int.le_refl _) (by omega) (by rw [edgeL_len]; omega) (by rw [edgeL_len]; omega) (by omega)
 ·rw [if_neg hm, if_neg hm]
theorem FnExactWallLoops : laws_FnExactWallLoops.Pure := by
 intro w h o _ _ _
 refine ⟨3000, ?_⟩
 unfold laws_FnExactWallLoops.f spec_WallLoops.f impl_WallLoops.f
 have hc : spec_CountPassages.f 3000 w h o = some (pcnt w h o) := spec_CountPassages_eq 2940 w h o
 simp only [toMaze_eq, Option.bind_some, spec_WallParts_eq w h o 3000 (by omega), impl_WallParts_eq w h o 3000 (by omega), spec_MazeOk_eq, impl_MazeOk_eq, spec_CountGaps_eq, impl_CountGaps_eq, impl_CountPassages_eq, hc]
 by_cases hm : mOk w h o = true
 ·rw [if_pos hm]; simp only [Option.bind_some, if_true]
 ·rw [if_neg hm]; simp only [Option.bind_some, if_true]

end Go.Proofs.Ytkbfknodibnkgaa.Q.P
namespace Go.Proofs.Ytkbfknodibnkgaa.Pure
theorem FnExactWallLoops : Go.Proofs.Ytkbfknodibnkgaa.Q.laws_FnExactWallLoops.Pure := Go.Proofs.Ytkbfknodibnkgaa.Q.P.FnExactWallLoops
end Go.Proofs.Ytkbfknodibnkgaa.Pure
