/- The plain law FnExactSetGap: for every input that its Go types allow, the printed functions of the program and of the reference answer so that the law's own function says true. No further condition. -/
import Derived.Test.YtalobhnjecefpaaQx0
import Derived.Test.YtalobhnjecefpaaQx1
import Derived.Test.YtalobhnjecefpaaQx10
import Derived.Test.YtalobhnjecefpaaQx13
import Derived.Test.YtalobhnjecefpaaQx14
import Derived.Test.YtalobhnjecefpaaQx15
import Derived.Test.YtalobhnjecefpaaQx6
import Derived.Test.YtalobhnjecefpaaQx7
import Derived.Test.YtalobhnjecefpaaQx9
namespace Go.Proofs.Ytalobhnjecefpaa.Pure
open Go.RowKit Go.Proofs.Ytalobhnjecefpaa.Q Go.Proofs.YtalobhnjecefpaaW.PrintWords Go.Proofs.YtalobhnjecefpaaW.PrintLast Go.Proofs.YtalobhnjecefpaaW.PrintMore
set_option linter.unusedVariables false
set_option linter.unusedSimpArgs false

theorem w64_id {x : Int} (h0 : -9223372036854775808 ≤ x) (h1 : x ≤ 9223372036854775807) : wrap64 x = x := by
  unfold wrap64; omega
theorem shl_one {g : Int} (h0 : 0 ≤ g) (h1 : g ≤ 62) : shl .i64 1 g = 2 ^ g.toNat := by
  unfold shl
  rw [i64_w, Nat.min_eq_left (by simp only [IntKind.bits]; omega), Int.one_mul]
  have : (2 : Int) ^ g.toNat ≤ 2 ^ 62 := by
    have := Nat.pow_le_pow_right (n := 2) (by omega) (show g.toNat ≤ 62 by omega)
    exact_mod_cast this
  have h3 : (0 : Int) < 2 ^ g.toNat := by exact_mod_cast Nat.pow_pos (by omega)
  exact w64_id (by omega) (by omega)
theorem shl_pos {g : Int} (h0 : 0 ≤ g) (h1 : g ≤ 62) : 0 < shl .i64 1 g ∧ shl .i64 1 g ≤ 4611686018427387904 := by
  rw [shl_one h0 h1]
  have : (2 : Int) ^ g.toNat ≤ 2 ^ 62 := by
    have := Nat.pow_le_pow_right (n := 2) (by omega) (show g.toNat ≤ 62 by omega)
    exact_mod_cast this
  have h3 : (0 : Int) < 2 ^ g.toNat := by exact_mod_cast Nat.pow_pos (by omega)
  exact ⟨h3, by omega⟩
theorem shr_nat {o g : Int} (ho : 0 ≤ o) (h1 : g ≤ 64) : shr .i64 o g = ((o.toNat >>> g.toNat : Nat) : Int) := by
  unfold shr
  rw [Nat.min_eq_left (by simp only [IntKind.bits]; omega), Nat.shiftRight_eq_div_pow]
  obtain ⟨n, rfl⟩ := Int.eq_ofNat_of_zero_le ho
  simp only [Int.toNat_natCast]
  rw [Int.natCast_ediv, Int.natCast_pow]; rfl
def bitAt (o g : Int) : Bool := o.toNat.testBit g.toNat
theorem ofInt_nat (x : Nat) : BitVec.ofInt 64 (x : Int) = BitVec.ofNat 64 x := by
  apply BitVec.eq_of_toNat_eq; simp
theorem bits_and_nat {x y : Nat} (hx : x < 9223372036854775808) (hy : y < 9223372036854775808) : Go.bits .and .i64 (x : Int) (y : Int) = ((x &&& y : Nat) : Int) := by
  show IntKind.i64.wrap (((BitVec.ofInt 64 (x : Int)) &&& (BitVec.ofInt 64 (y : Int))).toNat : Int) = _
  rw [i64_w, ofInt_nat, ofInt_nat]
  simp only [BitVec.toNat_and, BitVec.toNat_ofNat]
  rw [Nat.mod_eq_of_lt (by omega), Nat.mod_eq_of_lt (by omega)]
  have := Nat.and_le_left (n := x) (m := y)
  exact w64_id (by omega) (by omega)
theorem bits_and_one {x : Nat} (hx : x < 9223372036854775808) : Go.bits .and .i64 (x : Int) 1 = ((x % 2 : Nat) : Int) := by
  rw [show (1 : Int) = ((1 : Nat) : Int) from rfl, bits_and_nat hx (by omega), Nat.and_one_is_mod]
theorem bit_test {o g : Int} (ho : 0 ≤ o) (ho2 : o ≤ 9223372036854775807) (h1 : g ≤ 64) : (Go.bits .and .i64 (shr .i64 o g) 1 == 1) = bitAt o g := by
  rw [shr_nat ho h1, bits_and_one (by rw [Nat.shiftRight_eq_div_pow]; have := Nat.div_le_self o.toNat (2 ^ g.toNat); omega)]
  unfold bitAt
  rw [Nat.testBit, Bool.eq_iff_iff]
  simp only [beq_iff_eq, bne_iff_ne, ne_eq, Nat.and_comm 1, Nat.and_one_is_mod]
  omega
theorem bits_xor_nat {x y : Nat} (hx : x < 9223372036854775808) (hy : y < 9223372036854775808) : Go.bits .xor .i64 (x : Int) (y : Int) = ((x ^^^ y : Nat) : Int) := by
  show IntKind.i64.wrap (((BitVec.ofInt 64 (x : Int)) ^^^ (BitVec.ofInt 64 (y : Int))).toNat : Int) = _
  rw [i64_w, ofInt_nat, ofInt_nat]
  simp only [BitVec.toNat_xor, BitVec.toNat_ofNat]
  rw [Nat.mod_eq_of_lt (by omega), Nat.mod_eq_of_lt (by omega)]
  have := Nat.xor_lt_two_pow (n := 63) (show x < 2 ^ 63 by omega) (show y < 2 ^ 63 by omega)
  exact w64_id (by omega) (by omega)
theorem bits_or_nat {x y : Nat} (hx : x < 9223372036854775808) (hy : y < 9223372036854775808) : Go.bits .or .i64 (x : Int) (y : Int) = ((x ||| y : Nat) : Int) := by
  show IntKind.i64.wrap (((BitVec.ofInt 64 (x : Int)) ||| (BitVec.ofInt 64 (y : Int))).toNat : Int) = _
  rw [i64_w, ofInt_nat, ofInt_nat]
  simp only [BitVec.toNat_or, BitVec.toNat_ofNat]
  rw [Nat.mod_eq_of_lt (by omega), Nat.mod_eq_of_lt (by omega)]
  have := Nat.or_lt_two_pow (n := 63) (show x < 2 ^ 63 by omega) (show y < 2 ^ 63 by omega)
  exact w64_id (by omega) (by omega)
theorem bits_andNot_nat {x y : Nat} (hx : x < 9223372036854775808) (hy : y < 9223372036854775808) : ∃ z : Nat, Go.bits .andNot .i64 (x : Int) (y : Int) = (z : Int) ∧ z ≤ x ∧ ∀ i, z.testBit i = (x.testBit i && !y.testBit i) := by
  refine ⟨(BitVec.ofNat 64 x &&& ~~~ BitVec.ofNat 64 y).toNat, ?_, ?_, ?_⟩
  · show IntKind.i64.wrap (((BitVec.ofInt 64 (x : Int)) &&& ~~~ (BitVec.ofInt 64 (y : Int))).toNat : Int) = _
    rw [i64_w, ofInt_nat, ofInt_nat]
    have h1 : (BitVec.ofNat 64 x &&& ~~~ BitVec.ofNat 64 y).toNat ≤ x := by
      rw [BitVec.toNat_and, BitVec.toNat_ofNat, Nat.mod_eq_of_lt (by omega)]; exact Nat.and_le_left
    exact w64_id (by omega) (by omega)
  · rw [BitVec.toNat_and, BitVec.toNat_ofNat, Nat.mod_eq_of_lt (by omega)]; exact Nat.and_le_left
  · intro i
    rw [BitVec.testBit_toNat, BitVec.getLsbD_and, BitVec.getLsbD_not, BitVec.getLsbD_ofNat, BitVec.getLsbD_ofNat]
    by_cases hi : i < 64
    · simp [hi]
    · have : x.testBit i = false := Nat.testBit_lt_two_pow (Nat.lt_of_lt_of_le hx (by
        have := Nat.pow_le_pow_right (n := 2) (by omega) (show 64 ≤ i by omega)
        omega))
      simp [hi, this]
def gOk (w h : Int) : Bool := decide (1 ≤ w) && decide (w ≤ 4) && decide (1 ≤ h) && decide (h ≤ 4)
theorem gOk_iff {w h : Int} : gOk w h = true ↔ 1 ≤ w ∧ w ≤ 4 ∧ 1 ≤ h ∧ h ≤ 4 := by
  unfold gOk; simp only [Bool.and_eq_true, decide_eq_true_eq]; omega
theorem gOk_cases {w h : Int} (hg : gOk w h = true) : (w = 1 ∨ w = 2 ∨ w = 3 ∨ w = 4) ∧ (h = 1 ∨ h = 2 ∨ h = 3 ∨ h = 4) := by
  have := gOk_iff.1 hg; omega
def nCells (w h : Int) : Int := if gOk w h = true then w * h else 0
def nGaps (w h : Int) : Int := if gOk w h = true then (w - 1) * h + w * (h - 1) else 0
def nCorn (w h : Int) : Int := if gOk w h = true then (w + 1) * (h + 1) else 0
def nEast (w h : Int) : Int := (w - 1) * h
theorem nGaps_bd (w h : Int) : 0 ≤ nGaps w h ∧ nGaps w h ≤ 24 := by
  unfold nGaps
  split
  · rename_i hg; rcases gOk_cases hg with ⟨rfl | rfl | rfl | rfl, rfl | rfl | rfl | rfl⟩ <;> decide +kernel
  · omega
theorem l01In_eq (a b c : Int) : spec_l01In.f a b c = some (decide (b ≤ a) && decide (a ≤ c)) := by
  unfold spec_l01In.f
  by_cases h : a ≥ b
  · rw [if_pos h]; simp [show b ≤ a from h]
  · rw [if_neg h]; simp [show ¬ b ≤ a from h]
theorem spec_GridOk_eq (w h : Int) : spec_GridOk.f w h = some (gOk w h) := by
  unfold spec_GridOk.f gOk
  simp only [l01In_eq, Option.bind_some]
  by_cases h1 : 1 ≤ w <;> by_cases h2 : w ≤ 4 <;> simp [h1, h2]
theorem impl_GridOk_eq (w h : Int) : impl_GridOk.f w h = some (gOk w h) := by
  unfold impl_GridOk.f gOk
  by_cases h1 : 1 ≤ w <;> by_cases h2 : w ≤ 4 <;> by_cases h3 : 1 ≤ h <;> simp [h1, h2, h3]
theorem toMaze_eq (w h o : Int) : laws_toMaze.f w h o = some (w, h, o) := rfl
theorem l02East_eq {w h : Int} (hg : gOk w h = true) : spec_l02East.f w h = some (nEast w h) := by
  unfold spec_l02East.f nEast
  rcases gOk_cases hg with ⟨rfl | rfl | rfl | rfl, rfl | rfl | rfl | rfl⟩ <;> decide +kernel
theorem spec_CountGaps_eq (w h : Int) : spec_CountGaps.f w h = some (nGaps w h) := by
  unfold spec_CountGaps.f nGaps
  rw [spec_GridOk_eq]; simp only [Option.bind_some]
  by_cases hg : gOk w h = true
  · rw [if_pos hg, if_pos hg, l02East_eq hg]
    rcases gOk_cases hg with ⟨rfl | rfl | rfl | rfl, rfl | rfl | rfl | rfl⟩ <;> decide +kernel
  · rw [if_neg hg, if_neg hg]
theorem impl_CountGaps_eq (w h : Int) : impl_CountGaps.f w h = some (nGaps w h) := by
  unfold impl_CountGaps.f nGaps
  rw [impl_GridOk_eq]; simp only [Option.bind_some]
  by_cases hg : gOk w h = true
  · rw [if_pos hg, if_pos hg]
    rcases gOk_cases hg with ⟨rfl | rfl | rfl | rfl, rfl | rfl | rfl | rfl⟩ <;> decide +kernel
  · rw [if_neg hg, if_neg hg]
def mOk (w h o : Int) : Bool := gOk w h && (decide (0 ≤ o) && decide (o < shl .i64 1 (nGaps w h)))
theorem mOk_iff {w h o : Int} : mOk w h o = true ↔ gOk w h = true ∧ 0 ≤ o ∧ o < 2 ^ (nGaps w h).toNat := by
  unfold mOk
  have := nGaps_bd w h
  rw [shl_one (by omega) (by omega)]
  simp only [Bool.and_eq_true, decide_eq_true_eq]
theorem mOk_bd {w h o : Int} (hm : mOk w h o = true) : 0 ≤ o ∧ o < 16777216 := by
  obtain ⟨_, h0, h1⟩ := mOk_iff.1 hm
  have := nGaps_bd w h
  have h2 := Nat.pow_le_pow_right (n := 2) (by omega) (show (nGaps w h).toNat ≤ 24 by omega)
  have h3 : (2 : Int) ^ (nGaps w h).toNat ≤ 2 ^ 24 := by exact_mod_cast h2
  omega
theorem spec_MazeOk_eq (w h o : Int) : spec_MazeOk.f w h o = some (mOk w h o) := by
  unfold spec_MazeOk.f mOk
  have hb := nGaps_bd w h
  have hs := shl_pos (g := nGaps w h) (by omega) (by omega)
  simp only [spec_GridOk_eq, spec_CountGaps_eq, l01In_eq, Option.bind_some]
  rw [if_pos hb.1, w64_id (by omega) (by omega)]
  by_cases hg : gOk w h = true
  · rw [if_pos hg, hg, Bool.true_and]
    congr 2
    rw [Bool.eq_iff_iff]; simp only [decide_eq_true_eq]; omega
  · rw [if_neg hg]; simp [hg]
theorem impl_MazeOk_eq (w h o : Int) : impl_MazeOk.f w h o = some (mOk w h o) := by
  unfold impl_MazeOk.f mOk
  have hb := nGaps_bd w h
  simp only [impl_GridOk_eq, impl_CountGaps_eq, Option.bind_some]
  rw [if_pos hb.1]
  by_cases hg : gOk w h = true
  · rw [if_pos hg, hg, Bool.true_and]
    by_cases h0 : 0 ≤ o
    · rw [if_pos h0]; simp [h0]
    · rw [if_neg h0]; simp [h0]
  · rw [if_neg hg]; simp [hg]
def gapIn (w h g : Int) : Bool := decide (0 ≤ g) && decide (g < nGaps w h)
theorem gapIn_iff {w h g : Int} : gapIn w h g = true ↔ 0 ≤ g ∧ g < nGaps w h := by unfold gapIn; simp
theorem gapIn_spec (w h g : Int) : (decide (0 ≤ g) && decide (g ≤ wrap64 (nGaps w h - 1))) = gapIn w h g := by
  have hb := nGaps_bd w h
  rw [w64_id (by omega) (by omega)]
  unfold gapIn; rw [Bool.eq_iff_iff]; simp; omega
theorem isGap_eq (w h g : Int) : impl_isGap.f w h g = some (gapIn w h g) := by
  unfold impl_isGap.f gapIn
  rw [impl_CountGaps_eq]
  by_cases h0 : 0 ≤ g
  · rw [if_pos h0]; simp [h0]
  · rw [if_neg h0]; simp [h0]
theorem l03Bit_eq {o g : Int} (ho : 0 ≤ o) (ho2 : o ≤ 9223372036854775807) (hg0 : 0 ≤ g) (hg : g ≤ 64) : spec_l03Bit.f o g = some (bitAt o g) := by
  unfold spec_l03Bit.f
  rw [if_pos hg0, bit_test ho ho2 hg]
theorem eqGrid_self (w h : Int) : laws_eqGrid.f w h w h = some true := by unfold laws_eqGrid.f; simp
theorem eqMaze_self (w h o : Int) : laws_eqMaze.f w h o w h o = some true := by unfold laws_eqMaze.f; rw [eqGrid_self]; simp
def setG (o g : Int) (b : Bool) : Int := if bitAt o g = b then o else ((o.toNat ^^^ 2 ^ g.toNat : Nat) : Int)
theorem two_pow_le {g : Int} (h1 : g ≤ 24) : 2 ^ g.toNat ≤ 16777216 := by
  have := Nat.pow_le_pow_right (n := 2) (by omega) (show g.toNat ≤ 24 by omega)
  omega
theorem shl_nat {g : Int} (h0 : 0 ≤ g) (h1 : g ≤ 24) : shl .i64 1 g = ((2 ^ g.toNat : Nat) : Int) := by
  rw [shl_one h0 (by omega)]; simp
theorem xor_setG {o g : Int} (ho : 0 ≤ o) (ho2 : o < 16777216) (h0 : 0 ≤ g) (h1 : g ≤ 24) : Go.bits .xor .i64 o (shl .i64 1 g) = ((o.toNat ^^^ 2 ^ g.toNat : Nat) : Int) := by
  have := two_pow_le h1
  rw [shl_nat h0 h1]
  obtain ⟨n, rfl⟩ := Int.eq_ofNat_of_zero_le ho
  rw [bits_xor_nat (by omega) (by omega)]; simp
theorem clear_setG {o g : Int} (ho : 0 ≤ o) (ho2 : o < 16777216) (h0 : 0 ≤ g) (h1 : g ≤ 24) : Go.bits .andNot .i64 o (shl .i64 1 g) = setG o g false := by
  have h2 := two_pow_le h1
  rw [shl_nat h0 h1]
  obtain ⟨n, rfl⟩ := Int.eq_ofNat_of_zero_le ho
  obtain ⟨z, e, _, hz⟩ := bits_andNot_nat (x := n) (y := 2 ^ g.toNat) (by omega) (by omega)
  rw [e]; unfold setG bitAt
  simp only [Int.toNat_natCast]
  by_cases hb : n.testBit g.toNat = false
  · rw [if_pos hb]
    congr 1
    apply Nat.eq_of_testBit_eq
    intro i
    rw [hz, Nat.testBit_two_pow]
    by_cases e2 : g.toNat = i
    · subst e2; simp [hb]
    · simp [e2]
  · rw [if_neg hb]
    congr 1
    apply Nat.eq_of_testBit_eq
    intro i
    rw [hz, Nat.testBit_two_pow, Nat.testBit_xor, Nat.testBit_two_pow]
    by_cases e2 : g.toNat = i
    · subst e2; simp at hb; simp [hb]
    · simp [e2]
theorem open_setG {o g : Int} (ho : 0 ≤ o) (ho2 : o < 16777216) (h0 : 0 ≤ g) (h1 : g ≤ 24) : Go.bits .or .i64 (Go.bits .andNot .i64 o (shl .i64 1 g)) (shl .i64 1 g) = setG o g true := by
  have h2 := two_pow_le h1
  rw [shl_nat h0 h1]
  obtain ⟨n, rfl⟩ := Int.eq_ofNat_of_zero_le ho
  obtain ⟨z, e, hle, hz⟩ := bits_andNot_nat (x := n) (y := 2 ^ g.toNat) (by omega) (by omega)
  rw [e, bits_or_nat (by omega) (by omega)]; unfold setG bitAt
  simp only [Int.toNat_natCast]
  by_cases hb : n.testBit g.toNat = true
  · rw [if_pos hb]
    congr 1
    apply Nat.eq_of_testBit_eq
    intro i
    rw [Nat.testBit_or, hz, Nat.testBit_two_pow]
    by_cases e2 : g.toNat = i
    · subst e2; simp [hb]
    · simp [e2]
  · rw [if_neg hb]
    congr 1
    apply Nat.eq_of_testBit_eq
    intro i
    rw [Nat.testBit_or, hz, Nat.testBit_two_pow, Nat.testBit_xor, Nat.testBit_two_pow]
    by_cases e2 : g.toNat = i
    · subst e2; simp at hb; simp [hb]
    · simp [e2]
def setM (w h o g : Int) (b : Bool) : Int × Int × Int × Bool := if mOk w h o = true ∧ gapIn w h g = true then (w, h, setG o g b, true) else (w, h, o, false)
theorem impl_with_eq {w h o g : Int} {b : Bool} (hm : mOk w h o = true) (hg : gapIn w h g = true) : impl_with.f w h o g b = some (w, h, setG o g b) := by
  unfold impl_with.f
  have hb := mOk_bd hm
  have hg2 := gapIn_iff.1 hg
  have hn := nGaps_bd w h
  rw [if_pos hg2.1]
  cases b with
  | true => rw [if_pos rfl, open_setG hb.1 hb.2 hg2.1 (by omega)]
  | false => rw [if_neg (by decide), clear_setG hb.1 hb.2 hg2.1 (by omega)]
theorem impl_SetGap_eq (w h o g : Int) (b : Bool) : impl_SetGap.f w h o g b = some (setM w h o g b) := by
  unfold impl_SetGap.f setM
  simp only [impl_MazeOk_eq, isGap_eq, Option.bind_some]
  by_cases hm : mOk w h o = true
  · rw [if_pos hm]
    by_cases hg : gapIn w h g = true
    · rw [if_pos hg, if_pos ⟨hm, hg⟩, impl_with_eq hm hg]; rfl
    · rw [if_neg hg, if_neg (fun hh => hg hh.2)]
  · rw [if_neg hm, if_neg (fun hh => hm hh.1)]
theorem spec_SetGap_eq (k : Nat) (w h o g : Int) (b : Bool) : spec_SetGap.f (k + 1) w h o g b = some (setM w h o g b) := by
  unfold spec_SetGap.f setM
  simp only [spec_MazeOk_eq, spec_CountGaps_eq, l01In_eq, Option.bind_some, gapIn_spec, spec_SetGap.j0]
  by_cases hm : mOk w h o = true
  · rw [if_pos hm]
    by_cases hg : gapIn w h g = true
    · have hb := mOk_bd hm
      have hg2 := gapIn_iff.1 hg
      have hn := nGaps_bd w h
      rw [if_neg (by simp [hg]), if_pos (show mOk w h o = true ∧ gapIn w h g = true from ⟨hm, hg⟩), l03Bit_eq hb.1 (by omega) hg2.1 (by omega)]
      simp only [Option.bind_some]
      unfold setG
      by_cases hc : bitAt o g = b
      · rw [if_neg (by simp [hc]), if_pos hc]
      · rw [if_pos (by simpa using hc), if_neg hc, if_pos hg2.1, xor_setG hb.1 hb.2 hg2.1 (by omega)]
    · rw [if_pos (by simp [hg]), if_neg (show ¬ (mOk w h o = true ∧ gapIn w h g = true) from fun hh => hg hh.2)]
  · rw [if_neg hm, if_neg (show ¬ (mOk w h o = true ∧ gapIn w h g = true) from fun hh => hm hh.1), if_pos trivial]
theorem FnExactSetGap : laws_FnExactSetGap.Pure := by
  intro w h o g b _ _ _ _
  refine ⟨1, ?_⟩
  unfold laws_FnExactSetGap.f
  simp only [toMaze_eq, spec_SetGap_eq 0, impl_SetGap_eq, Option.bind_some, eqMaze_self]
  simp

end Go.Proofs.Ytalobhnjecefpaa.Pure
