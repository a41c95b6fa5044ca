/- The plain law FnExactCountPassages: for every input that its Go types allow, the printed functions of the program and of the reference answer so that the law's own function says true. No further condition. -/
import Derived.Test.YtalobhnjecefpaaQx0
import Derived.Test.YtalobhnjecefpaaQx1
import Derived.Test.YtalobhnjecefpaaQx13
import Derived.Test.YtalobhnjecefpaaQx14
import Derived.Test.YtalobhnjecefpaaQx30
import Derived.Test.YtalobhnjecefpaaQx6
import Derived.Test.YtalobhnjecefpaaQx7
import Derived.Test.YtalobhnjecefpaaQx9
namespace Go.Proofs.Ytalobhnjecefpaa.Pure
open Go.RowKit Go.Proofs.Ytalobhnjecefpaa.Q Go.Proofs.YtalobhnjecefpaaW.PrintWords Go.Proofs.YtalobhnjecefpaaW.PrintLast Go.Proofs.YtalobhnjecefpaaW.PrintMore
set_option linter.unusedVariables false
set_option linter.unusedSimpArgs false

theorem w64_id {x : Int} (h0 : -9223372036854775808 ≤ x) (h1 : x ≤ 9223372036854775807) : wrap64 x = x := by
  unfold wrap64; omega
theorem shl_one {g : Int} (h0 : 0 ≤ g) (h1 : g ≤ 62) : shl .i64 1 g = 2 ^ g.toNat := by
  unfold shl
  rw [i64_w, Nat.min_eq_left (by simp only [IntKind.bits]; omega), Int.one_mul]
  have : (2 : Int) ^ g.toNat ≤ 2 ^ 62 := by
    have := Nat.pow_le_pow_right (n := 2) (by omega) (show g.toNat ≤ 62 by omega)
    exact_mod_cast this
  have h3 : (0 : Int) < 2 ^ g.toNat := by exact_mod_cast Nat.pow_pos (by omega)
  exact w64_id (by omega) (by omega)
theorem shl_pos {g : Int} (h0 : 0 ≤ g) (h1 : g ≤ 62) : 0 < shl .i64 1 g ∧ shl .i64 1 g ≤ 4611686018427387904 := by
  rw [shl_one h0 h1]
  have : (2 : Int) ^ g.toNat ≤ 2 ^ 62 := by
    have := Nat.pow_le_pow_right (n := 2) (by omega) (show g.toNat ≤ 62 by omega)
    exact_mod_cast this
  have h3 : (0 : Int) < 2 ^ g.toNat := by exact_mod_cast Nat.pow_pos (by omega)
  exact ⟨h3, by omega⟩
theorem shr_nat {o g : Int} (ho : 0 ≤ o) (h1 : g ≤ 64) : shr .i64 o g = ((o.toNat >>> g.toNat : Nat) : Int) := by
  unfold shr
  rw [Nat.min_eq_left (by simp only [IntKind.bits]; omega), Nat.shiftRight_eq_div_pow]
  obtain ⟨n, rfl⟩ := Int.eq_ofNat_of_zero_le ho
  simp only [Int.toNat_natCast]
  rw [Int.natCast_ediv, Int.natCast_pow]; rfl
def bitAt (o g : Int) : Bool := o.toNat.testBit g.toNat
theorem ofInt_nat (x : Nat) : BitVec.ofInt 64 (x : Int) = BitVec.ofNat 64 x := by
  apply BitVec.eq_of_toNat_eq; simp
theorem bits_and_nat {x y : Nat} (hx : x < 9223372036854775808) (hy : y < 9223372036854775808) : Go.bits .and .i64 (x : Int) (y : Int) = ((x &&& y : Nat) : Int) := by
  show IntKind.i64.wrap (((BitVec.ofInt 64 (x : Int)) &&& (BitVec.ofInt 64 (y : Int))).toNat : Int) = _
  rw [i64_w, ofInt_nat, ofInt_nat]
  simp only [BitVec.toNat_and, BitVec.toNat_ofNat]
  rw [Nat.mod_eq_of_lt (by omega), Nat.mod_eq_of_lt (by omega)]
  have := Nat.and_le_left (n := x) (m := y)
  exact w64_id (by omega) (by omega)
theorem bits_and_one {x : Nat} (hx : x < 9223372036854775808) : Go.bits .and .i64 (x : Int) 1 = ((x % 2 : Nat) : Int) := by
  rw [show (1 : Int) = ((1 : Nat) : Int) from rfl, bits_and_nat hx (by omega), Nat.and_one_is_mod]
theorem bit_test {o g : Int} (ho : 0 ≤ o) (ho2 : o ≤ 9223372036854775807) (h1 : g ≤ 64) : (Go.bits .and .i64 (shr .i64 o g) 1 == 1) = bitAt o g := by
  rw [shr_nat ho h1, bits_and_one (by rw [Nat.shiftRight_eq_div_pow]; have := Nat.div_le_self o.toNat (2 ^ g.toNat); omega)]
  unfold bitAt
  rw [Nat.testBit, Bool.eq_iff_iff]
  simp only [beq_iff_eq, bne_iff_ne, ne_eq, Nat.and_comm 1, Nat.and_one_is_mod]
  omega
def gOk (w h : Int) : Bool := decide (1 ≤ w) && decide (w ≤ 4) && decide (1 ≤ h) && decide (h ≤ 4)
theorem gOk_iff {w h : Int} : gOk w h = true ↔ 1 ≤ w ∧ w ≤ 4 ∧ 1 ≤ h ∧ h ≤ 4 := by
  unfold gOk; simp only [Bool.and_eq_true, decide_eq_true_eq]; omega
theorem gOk_cases {w h : Int} (hg : gOk w h = true) : (w = 1 ∨ w = 2 ∨ w = 3 ∨ w = 4) ∧ (h = 1 ∨ h = 2 ∨ h = 3 ∨ h = 4) := by
  have := gOk_iff.1 hg; omega
def nCells (w h : Int) : Int := if gOk w h = true then w * h else 0
def nGaps (w h : Int) : Int := if gOk w h = true then (w - 1) * h + w * (h - 1) else 0
def nCorn (w h : Int) : Int := if gOk w h = true then (w + 1) * (h + 1) else 0
def nEast (w h : Int) : Int := (w - 1) * h
theorem nGaps_bd (w h : Int) : 0 ≤ nGaps w h ∧ nGaps w h ≤ 24 := by
  unfold nGaps
  split
  · rename_i hg; rcases gOk_cases hg with ⟨rfl | rfl | rfl | rfl, rfl | rfl | rfl | rfl⟩ <;> decide +kernel
  · omega
theorem l01In_eq (a b c : Int) : spec_l01In.f a b c = some (decide (b ≤ a) && decide (a ≤ c)) := by
  unfold spec_l01In.f
  by_cases h : a ≥ b
  · rw [if_pos h]; simp [show b ≤ a from h]
  · rw [if_neg h]; simp [show ¬ b ≤ a from h]
theorem spec_GridOk_eq (w h : Int) : spec_GridOk.f w h = some (gOk w h) := by
  unfold spec_GridOk.f gOk
  simp only [l01In_eq, Option.bind_some]
  by_cases h1 : 1 ≤ w <;> by_cases h2 : w ≤ 4 <;> simp [h1, h2]
theorem impl_GridOk_eq (w h : Int) : impl_GridOk.f w h = some (gOk w h) := by
  unfold impl_GridOk.f gOk
  by_cases h1 : 1 ≤ w <;> by_cases h2 : w ≤ 4 <;> by_cases h3 : 1 ≤ h <;> simp [h1, h2, h3]
theorem toMaze_eq (w h o : Int) : laws_toMaze.f w h o = some (w, h, o) := rfl
theorem l02East_eq {w h : Int} (hg : gOk w h = true) : spec_l02East.f w h = some (nEast w h) := by
  unfold spec_l02East.f nEast
  rcases gOk_cases hg with ⟨rfl | rfl | rfl | rfl, rfl | rfl | rfl | rfl⟩ <;> decide +kernel
theorem spec_CountGaps_eq (w h : Int) : spec_CountGaps.f w h = some (nGaps w h) := by
  unfold spec_CountGaps.f nGaps
  rw [spec_GridOk_eq]; simp only [Option.bind_some]
  by_cases hg : gOk w h = true
  · rw [if_pos hg, if_pos hg, l02East_eq hg]
    rcases gOk_cases hg with ⟨rfl | rfl | rfl | rfl, rfl | rfl | rfl | rfl⟩ <;> decide +kernel
  · rw [if_neg hg, if_neg hg]
theorem impl_CountGaps_eq (w h : Int) : impl_CountGaps.f w h = some (nGaps w h) := by
  unfold impl_CountGaps.f nGaps
  rw [impl_GridOk_eq]; simp only [Option.bind_some]
  by_cases hg : gOk w h = true
  · rw [if_pos hg, if_pos hg]
    rcases gOk_cases hg with ⟨rfl | rfl | rfl | rfl, rfl | rfl | rfl | rfl⟩ <;> decide +kernel
  · rw [if_neg hg, if_neg hg]
def mOk (w h o : Int) : Bool := gOk w h && (decide (0 ≤ o) && decide (o < shl .i64 1 (nGaps w h)))
theorem mOk_iff {w h o : Int} : mOk w h o = true ↔ gOk w h = true ∧ 0 ≤ o ∧ o < 2 ^ (nGaps w h).toNat := by
  unfold mOk
  have := nGaps_bd w h
  rw [shl_one (by omega) (by omega)]
  simp only [Bool.and_eq_true, decide_eq_true_eq]
theorem mOk_bd {w h o : Int} (hm : mOk w h o = true) : 0 ≤ o ∧ o < 16777216 := by
  obtain ⟨_, h0, h1⟩ := mOk_iff.1 hm
  have := nGaps_bd w h
  have h2 := Nat.pow_le_pow_right (n := 2) (by omega) (show (nGaps w h).toNat ≤ 24 by omega)
  have h3 : (2 : Int) ^ (nGaps w h).toNat ≤ 2 ^ 24 := by exact_mod_cast h2
  omega
theorem spec_MazeOk_eq (w h o : Int) : spec_MazeOk.f w h o = some (mOk w h o) := by
  unfold spec_MazeOk.f mOk
  have hb := nGaps_bd w h
  have hs := shl_pos (g := nGaps w h) (by omega) (by omega)
  simp only [spec_GridOk_eq, spec_CountGaps_eq, l01In_eq, Option.bind_some]
  rw [if_pos hb.1, w64_id (by omega) (by omega)]
  by_cases hg : gOk w h = true
  · rw [if_pos hg, hg, Bool.true_and]
    congr 2
    rw [Bool.eq_iff_iff]; simp only [decide_eq_true_eq]; omega
  · rw [if_neg hg]; simp [hg]
theorem impl_MazeOk_eq (w h o : Int) : impl_MazeOk.f w h o = some (mOk w h o) := by
  unfold impl_MazeOk.f mOk
  have hb := nGaps_bd w h
  simp only [impl_GridOk_eq, impl_CountGaps_eq, Option.bind_some]
  rw [if_pos hb.1]
  by_cases hg : gOk w h = true
  · rw [if_pos hg, hg, Bool.true_and]
    by_cases h0 : 0 ≤ o
    · rw [if_pos h0]; simp [h0]
    · rw [if_neg h0]; simp [h0]
  · rw [if_neg hg]; simp [hg]
theorem l03Bit_eq {o g : Int} (ho : 0 ≤ o) (ho2 : o ≤ 9223372036854775807) (hg0 : 0 ≤ g) (hg : g ≤ 64) : spec_l03Bit.f o g = some (bitAt o g) := by
  unfold spec_l03Bit.f
  rw [if_pos hg0, bit_test ho ho2 hg]
def pcN (o : Nat) : Nat → Nat
  | 0 => 0
  | n + 1 => pcN o n + (if o.testBit n then 1 else 0)
theorem pcN_le (o n : Nat) : pcN o n ≤ n := by
  induction n with
  | zero => simp [pcN]
  | succ n ih => simp only [pcN]; split <;> omega
theorem tb_hi (b t i : Nat) (hb : b < 256) : (256 * t + b).testBit i = if i < 8 then b.testBit i else t.testBit (i - 8) := by
  have := Nat.testBit_two_pow_mul_add t (i := 8) (show b < 2 ^ 8 by omega) i
  simpa using this
theorem and_byte (b t m M : Nat) (hb : b < 256) (hm : m < 256) : (256 * t + b) &&& (256 * M + m) = 256 * (t &&& M) + (b &&& m) := by
  have hbm : b &&& m < 256 := Nat.lt_of_le_of_lt Nat.and_le_left hb
  apply Nat.eq_of_testBit_eq
  intro i
  rw [Nat.testBit_and, tb_hi b t i hb, tb_hi m M i hm, tb_hi (b &&& m) (t &&& M) i hbm, Nat.testBit_and, Nat.testBit_and]
  split <;> rfl
theorem and_three (b0 b1 b2 m M : Nat) (h0 : b0 < 256) (h1 : b1 < 256) (hm : m < 256) : (256 * (256 * b2 + b1) + b0) &&& (256 * (256 * (256 * M + m) + m) + m) = 256 * (256 * (b2 &&& (256 * M + m)) + (b1 &&& m)) + (b0 &&& m) := by
  rw [and_byte _ _ _ _ h0 hm, and_byte _ _ _ _ h1 hm]
theorem and_top (b m M : Nat) (h : b < 256) (hm : m < 256) : b &&& (256 * M + m) = b &&& m := by
  have := and_byte b 0 m M h hm
  simpa using this
theorem pc_byte (b t n : Nat) (hb : b < 256) : pcN (256 * t + b) (8 + n) = pcN b 8 + pcN t n := by
  induction n with
  | zero =>
    simp only [pcN, Nat.add_zero, tb_hi b t _ hb]
    simp
  | succ n ih =>
    rw [show 8 + (n + 1) = (8 + n) + 1 by omega]
    rw [show pcN (256 * t + b) (8 + n + 1) = pcN (256 * t + b) (8 + n) + (if (256 * t + b).testBit (8 + n) then 1 else 0) from rfl, show pcN t (n + 1) = pcN t n + (if t.testBit n then 1 else 0) from rfl, ih, tb_hi b t _ hb, if_neg (show ¬ 8 + n < 8 by omega), show 8 + n - 8 = n by omega]
    omega
def stA (b : Nat) : Nat := (b / 2 &&& 85) + (b &&& 85)
def stB (b : Nat) : Nat := (b / 4 &&& 51) + (b &&& 51)
theorem st_all : (∀ b : Fin 256, ∀ e : Fin 2, ((b.val / 2 + 128 * e.val) &&& 85) = (b.val / 2 &&& 85)) ∧ (∀ b : Fin 256, ∀ e : Fin 4, ((b.val / 4 + 64 * e.val) &&& 51) = (b.val / 4 &&& 51)) ∧ (∀ b : Fin 256, stA b.val < 256 ∧ stB (stA b.val) ≤ 68 ∧ stB (stA b.val) % 16 ≤ 4 ∧ stB (stA b.val) / 16 + stB (stA b.val) % 16 = pcN b.val 8) := by decide +kernel
theorem stage1 (b0 b1 b2 : Nat) (h0 : b0 < 256) (h1 : b1 < 256) (h2 : b2 < 256) : ((256 * (256 * b2 + b1) + b0) / 2 &&& 6148914691236517205) + ((256 * (256 * b2 + b1) + b0) &&& 6148914691236517205) = 256 * (256 * stA b2 + stA b1) + stA b0 := by
  have s := st_all.1
  have e0 := s ⟨b0, h0⟩ ⟨b1 % 2, by omega⟩
  have e1 := s ⟨b1, h1⟩ ⟨b2 % 2, by omega⟩
  simp only at e0 e1
  rw [show (256 * (256 * b2 + b1) + b0) / 2 = 256 * (256 * (b2 / 2) + (b1 / 2 + 128 * (b2 % 2))) + (b0 / 2 + 128 * (b1 % 2)) by omega, show 6148914691236517205 = 256 * (256 * (256 * 366503875925 + 85) + 85) + 85 by rfl,
    and_three _ _ _ _ _ (by omega) (by omega) (by omega), and_three _ _ _ _ _ h0 h1 (by omega), and_top _ _ _ (by omega) (by omega), and_top _ _ _ h2 (by omega), e0, e1]
  unfold stA
  omega
theorem stage2 (b0 b1 b2 : Nat) (h0 : b0 < 256) (h1 : b1 < 256) (h2 : b2 < 256) : ((256 * (256 * b2 + b1) + b0) / 4 &&& 3689348814741910323) + ((256 * (256 * b2 + b1) + b0) &&& 3689348814741910323) = 256 * (256 * stB b2 + stB b1) + stB b0 := by
  have s := st_all.2.1
  have e0 := s ⟨b0, h0⟩ ⟨b1 % 4, by omega⟩
  have e1 := s ⟨b1, h1⟩ ⟨b2 % 4, by omega⟩
  simp only at e0 e1
  rw [show (256 * (256 * b2 + b1) + b0) / 4 = 256 * (256 * (b2 / 4) + (b1 / 4 + 64 * (b2 % 4))) + (b0 / 4 + 64 * (b1 % 4)) by omega, show 3689348814741910323 = 256 * (256 * (256 * 219902325555 + 51) + 51) + 51 by rfl,
    and_three _ _ _ _ _ (by omega) (by omega) (by omega), and_three _ _ _ _ _ h0 h1 (by omega), and_top _ _ _ (by omega) (by omega), and_top _ _ _ h2 (by omega), e0, e1]
  unfold stB
  omega
theorem stage3 (c0 c1 c2 : Nat) (h0 : c0 ≤ 68) (h1 : c1 ≤ 68) (h2 : c2 ≤ 68) (g0 : c0 % 16 ≤ 4) (g1 : c1 % 16 ≤ 4) (g2 : c2 % 16 ≤ 4) : ((256 * (256 * c2 + c1) + c0) / 16 + (256 * (256 * c2 + c1) + c0)) &&& 1085102592571150095 = 256 * (256 * (c2 / 16 + c2 % 16) + (c1 / 16 + c1 % 16)) + (c0 / 16 + c0 % 16) := by
  rw [show (256 * (256 * c2 + c1) + c0) / 16 + (256 * (256 * c2 + c1) + c0) = 256 * (256 * (c2 / 16 + c2) + (c1 / 16 + 16 * (c2 % 16) + c1)) + (c0 / 16 + 16 * (c1 % 16) + c0) by omega, show 1085102592571150095 = 256 * (256 * (256 * 64677154575 + 15) + 15) + 15 by rfl,
    and_three _ _ _ _ _ (by omega) (by omega) (by omega), and_top _ _ _ (by omega) (by omega)]
  have a15 : ∀ x : Nat, x &&& 15 = x % 16 := fun x => Nat.and_two_pow_sub_one_eq_mod x 4
  have z0 : (c0 / 16 + 16 * (c1 % 16) + c0) % 16 = c0 / 16 + c0 % 16 := by omega
  have z1 : (c1 / 16 + 16 * (c2 % 16) + c1) % 16 = c1 / 16 + c1 % 16 := by omega
  have z2 : (c2 / 16 + c2) % 16 = c2 / 16 + c2 % 16 := by omega
  rw [a15, a15, a15, z0, z1, z2]
def pop64 (x : Nat) : Nat :=
  let y1 := (x / 2 &&& 6148914691236517205) + (x &&& 6148914691236517205)
  let y2 := (y1 / 4 &&& 3689348814741910323) + (y1 &&& 3689348814741910323)
  let y3 := (y2 / 16 + y2) &&& 1085102592571150095
  let y4 := y3 + y3 / 256
  let y5 := y4 + y4 / 65536
  (y5 + y5 / 4294967296) &&& 127
theorem pop64_eq (x : Nat) (hx : x < 16777216) : pop64 x = pcN x 24 ∧ (x / 2 &&& 6148914691236517205) + (x &&& 6148914691236517205) < 16777216 ∧ (((x / 2 &&& 6148914691236517205) + (x &&& 6148914691236517205)) / 4 &&& 3689348814741910323) + (((x / 2 &&& 6148914691236517205) + (x &&& 6148914691236517205)) &&& 3689348814741910323) < 16777216 := by
  obtain ⟨b0, b1, b2, rfl, h0, h1, h2⟩ : ∃ b0 b1 b2 : Nat, x = 256 * (256 * b2 + b1) + b0 ∧ b0 < 256 ∧ b1 < 256 ∧ b2 < 256 := ⟨x % 256, x / 256 % 256, x / 65536, by omega, by omega, by omega, by omega⟩
  obtain ⟨p0, p1, p2, p3⟩ := st_all.2.2 ⟨b0, h0⟩
  obtain ⟨q0, q1, q2, q3⟩ := st_all.2.2 ⟨b1, h1⟩
  obtain ⟨r0, r1, r2, r3⟩ := st_all.2.2 ⟨b2, h2⟩
  simp only at p0 p1 p2 p3 q0 q1 q2 q3 r0 r1 r2 r3
  have e1 := stage1 b0 b1 b2 h0 h1 h2
  have e2 := stage2 _ _ _ p0 q0 r0
  have e3 := stage3 _ _ _ p1 q1 r1 p2 q2 r2
  have l0 := pcN_le b0 8
  have l1 := pcN_le b1 8
  have l2 := pcN_le b2 8
  have hp : pcN (256 * (256 * b2 + b1) + b0) 24 = pcN b0 8 + (pcN b1 8 + pcN b2 8) := by
    have z1 := pc_byte b0 (256 * b2 + b1) 16 h0
    have z2 := pc_byte b1 b2 8 h1
    rw [z2] at z1; exact z1
  refine ⟨?_, ?_, ?_⟩
  · unfold pop64
    simp only []
    rw [e1, e2, e3, p3, q3, r3, hp, show (127 : Nat) = 2 ^ 7 - 1 by rfl, Nat.and_two_pow_sub_one_eq_mod]
    clear hp e1 e2 e3 p0 p1 p2 p3 q0 q1 q2 q3 r0 r1 r2 r3
    generalize pcN b0 8 = x0 at l0 ⊢
    generalize pcN b1 8 = x1 at l1 ⊢
    generalize pcN b2 8 = x2 at l2 ⊢
    have f1 : (256 * (256 * x2 + x1) + x0) / 256 = 256 * x2 + x1 := by omega
    rw [f1]
    have f2 : (256 * (256 * x2 + x1) + x0 + (256 * x2 + x1)) / 65536 = x2 := by omega
    rw [f2]
    have f3 : (256 * (256 * x2 + x1) + x0 + (256 * x2 + x1) + x2) / 4294967296 = 0 := by omega
    rw [f3]
    omega
  · rw [e1]; omega
  · rw [e1, e2]; omega
theorem u64_wrap {x : Int} (h0 : 0 ≤ x) (h1 : x < 18446744073709551616) : IntKind.u64.wrap x = x := by
  unfold IntKind.wrap
  simp only [IntKind.bits, IntKind.signed, Bool.false_and, Bool.false_eq_true, if_false]
  exact Int.emod_eq_of_lt h0 (by simpa using h1)
theorem u64_add (x y : Nat) (h : x + y < 18446744073709551616) : IntKind.u64.wrap ((x : Int) + (y : Int)) = ((x + y : Nat) : Int) := by
  rw [u64_wrap (by omega) (by omega)]; simp
theorem and_u64 (x y : Nat) (hx : x < 18446744073709551616) (hy : y < 18446744073709551616) : Go.bits .and .u64 (x : Int) (y : Int) = ((x &&& y : Nat) : Int) := by
  show IntKind.u64.wrap (((BitVec.ofInt 64 (x : Int)) &&& (BitVec.ofInt 64 (y : Int))).toNat : Int) = _
  rw [ofInt_nat, ofInt_nat]
  simp only [BitVec.toNat_and, BitVec.toNat_ofNat]
  rw [Nat.mod_eq_of_lt (by omega), Nat.mod_eq_of_lt (by omega)]
  have := Nat.and_le_left (n := x) (m := y)
  exact u64_wrap (by omega) (by omega)
theorem y3_bd (y : Nat) (hy : y < 16777216) : (y / 16 + y) &&& 1085102592571150095 < 33554432 := by
  have := Nat.and_le_left (n := y / 16 + y) (m := 1085102592571150095)
  omega
theorem OnesCount64_eq (x : Nat) (hx : x < 16777216) : bits_OnesCount64.f (x : Int) = some ((pcN x 24 : Nat) : Int) := by
  obtain ⟨e, l1, l2⟩ := pop64_eq x hx
  have a1 : IntKind.u64.wrap ((Go.bits .and .u64 ((x : Int) / 2) 6148914691236517205) + (Go.bits .and .u64 (x : Int) 6148914691236517205)) = (((x / 2 &&& 6148914691236517205) + (x &&& 6148914691236517205) : Nat) : Int) := by
    rw [show ((x : Int) / 2) = ((x / 2 : Nat) : Int) by omega, show (6148914691236517205 : Int) = ((6148914691236517205 : Nat) : Int) from rfl, and_u64 _ _ (by omega) (by omega), and_u64 _ _ (by omega) (by omega), u64_add _ _ (by omega)]
  unfold bits_OnesCount64.f
  rw [a1]
  generalize hy1 : (x / 2 &&& 6148914691236517205) + (x &&& 6148914691236517205) = y1 at l1 l2 e ⊢
  have a2 : IntKind.u64.wrap ((Go.bits .and .u64 ((y1 : Int) / 4) 3689348814741910323) + (Go.bits .and .u64 (y1 : Int) 3689348814741910323)) = (((y1 / 4 &&& 3689348814741910323) + (y1 &&& 3689348814741910323) : Nat) : Int) := by
    rw [show ((y1 : Int) / 4) = ((y1 / 4 : Nat) : Int) by omega, show (3689348814741910323 : Int) = ((3689348814741910323 : Nat) : Int) from rfl, and_u64 _ _ (by omega) (by omega), and_u64 _ _ (by omega) (by omega), u64_add _ _ (by omega)]
  rw [a2]
  generalize hy2 : (y1 / 4 &&& 3689348814741910323) + (y1 &&& 3689348814741910323) = y2 at l2 e ⊢
  have a3 : Go.bits .and .u64 (IntKind.u64.wrap (((y2 : Int) / 16) + (y2 : Int))) 1085102592571150095 = (((y2 / 16 + y2) &&& 1085102592571150095 : Nat) : Int) := by
    rw [show ((y2 : Int) / 16) = ((y2 / 16 : Nat) : Int) by omega, u64_add _ _ (by omega), show (1085102592571150095 : Int) = ((1085102592571150095 : Nat) : Int) from rfl, and_u64 _ _ (by omega) (by omega)]
  rw [a3]
  have b3 := y3_bd y2 l2
  generalize hy3 : (y2 / 16 + y2) &&& 1085102592571150095 = y3 at b3 e ⊢
  have a4 : IntKind.u64.wrap ((y3 : Int) + ((y3 : Int) / 256)) = ((y3 + y3 / 256 : Nat) : Int) := by
    rw [show ((y3 : Int) / 256) = ((y3 / 256 : Nat) : Int) by omega, u64_add _ _ (by omega)]
  rw [a4]
  have b4 : y3 + y3 / 256 < 67108864 := by omega
  generalize hy4 : y3 + y3 / 256 = y4 at b4 e ⊢
  have a5 : IntKind.u64.wrap ((y4 : Int) + ((y4 : Int) / 65536)) = ((y4 + y4 / 65536 : Nat) : Int) := by
    rw [show ((y4 : Int) / 65536) = ((y4 / 65536 : Nat) : Int) by omega, u64_add _ _ (by omega)]
  rw [a5]
  have b5 : y4 + y4 / 65536 < 134217728 := by omega
  generalize hy5 : y4 + y4 / 65536 = y5 at b5 e ⊢
  have a6 : IntKind.u64.wrap ((y5 : Int) + ((y5 : Int) / 4294967296)) = ((y5 + y5 / 4294967296 : Nat) : Int) := by
    rw [show ((y5 : Int) / 4294967296) = ((y5 / 4294967296 : Nat) : Int) by omega, u64_add _ _ (by omega)]
  rw [a6, w64_id (by omega) (by omega), show (127 : Int) = ((127 : Nat) : Int) from rfl, bits_and_nat (by omega) (by omega), ← e]
  unfold pop64
  simp only [hy1, hy2, hy3, hy4, hy5]
def pcnt (w h o : Int) : Int := if mOk w h o = true then ((pcN o.toNat (nGaps w h).toNat : Nat) : Int) else 0
theorem pcN_top (x n m : Nat) (hx : x < 2 ^ n) (hn : n ≤ m) : pcN x m = pcN x n := by
  induction m with
  | zero => obtain rfl : n = 0 := by omega
            rfl
  | succ m ih =>
    by_cases e : n = m + 1
    · rw [e]
    · have hm : n ≤ m := by omega
      have : x.testBit m = false := Nat.testBit_lt_two_pow (Nat.lt_of_lt_of_le hx (Nat.pow_le_pow_right (by omega) hm))
      simp only [pcN, this]
      rw [ih hm]; simp
theorem open_nat {w h o : Int} (hm : mOk w h o = true) : o.toNat < 2 ^ (nGaps w h).toNat ∧ o.toNat < 16777216 ∧ ((o.toNat : Nat) : Int) = o := by
  obtain ⟨_, h0, h1⟩ := mOk_iff.1 hm
  have hb := mOk_bd hm
  have : ((o.toNat : Nat) : Int) < ((2 ^ (nGaps w h).toNat : Nat) : Int) := by rw [Int.toNat_of_nonneg h0]; simpa using h1
  exact ⟨by exact_mod_cast this, by omega, by omega⟩
theorem impl_CountPassages_eq (w h o : Int) : impl_CountPassages.f w h o = some (pcnt w h o) := by
  unfold impl_CountPassages.f pcnt
  rw [impl_MazeOk_eq]; simp only [Option.bind_some]
  by_cases hm : mOk w h o = true
  · obtain ⟨o1, o2, o3⟩ := open_nat hm
    have hn := nGaps_bd w h
    rw [if_pos hm, if_pos hm, u64_wrap (by omega) (by omega)]
    unfold bits_OnesCount.f
    rw [← o3, OnesCount64_eq _ o2]
    simp only [Option.bind_some, Int.toNat_natCast]
    rw [pcN_top _ _ 24 o1 (by omega)]
  · rw [if_neg hm, if_neg hm]
theorem spec_CP_loop {w h o : Int} (hm : mOk w h o = true) (d : Nat) : ∀ (k : Nat) (i : Nat), (i : Int) ≤ nGaps w h → (nGaps w h).toNat - i ≤ d → 2 * d + 1 < k → spec_CountPassages.l0 k ((pcN o.toNat i : Nat) : Int) i w h o = some ((pcN o.toNat (nGaps w h).toNat : Nat) : Int) := by
  have hb := mOk_bd hm
  have hn := nGaps_bd w h
  induction d with
  | zero =>
    intro k i hi hd hk
    obtain ⟨k, rfl⟩ : ∃ m, k = m + 1 + 1 := ⟨k - 2, by omega⟩
    simp only [spec_CountPassages.l0, spec_CountPassages.j1, spec_CountGaps_eq, Option.bind_some]
    rw [if_neg (by omega), if_neg (by decide), show (nGaps w h).toNat = i by omega]
  | succ d ih =>
    intro k i hi hd hk
    obtain ⟨k, rfl⟩ : ∃ m, k = m + 1 + 1 := ⟨k - 2, by omega⟩
    have hp := pcN_le o.toNat i
    simp only [spec_CountPassages.l0, spec_CountPassages.j1, spec_CountGaps_eq, spec_MazeOk_eq, Option.bind_some]
    by_cases z : (i : Int) < nGaps w h
    · rw [if_pos z, if_pos hm, l03Bit_eq hb.1 (by omega) (by omega) (by omega), w64_id (x := (i : Int) + 1) (by omega) (by omega), w64_id (by omega) (by omega)]
      simp only [Option.bind_some]
      have hgo := ih k (i + 1) (by omega) (by omega) (by omega)
      simp only [pcN] at hgo
      unfold bitAt
      rw [Int.toNat_natCast]
      by_cases hbit : o.toNat.testBit i = true
      · rw [if_pos hbit] at hgo ⊢; simpa using hgo
      · rw [if_neg hbit] at hgo ⊢; simpa using hgo
    · rw [if_neg z, if_neg (by decide), show (nGaps w h).toNat = i by omega]
theorem spec_CountPassages_eq (k : Nat) (w h o : Int) : spec_CountPassages.f (k + 60) w h o = some (pcnt w h o) := by
  unfold spec_CountPassages.f pcnt
  have hn := nGaps_bd w h
  by_cases hm : mOk w h o = true
  · rw [if_pos hm]
    exact spec_CP_loop hm (nGaps w h).toNat (k + 60) 0 (by omega) (by omega) (by omega)
  · rw [if_neg hm]
    obtain ⟨m, hmm⟩ : ∃ m, m = k + 58 := ⟨_, rfl⟩
    rw [show k + 60 = m + 1 + 1 by omega]
    simp only [spec_CountPassages.l0, spec_CountPassages.j1, spec_CountGaps_eq, spec_MazeOk_eq, Option.bind_some]
    rw [Bool.eq_false_iff.2 hm]
    split <;> simp
theorem FnExactCountPassages : laws_FnExactCountPassages.Pure := by
  intro w h o _ _ _
  obtain ⟨K, hK⟩ : ∃ K, K = 60 := ⟨_, rfl⟩
  refine ⟨K, ?_⟩
  unfold laws_FnExactCountPassages.f
  have e := spec_CountPassages_eq 0 w h o
  rw [Nat.zero_add, ← hK] at e
  simp only [toMaze_eq, e, impl_CountPassages_eq, Option.bind_some, if_pos]

end Go.Proofs.Ytalobhnjecefpaa.Pure
