/- The plain law FnFieldsAgain: for every input that its Go types allow, the printed functions of the program and of the reference answer so that the law's own function says true. No further condition. -/
import Derived.Test.YtcocebkmfmiaeaaDoorQx0
import Derived.Test.YtcocebkmfmiaeaaDoorQx10
import Derived.Test.YtcocebkmfmiaeaaDoorQx11
import Derived.Test.YtcocebkmfmiaeaaDoorQx12
import Derived.Test.YtcocebkmfmiaeaaDoorQx13
import Derived.Test.YtcocebkmfmiaeaaDoorQx14
import Derived.Test.YtcocebkmfmiaeaaDoorQx15
import Derived.Test.YtcocebkmfmiaeaaDoorQx16
import Derived.Test.YtcocebkmfmiaeaaDoorQx17
import Derived.Test.YtcocebkmfmiaeaaDoorQx18
import Derived.Test.YtcocebkmfmiaeaaDoorQx19
import Derived.Test.YtcocebkmfmiaeaaDoorQx2
import Derived.Test.YtcocebkmfmiaeaaDoorQx22
import Derived.Test.YtcocebkmfmiaeaaDoorQx23
import Derived.Test.YtcocebkmfmiaeaaDoorQx27
import Derived.Test.YtcocebkmfmiaeaaDoorQx28
import Derived.Test.YtcocebkmfmiaeaaDoorQx29
import Derived.Test.YtcocebkmfmiaeaaDoorQx3
import Derived.Test.YtcocebkmfmiaeaaDoorQx30
import Derived.Test.YtcocebkmfmiaeaaDoorQx5
import Derived.Test.YtcocebkmfmiaeaaDoorQx6
import Derived.Test.YtcocebkmfmiaeaaDoorQx8
import Derived.Test.YtcocebkmfmiaeaaDoorQx9
namespace Go.Proofs.YtcocebkmfmiaeaaDoor.Q.P
open Go.RowKit Go.Proofs.YtcocebkmfmiaeaaDoor.Q Go.Proofs.YtcocebkmfmiaeaaDoorW.PrintWords Go.Proofs.YtcocebkmfmiaeaaDoorW.PrintLast
set_option linter.unusedVariables false
set_option linter.unusedSimpArgs false

theorem w64_id {x : Int} (h0 : -9223372036854775808 ≤ x) (h1 : x ≤ 9223372036854775807) : wrap64 x = x := by
 unfold wrap64; omega
theorem shl_one {g : Int} (h0 : 0 ≤ g) (h1 : g ≤ 62) : shl .i64 1 g = 2 ^ g.toNat := by
 unfold shl
 rw [i64_w, Nat.min_eq_left (by simp only [IntKind.bits]; omega), Int.one_mul]
 have : (2 : Int) ^ g.toNat ≤ 2 ^ 62 := by
  have := Nat.pow_le_pow_right (n := 2) (by omega) (show g.toNat ≤ 62 by omega)
  exact_mod_cast this
 have h3 : (0 : Int) < 2 ^ g.toNat := by exact_mod_cast Nat.pow_pos (by omega)
 exact w64_id (by omega) (by omega)
theorem shl_pos {g : Int} (h0 : 0 ≤ g) (h1 : g ≤ 62) : 0 < shl .i64 1 g ∧ shl .i64 1 g ≤ 4611686018427387904 := by
 rw [shl_one h0 h1]
 have : (2 : Int) ^ g.toNat ≤ 2 ^ 62 := by
  have := Nat.pow_le_pow_right (n := 2) (by omega) (show g.toNat ≤ 62 by omega)
  exact_mod_cast this
 have h3 : (0 : Int) < 2 ^ g.toNat := by exact_mod_cast Nat.pow_pos (by omega)
 exact ⟨h3, by omega⟩
theorem bits_and_255 (y : Int) : 0 ≤ Go.bits .and .i64 y 255 ∧ Go.bits .and .i64 y 255 ≤ 255 := by
 have e : Go.bits .and .i64 y 255 = (((BitVec.ofInt 64 y) &&& (BitVec.ofInt 64 255)).toNat : Int) := by
  show IntKind.i64.wrap (((BitVec.ofInt 64 y) &&& (BitVec.ofInt 64 255)).toNat : Int) = _
  rw [i64_w]
  have h1 : ((BitVec.ofInt 64 y) &&& (BitVec.ofInt 64 255)).toNat ≤ 255 := by rw [BitVec.toNat_and]; exact Nat.and_le_right
  exact w64_id (by omega) (by omega)
 have h1 : ((BitVec.ofInt 64 y) &&& (BitVec.ofInt 64 255)).toNat ≤ 255 := by rw [BitVec.toNat_and]; exact Nat.and_le_right
 omega
def gOk (w h : Int) : Bool := decide (1 ≤ w) && decide (w ≤ 4) && decide (1 ≤ h) && decide (h ≤ 4)
theorem gOk_iff {w h : Int} : gOk w h = true ↔ 1 ≤ w ∧ w ≤ 4 ∧ 1 ≤ h ∧ h ≤ 4 := by
 unfold gOk; simp only [Bool.and_eq_true, decide_eq_true_eq]; omega
theorem gOk_cases {w h : Int} (hg : gOk w h = true) : (w = 1 ∨ w = 2 ∨ w = 3 ∨ w = 4) ∧ (h = 1 ∨ h = 2 ∨ h = 3 ∨ h = 4) := by
 have := gOk_iff.1 hg; omega
def nCells (w h : Int) : Int := if gOk w h = true then w * h else 0
def nGaps (w h : Int) : Int := if gOk w h = true then (w - 1) * h + w * (h - 1) else 0
def nCorn (w h : Int) : Int := if gOk w h = true then (w + 1) * (h + 1) else 0
def nEast (w h : Int) : Int := (w - 1) * h
theorem nGaps_bd (w h : Int) : 0 ≤ nGaps w h ∧ nGaps w h ≤ 24 := by
 unfold nGaps
 split
 ·rename_i hg; rcases gOk_cases hg with ⟨rfl | rfl | rfl | rfl, rfl | rfl | rfl | rfl⟩ <;> decide +kernel
 ·omega
theorem l01In_eq (a b c : Int) : spec_l01In.f a b c = some (decide (b ≤ a) && decide (a ≤ c)) := by
 unfold spec_l01In.f
 by_cases h : a ≥ b
 ·rw [if_pos h]; simp [show b ≤ a from h]
 ·rw [if_neg h]; simp [show ¬ b ≤ a from h]
theorem spec_GridOk_eq (w h : Int) : spec_GridOk.f w h = some (gOk w h) := by
 unfold spec_GridOk.f gOk
 simp only [l01In_eq, Option.bind_some]
 by_cases h1 : 1 ≤ w <;> by_cases h2 : w ≤ 4 <;> simp [h1, h2]
theorem impl_GridOk_eq (w h : Int) : impl_GridOk.f w h = some (gOk w h) := by
 unfold impl_GridOk.f gOk
 by_cases h1 : 1 ≤ w <;> by_cases h2 : w ≤ 4 <;> by_cases h3 : 1 ≤ h <;> simp [h1, h2, h3]
theorem toMaze_eq (w h o : Int) : laws_toMaze.f w h o = some (w, h, o) := rfl
theorem l02East_eq {w h : Int} (hg : gOk w h = true) : spec_l02East.f w h = some (nEast w h) := by
 unfold spec_l02East.f nEast
 rcases gOk_cases hg with ⟨rfl | rfl | rfl | rfl, rfl | rfl | rfl | rfl⟩ <;> decide +kernel
theorem spec_CountGaps_eq (w h : Int) : spec_CountGaps.f w h = some (nGaps w h) := by
 unfold spec_CountGaps.f nGaps
 rw [spec_GridOk_eq]; simp only [Option.bind_some]
 by_cases hg : gOk w h = true
 ·rw [if_pos hg, if_pos hg, l02East_eq hg]
  rcases gOk_cases hg with ⟨rfl | rfl | rfl | rfl, rfl | rfl | rfl | rfl⟩ <;> decide +kernel
 ·rw [if_neg hg, if_neg hg]
theorem impl_CountGaps_eq (w h : Int) : impl_CountGaps.f w h = some (nGaps w h) := by
 unfold impl_CountGaps.f nGaps
 rw [impl_GridOk_eq]; simp only [Option.bind_some]
 by_cases hg : gOk w h = true
 ·rw [if_pos hg, if_pos hg]
  rcases gOk_cases hg with ⟨rfl | rfl | rfl | rfl, rfl | rfl | rfl | rfl⟩ <;> decide +kernel
 ·rw [if_neg hg, if_neg hg]
def mOk (w h o : Int) : Bool := gOk w h && (decide (0 ≤ o) && decide (o < shl .i64 1 (nGaps w h)))
theorem mOk_iff {w h o : Int} : mOk w h o = true ↔ gOk w h = true ∧ 0 ≤ o ∧ o < 2 ^ (nGaps w h).toNat := by
 unfold mOk
 have := nGaps_bd w h
 rw [shl_one (by omega) (by omega)]
 simp only [Bool.and_eq_true, decide_eq_true_eq]
theorem mOk_bd {w h o : Int} (hm : mOk w h o = true) : 0 ≤ o ∧ o < 16777216 := by
 obtain ⟨_, h0, h1⟩ := mOk_iff.1 hm
 have := nGaps_bd w h
 have h2 := Nat.pow_le_pow_right (n := 2) (by omega) (show (nGaps w h).toNat ≤ 24 by omega)
 have h3 : (2 : Int) ^ (nGaps w h).toNat ≤ 2 ^ 24 := by exact_mod_cast h2
 omega
theorem spec_MazeOk_eq (w h o : Int) : spec_MazeOk.f w h o = some (mOk w h o) := by
 unfold spec_MazeOk.f mOk
 have hb := nGaps_bd w h
 have hs := shl_pos (g := nGaps w h) (by omega) (by omega)
 simp only [spec_GridOk_eq, spec_CountGaps_eq, l01In_eq, Option.bind_some]
 rw [if_pos hb.1, w64_id (by omega) (by omega)]
 by_cases hg : gOk w h = true
 ·rw [if_pos hg, hg, Bool.true_and]
  congr 2
  rw [Bool.eq_iff_iff]; simp only [decide_eq_true_eq]; omega
 ·rw [if_neg hg]; simp [hg]
theorem impl_MazeOk_eq (w h o : Int) : impl_MazeOk.f w h o = some (mOk w h o) := by
 unfold impl_MazeOk.f mOk
 have hb := nGaps_bd w h
 simp only [impl_GridOk_eq, impl_CountGaps_eq, Option.bind_some]
 rw [if_pos hb.1]
 by_cases hg : gOk w h = true
 ·rw [if_pos hg, hg, Bool.true_and]
  by_cases h0 : 0 ≤ o
  ·rw [if_pos h0]; simp [h0]
  ·rw [if_neg h0]; simp [h0]
 ·rw [if_neg hg]; simp [hg]
theorem l01New_tot (l : List Int) (hl : l.length ≤ 140737488351232) (d : Nat) : ∀ (k : Nat) (h i : Int), 0 ≤ i → (l.length : Int) - i ≤ d → d < k → ∃ h', spec_l01New.l0 k l h i = some (l, 0, h') := by
 induction d with
 | zero =>
  intro k h i h0 hd hk
  obtain ⟨k, rfl⟩ : ∃ m, k = m + 1 := ⟨k - 1, by omega⟩
  simp only [spec_l01New.l0]; rw [if_neg (by omega)]; exact ⟨_, rfl⟩
 | succ d ih =>
  intro k h i h0 hd hk
  obtain ⟨k, rfl⟩ : ∃ m, k = m + 1 := ⟨k - 1, by omega⟩
  simp only [spec_l01New.l0]
  by_cases h1 : i < (l.length : Int)
  ·rw [if_pos h1]
   by_cases h2 : i < 4000
   ·rw [if_pos h2, if_pos h0, w64_id (x := i + 1) (by omega) (by omega)]
    exact ih _ _ _ (by omega) (by omega) (by omega)
   ·rw [if_neg h2]; exact ⟨_, rfl⟩
  ·rw [if_neg h1]; exact ⟨_, rfl⟩
theorem l01New_eq (l : List Int) (hl : l.length ≤ 140737488351232) (k : Nat) (hk : l.length < k) : ∃ h', spec_l01New.f k l = some (l, 0, h') := by
 unfold spec_l01New.f
 exact l01New_tot l hl l.length k _ _ (by omega) (by omega) hk
theorem l01Byte_tot (l : List Int) (hl : l.length ≤ 140737488351232) (i h : Int) (h0 : 0 ≤ i) : ∃ x i' h', spec_l01Byte.f l i h = some (x, i', h') ∧ 0 ≤ x ∧ x ≤ 255 ∧ 0 ≤ i' := by
 unfold spec_l01Byte.f
 by_cases h1 : i < (l.length : Int)
 ·rw [if_pos h1, if_pos h0, w64_id (x := i + 1) (by omega) (by omega)]
  exact ⟨_, _, _, rfl, (bits_and_255 _).1, (bits_and_255 _).2, by omega⟩
 ·rw [if_neg h1]
  exact ⟨_, _, _, rfl, (bits_and_255 _).1, (bits_and_255 _).2, h0⟩
theorem l01Below_tot (l : List Int) (hl : l.length ≤ 140737488351232) (i h n : Int) (h0 : 0 ≤ i) : ∃ x i' h', spec_l01Below.f l i h n = some (x, i', h') ∧ 0 ≤ x ∧ (0 < n → x < n) ∧ (n ≤ 0 → x = 0) ∧ 0 ≤ i' := by
 unfold spec_l01Below.f
 by_cases h1 : n ≤ 0
 ·rw [if_pos h1]; exact ⟨_, _, _, rfl, by omega, by omega, fun _ => rfl, h0⟩
 ·rw [if_neg h1]
  by_cases h2 : n ≤ 256
  ·rw [if_pos h2]
   obtain ⟨x, i', h', e, x0, x1, i0⟩ := l01Byte_tot l hl i h h0
   rw [e]; simp only [Option.bind_some]
   rw [if_neg (by omega), Int.tmod_eq_emod_of_nonneg x0]
   exact ⟨_, _, _, rfl, Int.emod_nonneg _ (by omega), fun _ => Int.emod_lt_of_pos _ (by omega), fun hh => by omega, i0⟩
  ·rw [if_neg h2]
   obtain ⟨x, i1, h1', e, x0, x1, i0⟩ := l01Byte_tot l hl i h h0
   rw [e]; simp only [Option.bind_some]
   obtain ⟨y, i2, h2', e, y0, y1, i0⟩ := l01Byte_tot l hl i1 h1' i0
   rw [e]; simp only [Option.bind_some]
   obtain ⟨z, i3, h3', e, z0, z1, i0⟩ := l01Byte_tot l hl i2 h2' i0
   rw [e]; simp only [Option.bind_some]
   obtain ⟨u, i4, h4', e, u0, u1, i0⟩ := l01Byte_tot l hl i3 h3' i0
   rw [e]; simp only [Option.bind_some]
   rw [if_neg (by omega), w64_id (x := x * 16777216) (by omega) (by omega), w64_id (x := y * 65536) (by omega) (by omega), w64_id (x := z * 256) (by omega) (by omega), w64_id (x := x * 16777216 + y * 65536) (by omega) (by omega), w64_id (x := x * 16777216 + y * 65536 + z * 256) (by omega) (by omega), w64_id (by omega) (by omega), Int.tmod_eq_emod_of_nonneg (by omega)]
   exact ⟨_, _, _, rfl, Int.emod_nonneg _ (by omega), fun _ => Int.emod_lt_of_pos _ (by omega), fun hh => by omega, i0⟩
theorem l01Once_tot (l : List Int) (hl : l.length ≤ 140737488351232) (i h n : Int) (h0 : 0 ≤ i) : ∃ x i' h', spec_l01Once.f l i h n = some (x, i', h') ∧ 0 ≤ i' := by
 unfold spec_l01Once.f
 obtain ⟨x, i', h', e, x0, _, _, i0⟩ := l01Below_tot l hl i h n h0
 rw [e]; simp only [Option.bind_some]
 exact ⟨_, _, _, rfl, i0⟩
theorem open_nat {w h o : Int} (hm : mOk w h o = true) : o.toNat < 2 ^ (nGaps w h).toNat ∧ o.toNat < 16777216 ∧ ((o.toNat : Nat) : Int) = o := by
 obtain ⟨_, h0, h1⟩ := mOk_iff.1 hm
 have hb := mOk_bd hm
 have : ((o.toNat : Nat) : Int) < ((2 ^ (nGaps w h).toNat : Nat) : Int) := by rw [Int.toNat_of_nonneg h0]; simpa using h1
 exact ⟨by exact_mod_cast this, by omega, by omega⟩
theorem strOfNums_size (a : List Int) : (strOfNums a).size = a.length := by
 show (strOfNums a).data.size = _
 simp [strOfNums]
theorem split_same (k : Nat) : (∀ x0 x4 x5 x6, spec_SplitFields.l0 k x0 x4 x5 x6 = impl_SplitFields.l0 k x0 x4 x5 x6) ∧ (∀ x0 x4 x5 x6 b, spec_SplitFields.j1 k x0 x4 x5 x6 b = impl_SplitFields.j1 k x0 x4 x5 x6 b) ∧ (∀ x0 x4 x5 x6 b, spec_SplitFields.j2 k x0 x4 x5 x6 b = impl_SplitFields.j2 k x0 x4 x5 x6 b) := by
 induction k with
 | zero => exact ⟨fun _ _ _ _ => rfl, fun _ _ _ _ _ => rfl, fun _ _ _ _ _ => rfl⟩
 | succ k ih =>
  obtain ⟨h0, h1, h2⟩ := ih
  refine ⟨fun x0 x4 x5 x6 => ?_, fun x0 x4 x5 x6 b => ?_, fun x0 x4 x5 x6 b => ?_⟩
  ·simp only [spec_SplitFields.l0, impl_SplitFields.l0, h1]
  ·simp only [spec_SplitFields.j1, impl_SplitFields.j1, h2]
  ·simp only [spec_SplitFields.j2, impl_SplitFields.j2, h0, gt_iff_lt]
theorem tl_loop (bs : ByteArray) (d : Nat) : ∀ (i : Nat) (r : List UInt8), bs.size - i = d → ByteArray.toList.loop bs i r = r.reverse ++ bs.data.toList.drop i := by
 induction d with
 | zero =>
  intro i r h
  rw [ByteArray.toList.loop, if_neg (by omega), List.drop_eq_nil_of_le (by show bs.data.toList.length ≤ i; rw [Array.length_toList]; show bs.size ≤ i; omega)]
  simp
 | succ d ih =>
  intro i r h
  have hi : i < bs.data.toList.length := by rw [Array.length_toList]; show i < bs.size; omega
  rw [ByteArray.toList.loop, if_pos (by omega), ih (i + 1) _ (by omega), List.drop_eq_getElem_cons hi, List.reverse_cons, List.append_assoc]
  congr 1
  show bs.get! i :: _ = _
  congr 1
  have hi2 : i < bs.size := by omega
  show bs.data[i]! = _
  rw [getElem!_pos bs.data i hi2]; simp
theorem tl_data (bs : ByteArray) : bs.toList = bs.data.toList := by
 show ByteArray.toList.loop bs 0 [] = _
 rw [tl_loop bs bs.size 0 [] rfl]; simp
theorem ba_ext {a b : ByteArray} (h : a.data.toList = b.data.toList) : a = b := ByteArray.ext (Array.ext' h)
theorem tl_inj {a b : ByteArray} : a.toList = b.toList ↔ a = b := by
 rw [tl_data, tl_data]
 exact ⟨ba_ext, fun h => by rw [h]⟩
def ofL (l : List UInt8) : ByteArray := ⟨l.toArray⟩
theorem ofL_data (l : List UInt8) : (ofL l).data.toList = l := by simp [ofL]
theorem ofL_of (s : ByteArray) : ofL s.data.toList = s := ba_ext (ofL_data _)
theorem ofL_inj {a b : List UInt8} : ofL a = ofL b ↔ a = b := ⟨fun h => by have := congrArg (fun s : ByteArray => s.data.toList) h; simpa [ofL_data] using this, fun h => by rw [h]⟩
theorem ofL_app (a b : List UInt8) : ofL a ++ ofL b = ofL (a ++ b) := by
 apply ba_ext
 rw [ByteArray.data_append]
 simp [ofL]
theorem ofL_size (a : List UInt8) : (ofL a).size = a.length := by
 show (ofL a).data.size = _
 simp [ofL]
theorem bt_ofL (l : List UInt8) (i : Nat) (h : i < l.length) : bt (ofL l) (i : Int) = ((l[i]).toNat : Int) := by
 have hs : i < (ofL l).size := by rw [ofL_size]; exact h
 unfold bt
 rw [dif_pos (by simpa using hs)]
 show (((ofL l).data[i]'hs).toNat : Int) = _
 simp [ofL]
def hor (a : Nat) (l : List UInt8) : Nat := l.foldl (fun a c => 10 * a + (c.toNat - 48)) a
def isDig (c : UInt8) : Bool := decide (48 ≤ c.toNat) && decide (c.toNat ≤ 57)
theorem dig_ok (d : Nat) (h : d < 10) : (UInt8.ofNat (48 + d)).toNat = 48 + d ∧ isDig (UInt8.ofNat (48 + d)) = true := by
 have : ∀ q : Fin 10, (UInt8.ofNat (48 + q.val)).toNat = 48 + q.val ∧ isDig (UInt8.ofNat (48 + q.val)) = true := by decide +kernel
 exact this ⟨d, h⟩
theorem dd_big {u : Nat} (h : ¬ u < 10) : Lib.decDigits u = Lib.decDigits (u / 10) ++ [UInt8.ofNat (48 + u % 10)] := by rw [Lib.decDigits, dif_neg h]
theorem hor_dd (u : Nat) : hor 0 (Lib.decDigits u) = u := by
 induction u using Nat.strongRecOn with
 | _ u ih =>
  by_cases h : u < 10
  ·rw [Lib.decDigits_one h]
   show 10 * 0 + ((UInt8.ofNat (48 + u)).toNat - 48) = u
   rw [(dig_ok u h).1]; omega
  ·rw [dd_big h]
   unfold hor
   rw [List.foldl_append]
   show 10 * (hor 0 (Lib.decDigits (u / 10))) + ((UInt8.ofNat (48 + u % 10)).toNat - 48) = u
   rw [ih (u / 10) (by omega), (dig_ok (u % 10) (by omega)).1]; omega
theorem dd_dig (u : Nat) : (Lib.decDigits u).all isDig = true := by
 induction u using Nat.strongRecOn with
 | _ u ih =>
  by_cases h : u < 10
  ·rw [Lib.decDigits_one h, List.all_cons, (dig_ok u h).2]; rfl
  ·rw [dd_big h, List.all_append, ih (u / 10) (by omega), List.all_cons, (dig_ok (u % 10) (by omega)).2]; rfl
theorem dd_pos (u : Nat) : 0 < (Lib.decDigits u).length := by
 by_cases h : u < 10
 ·rw [Lib.decDigits_one h]; simp
 ·rw [dd_big h]; simp
theorem dd_len (k : Nat) : ∀ u, u < 10 ^ (k + 1) → (Lib.decDigits u).length ≤ k + 1 := by
 induction k with
 | zero => intro u h; rw [Lib.decDigits_one (by omega)]; simp
 | succ k ih =>
  intro u h
  by_cases h1 : u < 10
  ·rw [Lib.decDigits_one h1]; simp
  ·rw [dd_big h1, List.length_append]
   have : u / 10 < 10 ^ (k + 1) := by rw [Nat.pow_succ] at h; omega
   have := ih _ this
   simp; omega
def fmtV (n : Int) : ByteArray := ofL (Lib.itoa n)
theorem itoa_len {n : Int} (h0 : -9223372036854775808 ≤ n) (h1 : n ≤ 9223372036854775807) : (Lib.itoa n).length ≤ 21 ∧ 0 < (Lib.itoa n).length := by
 unfold Lib.itoa
 split
 ·have := dd_len 19 n.natAbs (by omega)
  have := dd_pos n.natAbs
  simp; omega
 ·have := dd_len 19 n.toNat (by omega)
  have := dd_pos n.toNat
  omega
theorem fmtV_size {n : Int} (h0 : -9223372036854775808 ≤ n) (h1 : n ≤ 9223372036854775807) : (fmtV n).size ≤ 21 ∧ 0 < (fmtV n).size := by
 unfold fmtV; rw [ofL_size]; exact itoa_len h0 h1
theorem head_dig {u : Nat} {c : UInt8} {r : List UInt8} (h : Lib.decDigits u = c :: r) : 48 ≤ c.toNat ∧ c.toNat ≤ 57 := by
 have := dd_dig u
 rw [h] at this
 simp [isDig] at this
 exact this.1
theorem itoa_inj {a b : Int} (h : Lib.itoa a = Lib.itoa b) : a = b := by
 have key : ∀ u v : Nat, (45 : UInt8) :: Lib.decDigits u ≠ Lib.decDigits v := fun u v e => by
  have := head_dig e.symm
  have : (45 : UInt8).toNat = 45 := by decide
  omega
 unfold Lib.itoa at h
 split at h <;> split at h
 ·have := congrArg (hor 0) (List.cons.inj h).2
  rw [hor_dd, hor_dd] at this; omega
 ·exact absurd h (key _ _)
 ·exact absurd h.symm (key _ _)
 ·have := congrArg (hor 0) h
  rw [hor_dd, hor_dd] at this; omega
theorem fmtV_inj {a b : Int} (h : fmtV a = fmtV b) : a = b := itoa_inj (ofL_inj.1 h)
theorem impl_FormatInt_eq {n : Int} (h0 : -9223372036854775808 ≤ n) (h1 : n ≤ 9223372036854775807) : impl_FormatInt.f n = some (fmtV n) := by
 unfold impl_FormatInt.f strconv_Itoa_37.f
 rw [if_pos ⟨h0, h1⟩]; rfl
def digs (u : Nat) : List UInt8 := if u = 0 then [] else Lib.decDigits u
theorem digs_step {u : Nat} (h : u ≠ 0) : digs u = digs (u / 10) ++ [UInt8.ofNat (48 + u % 10)] := by
 unfold digs
 rw [if_neg h]
 by_cases h1 : u < 10
 ·rw [if_pos (by omega), Lib.decDigits_one h1, show u % 10 = u by omega]; rfl
 ·rw [if_neg (by omega), dd_big h1]
theorem one_num (d : Int) (h0 : 0 ≤ d) (h1 : d < 10) : spec_l01Figure.f d = some (48 + d) ∧ strOfNums [48 + d] = ofL [UInt8.ofNat (48 + d.toNat)] := by
 obtain ⟨q, rfl⟩ := Int.eq_ofNat_of_zero_le h0
 have : ∀ q : Fin 10, spec_l01Figure.f (q.val : Int) = some (48 + (q.val : Int)) ∧ strOfNums [48 + (q.val : Int)] = ofL [UInt8.ofNat (48 + (q.val : Int).toNat)] := by decide +kernel
 exact this ⟨q, by omega⟩
theorem spec_Fmt_loop (b : Bool) (d : Nat) : ∀ (u : Nat) (x : Int) (acc : List UInt8) (k : Nat), u < 10 ^ d → x.natAbs = u → (x < 0 → b = true) → -9223372036854775808 ≤ x → x ≤ 9223372036854775807 → d + 1 ≤ k → acc.length + d ≤ 100 → spec_FormatInt.l0 k x b (ofL acc) = some (if b = true then ofL (45 :: (digs u ++ acc)) else ofL (digs u ++ acc)) := by
 have minus : (⟨#[45]⟩ : ByteArray) = ofL [45] := rfl
 induction d with
 | zero =>
  intro u x acc k hu hx hb x0 x1 hk hl
  obtain ⟨k, rfl⟩ : ∃ m, k = m + 1 := ⟨k - 1, by omega⟩
  obtain rfl : u = 0 := by simpa using hu
  obtain rfl : x = 0 := by omega
  rw [spec_FormatInt.l0, if_pos rfl]
  cases b with
  | true => rw [if_pos rfl, ofL_size, if_pos (by omega), minus, ofL_app]; rfl
  | false => rfl
 | succ d ih =>
  intro u x acc k hu hx hb x0 x1 hk hl
  obtain ⟨k, rfl⟩ : ∃ m, k = m + 1 := ⟨k - 1, by omega⟩
  by_cases h0 : x = 0
  ·subst h0
   obtain rfl : u = 0 := by simpa using hx.symm
   rw [spec_FormatInt.l0, if_pos rfl]
   cases b with
   | true => rw [if_pos rfl, ofL_size, if_pos (by omega), minus, ofL_app]; rfl
   | false => rfl
  ·have hu10 : u / 10 < 10 ^ d := by rw [Nat.pow_succ] at hu; omega
   have hu0 : u ≠ 0 := by omega
   have tm : Int.tmod x 10 = if x < 0 then -((u % 10 : Nat) : Int) else ((u % 10 : Nat) : Int) := by
    by_cases hn : x < 0
    ·rw [if_pos hn, show x = -(u : Int) by omega, Int.neg_tmod, Int.tmod_eq_emod_of_nonneg (by omega)]; omega
    ·rw [if_neg hn, Int.tmod_eq_emod_of_nonneg (by omega)]; omega
   have td : Int.tdiv x 10 = if x < 0 then -((u / 10 : Nat) : Int) else ((u / 10 : Nat) : Int) := by
    by_cases hn : x < 0
    ·rw [if_pos hn, show x = -(u : Int) by omega, Int.neg_tdiv, Int.tdiv_eq_ediv_of_nonneg (by omega)]; omega
    ·rw [if_neg hn, Int.tdiv_eq_ediv_of_nonneg (by omega)]; omega
   have hb2 : Int.tdiv x 10 < 0 → b = true := fun h => hb (by rw [td] at h; split at h <;> omega)
   have ha : (Int.tdiv x 10).natAbs = u / 10 := by rw [td]; split <;> omega
   obtain ⟨o1, o2⟩ := one_num ((u % 10 : Nat) : Int) (by omega) (by omega)
   rw [Int.toNat_natCast] at o2
   have go := ih (u / 10) (Int.tdiv x 10) (UInt8.ofNat (48 + u % 10) :: acc) k hu10 ha hb2 (by rw [td]; split <;> omega) (by rw [td]; split <;> omega) (by omega) (by simp; omega)
   have e1 : digs (u / 10) ++ (UInt8.ofNat (48 + u % 10) :: acc) = digs u ++ acc := by rw [digs_step hu0, List.append_assoc]; rfl
   rw [e1] at go
   have hw : wrap64 (Int.tdiv x 10) = Int.tdiv x 10 := w64_id (by rw [td]; split <;> omega) (by rw [td]; split <;> omega)
   have fin : ((spec_l01Figure.f ((u % 10 : Nat) : Int)).bind fun t => ((some (([t] : List Int) : List Int)).bind fun y => (if (strOfNums y).size + (ofL acc).size ≤ 9223372036854775807 then (spec_FormatInt.l0 k (wrap64 (Int.tdiv x 10)) b ((strOfNums y) ++ (ofL acc))) else (none)))) = some (if b = true then ofL (45 :: (digs u ++ acc)) else ofL (digs u ++ acc)) := by
    rw [o1]
    simp only [Option.bind_some]
    rw [o2, ofL_size, ofL_size, if_pos (by simp; omega), ofL_app, hw]
    exact go
   rw [spec_FormatInt.l0, if_neg h0]
   by_cases ht : Int.tmod x 10 < 0
   ·rw [if_pos ht]
    have e : wrap64 (-(Int.tmod x 10)) = ((u % 10 : Nat) : Int) := by
     rw [w64_id (by rw [tm]; split <;> omega) (by rw [tm]; split <;> omega)]
     rw [tm] at ht ⊢
     by_cases hn : x < 0
     ·rw [if_pos hn]; omega
     ·rw [if_neg hn] at ht; omega
    rw [e]; exact fin
   ·rw [if_neg ht]
    have e : Int.tmod x 10 = ((u % 10 : Nat) : Int) := by
     rw [tm] at ht ⊢
     by_cases hn : x < 0
     ·rw [if_pos hn] at ht ⊢; omega
     ·rw [if_neg hn]
    rw [e]; exact fin
theorem spec_FormatInt_eq {n : Int} (h0 : -9223372036854775808 ≤ n) (h1 : n ≤ 9223372036854775807) (k : Nat) (hk : 25 ≤ k) : spec_FormatInt.f k n = some (fmtV n) := by
 unfold spec_FormatInt.f
 by_cases hz : n = 0
 ·rw [if_pos hz]; subst hz; decide +kernel
 ·rw [if_neg hz]
  have := spec_Fmt_loop (decide (n < 0)) 20 n.natAbs n [] k (by omega) rfl (fun h => decide_eq_true h) h0 h1 (by omega) (by simp)
  have hd : digs n.natAbs = Lib.decDigits n.natAbs := by unfold digs; rw [if_neg (by omega)]
  rw [show (⟨#[]⟩ : ByteArray) = ofL [] from rfl, this, hd, List.append_nil]
  unfold fmtV Lib.itoa
  by_cases hn : n < 0
  ·rw [if_pos (decide_eq_true hn), if_pos hn]
  ·rw [if_neg (by simpa using hn), if_neg hn, show n.toNat = n.natAbs by omega]
theorem pu_app {c : UInt8} : ∀ (l : List UInt8) (a v : Nat), Lib.parseUint10 a l = .ok v → Lib.parseUint10 a (l ++ [c]) = Lib.parseUint10 v [c]
 | [], a, v, h => by
  have : a = v := by simpa [Lib.parseUint10] using h
  rw [this]; rfl
 | x :: r, a, v, h => by
  rw [List.cons_append, Lib.parseUint10]
  rw [Lib.parseUint10] at h
  by_cases h1 : 48 ≤ x.toNat ∧ x.toNat ≤ 57
  ·rw [if_pos h1] at h ⊢
   by_cases h2 : 1844674407370955162 ≤ a
   ·rw [if_pos h2] at h; cases h
   ·rw [if_neg h2] at h ⊢
    by_cases h3 : 18446744073709551616 ≤ a * 10 + (x.toNat - 48)
    ·rw [if_pos h3] at h; cases h
    ·rw [if_neg h3] at h ⊢
     exact pu_app r _ v h
  ·rw [if_neg h1] at h; cases h
theorem pu_one {d v : Nat} (hd : d < 10) (hv : v < 1000000000000000000) : Lib.parseUint10 v [UInt8.ofNat (48 + d)] = .ok (v * 10 + d) := by
 have h1 := (dig_ok d hd).1
 rw [Lib.parseUint10, h1, if_pos (by omega), if_neg (by omega), if_neg (by omega), Lib.parseUint10, show 48 + d - 48 = d by omega]
theorem pu_dd (u : Nat) : u < 1000000000000000000 → Lib.parseUint10 0 (Lib.decDigits u) = .ok u := by
 induction u using Nat.strongRecOn with
 | _ u ih =>
  intro hu
  by_cases h : u < 10
  ·rw [Lib.decDigits_one h, pu_one h (by omega)]; simp
  ·rw [dd_big h, pu_app _ _ _ (ih (u / 10) (by omega) (by omega)), pu_one (by omega) (by omega)]
   congr 1; omega
theorem atoi_dd {v : Int} (h0 : 0 ≤ v) (h1 : v ≤ 1000000000) : Lib.atoiAll (Lib.itoa v) = .ok v := by
 obtain ⟨u, rfl⟩ := Int.eq_ofNat_of_zero_le h0
 have e : Lib.itoa (u : Int) = Lib.decDigits u := by unfold Lib.itoa; rw [if_neg (by omega), Int.toNat_natCast]
 have hp := pu_dd u (by omega)
 rw [e]
 obtain ⟨c, r, hc⟩ : ∃ c r, Lib.decDigits u = c :: r := by
  have := dd_pos u
  cases h : Lib.decDigits u with
  | nil => rw [h] at this; simp at this
  | cons c r => exact ⟨c, r, rfl⟩
 have hd := head_dig hc
 rw [hc] at hp ⊢
 have hm : Lib.parseMag (c :: r) = .ok u := by unfold Lib.parseMag; rw [if_neg (by simp)]; exact hp
 unfold Lib.atoiAll
 simp only []
 rw [if_neg (show ¬ (c.toNat = 43 ∨ c.toNat = 45) by omega), hm]
 simp only []
 rw [if_neg (by omega), if_neg (by omega), if_neg (by omega)]
def puV (s : ByteArray) : Int × Bool := match Lib.atoiAll s.data.toList with
 | .ok v => if v < 0 then (0, false) else if 1000000000 < v then (0, false) else if (fmtV v).toList = s.toList then (v, true) else (0, false)
 | _ => (0, false)
theorem impl_ParseUint_eq (s : ByteArray) (hs : s.size ≤ 140737488351232) : impl_ParseUint.f s = some (puV s) := by
 unfold impl_ParseUint.f impl_signed.f puV
 rw [if_pos (by omega)]
 cases h : Lib.atoiAll s.data.toList with
 | ok v =>
  simp only []
  by_cases h1 : v < 0
  ·rw [if_pos h1, if_pos h1]; rfl
  ·rw [if_neg h1, if_neg h1]
   by_cases h2 : 1000000000 < v
   ·rw [if_pos h2, if_pos h2]; rfl
   ·rw [if_neg h2, if_neg h2, impl_FormatInt_eq (by omega) (by omega)]
    simp only [Option.bind_some]
    by_cases h3 : (fmtV v).toList = s.toList
    ·rw [if_pos h3, if_pos h3]; rfl
    ·rw [if_neg h3, if_neg h3]; rfl
 | _ => rfl
theorem puV_fmt {v : Int} (h0 : 0 ≤ v) (h1 : v ≤ 1000000000) : puV (fmtV v) = (v, true) := by
 unfold puV
 have : (fmtV v).data.toList = Lib.itoa v := ofL_data _
 rw [this, atoi_dd h0 h1]
 simp only []
 rw [if_neg (by omega), if_neg (by omega), if_pos trivial]
theorem puV_cases (s : ByteArray) : puV s = (0, false) ∨ ∃ v, (0 ≤ v ∧ v ≤ 1000000000) ∧ s = fmtV v ∧ puV s = (v, true) := by
 unfold puV
 cases h : Lib.atoiAll s.data.toList with
 | ok v =>
  simp only []
  by_cases h1 : v < 0
  ·rw [if_pos h1]; exact .inl rfl
  ·rw [if_neg h1]
   by_cases h2 : 1000000000 < v
   ·rw [if_pos h2]; exact .inl rfl
   ·rw [if_neg h2]
    by_cases h3 : (fmtV v).toList = s.toList
    ·rw [if_pos h3]; exact .inr ⟨v, ⟨by omega, by omega⟩, (tl_inj.1 h3).symm, rfl⟩
    ·rw [if_neg h3]; exact .inl rfl
 | _ => exact .inl rfl
theorem puV_bd (s : ByteArray) : 0 ≤ (puV s).1 ∧ (puV s).1 ≤ 1000000000 := by
 rcases puV_cases s with h | ⟨v, hv, _, h⟩
 ·rw [h]; exact ⟨by decide, by decide⟩
 ·rw [h]; exact hv
def puEnd (L : List UInt8) (m : Nat) : Int × Bool := if (m : Int) > 1000000000 then (0, false) else if fmtV m = ofL L then ((m : Int), true) else (0, false)
theorem spec_PU_loop (L : List UInt8) (hL : L.length ≤ 10) (d : Nat) : ∀ (i n k : Nat), i + d = L.length → n < 10 ^ i → d + 30 ≤ k → spec_ParseUint.l0 k (ofL L) (n : Int) (i : Int) = some (if (L.drop i).all isDig = true then puEnd L (hor n (L.drop i)) else (0, false)) := by
 induction d with
 | zero =>
  intro i n k hi hn hk
  obtain ⟨k, rfl⟩ : ∃ m, k = m + 1 := ⟨k - 1, by omega⟩
  have hn2 : n < 10000000000 := Nat.lt_of_lt_of_le hn (Nat.le_trans (Nat.pow_le_pow_right (by decide) (show i ≤ 10 by omega)) (by decide))
  rw [spec_ParseUint.l0, ofL_size, if_neg (by omega), List.drop_eq_nil_of_le (by omega)]
  rw [if_pos (show ([] : List UInt8).all isDig = true from rfl)]
  show _ = some (puEnd L n)
  unfold puEnd
  by_cases h1 : (n : Int) > 1000000000
  ·rw [if_pos h1, if_pos h1]
  ·rw [if_neg h1, if_neg h1, spec_FormatInt_eq (by omega) (by omega) k (by omega)]
   simp only [Option.bind_some]
   by_cases h2 : fmtV n = ofL L
   ·rw [if_pos (by rw [h2]), if_pos h2]
   ·rw [if_neg (fun e => h2 (tl_inj.1 e)), if_neg h2]
 | succ d ih =>
  intro i n k hi hn hk
  obtain ⟨k, rfl⟩ : ∃ m, k = m + 1 := ⟨k - 1, by omega⟩
  have hn2 : n < 10000000000 := Nat.lt_of_lt_of_le hn (Nat.le_trans (Nat.pow_le_pow_right (by decide) (show i ≤ 10 by omega)) (by decide))
  have hlt : i < L.length := by omega
  have hb := bt_ofL L i hlt
  have hd : L.drop i = L[i] :: L.drop (i + 1) := List.drop_eq_getElem_cons hlt
  rw [spec_ParseUint.l0, ofL_size, if_pos (by omega), if_pos (by omega), hb, hd, List.all_cons]
  by_cases h1 : ((L[i].toNat : Nat) : Int) < 48
  ·rw [if_pos h1, show isDig L[i] = false from by unfold isDig; simp; omega]; rfl
  ·rw [if_neg h1]
   by_cases h2 : ((L[i].toNat : Nat) : Int) > 57
   ·rw [if_pos h2, show isDig L[i] = false from by unfold isDig; simp; omega]; rfl
   ·have hdg : isDig L[i] = true := by unfold isDig; simp; omega
    rw [if_neg h2, hdg, Bool.true_and, show hor n (L[i] :: L.drop (i + 1)) = hor (10 * n + (L[i].toNat - 48)) (L.drop (i + 1)) from rfl]
    generalize L[i].toNat = c at h1 h2
    have e : wrap64 ((wrap64 ((wrap64 (10 * (n : Int))) + (wrap64 (c : Int)))) - 48) = ((10 * n + (c - 48) : Nat) : Int) := by
     rw [w64_id (x := 10 * (n : Int)) (by omega) (by omega), w64_id (x := (c : Int)) (by omega) (by omega), w64_id (x := 10 * (n : Int) + (c : Int)) (by omega) (by omega), w64_id (by omega) (by omega)]
     omega
    rw [e, w64_id (x := (i : Int) + 1) (by omega) (by omega), show (i : Int) + 1 = ((i + 1 : Nat) : Int) by omega]
    exact ih (i + 1) (10 * n + (c - 48)) k (by omega) (by rw [Nat.pow_succ]; omega) (by omega)
theorem spec_ParseUint_eq (s : ByteArray) (k : Nat) (hk : 60 ≤ k) : spec_ParseUint.f k s = some (puV s) := by
 unfold spec_ParseUint.f
 obtain ⟨L, rfl⟩ : ∃ L, s = ofL L := ⟨s.data.toList, (ofL_of s).symm⟩
 rw [ofL_size]
 by_cases h : (L.length : Int) > 10
 ·rw [if_pos h]
  rcases puV_cases (ofL L) with e | ⟨v, hv, e, _⟩
  ·rw [e]
  ·exfalso
   have e2 : L = Lib.itoa v := ofL_inj.1 e
   have : (Lib.itoa v).length ≤ 10 := by
    unfold Lib.itoa; rw [if_neg (by omega)]
    exact dd_len 9 v.toNat (by omega)
   rw [e2] at h; omega
 ·rw [if_neg h]
  have := spec_PU_loop L (by omega) L.length 0 0 k (by omega) (by decide) (by omega)
  rw [show ((0 : Nat) : Int) = 0 from rfl] at this
  rw [this, List.drop_zero]
  congr 1
  rcases puV_cases (ofL L) with e | ⟨v, hv, e, e2⟩
  ·rw [e]
   split
   ·unfold puEnd
    split
    ·rfl
    ·split
     ·rename_i h1 h2 h3
      rw [← h3, puV_fmt (by omega) (by omega)] at e; exact absurd (congrArg Prod.snd e) (by simp)
     ·rfl
   ·rfl
  ·rw [e2]
   have el : L = Lib.itoa v := ofL_inj.1 e
   have ei : Lib.itoa v = Lib.decDigits v.toNat := by unfold Lib.itoa; rw [if_neg (by omega)]
   rw [el, ei, if_pos (dd_dig _), hor_dd]
   unfold puEnd
   rw [if_neg (by omega), show ((v.toNat : Nat) : Int) = v by omega, if_pos (by unfold fmtV; rw [ei])]
def textV (w h o : Int) : ByteArray := if mOk w h o = true then (((fmtV w ++ ofL [32]) ++ fmtV h) ++ ofL [32]) ++ fmtV o else ofL []
theorem ba_size_app (a b : ByteArray) : (a ++ b).size = a.size + b.size := ByteArray.size_append ..
theorem mOk_small {w h o : Int} (hm : mOk w h o = true) : (1 ≤ w ∧ w ≤ 4 ∧ 1 ≤ h ∧ h ≤ 4) ∧ 0 ≤ o ∧ o < 16777216 := by
 have h1 := gOk_iff.1 (mOk_iff.1 hm).1
 have h2 := open_nat hm
 exact ⟨h1, by omega, by omega⟩
theorem impl_MazeText_eq (w h o : Int) : impl_MazeText.f w h o = some (textV w h o) := by
 unfold impl_MazeText.f textV
 rw [impl_MazeOk_eq]; simp only [Option.bind_some]
 by_cases hm : mOk w h o = true
 ·rw [if_pos hm, if_pos hm]
  have hb := mOk_small hm
  have s1 := fmtV_size (n := w) (by omega) (by omega)
  have s2 := fmtV_size (n := h) (by omega) (by omega)
  have s3 := fmtV_size (n := o) (by omega) (by omega)
  have e1 : (⟨#[32]⟩ : ByteArray) = ofL [32] := rfl
  have e2 : (ofL [32]).size = 1 := rfl
  rw [impl_FormatInt_eq (by omega) (by omega), impl_FormatInt_eq (by omega) (by omega), impl_FormatInt_eq (by omega) (by omega)]
  simp only [Option.bind_some, e1, ba_size_app, e2]
  rw [if_pos (by omega), if_pos (by omega), if_pos (by omega), if_pos (by omega)]
 ·rw [if_neg hm, if_neg hm]; rfl
theorem spec_MazeText_eq (w h o : Int) (k : Nat) (hk : 25 ≤ k) : spec_MazeText.f k w h o = some (textV w h o) := by
 unfold spec_MazeText.f textV
 rw [spec_MazeOk_eq]; simp only [Option.bind_some]
 by_cases hm : mOk w h o = true
 ·rw [if_pos hm, if_pos hm]
  have hb := mOk_small hm
  have s1 := fmtV_size (n := w) (by omega) (by omega)
  have s2 := fmtV_size (n := h) (by omega) (by omega)
  have s3 := fmtV_size (n := o) (by omega) (by omega)
  have e1 : (⟨#[32]⟩ : ByteArray) = ofL [32] := rfl
  have e2 : (ofL [32]).size = 1 := rfl
  rw [spec_FormatInt_eq (by omega) (by omega) k hk, spec_FormatInt_eq (by omega) (by omega) k hk, spec_FormatInt_eq (by omega) (by omega) k hk]
  simp only [Option.bind_some, e1, ba_size_app, e2]
  rw [if_pos (by omega), if_pos (by omega), if_pos (by omega), if_pos (by omega)]
 ·rw [if_neg hm, if_neg hm]; rfl
theorem FnExactMazeText : laws_FnExactMazeText.Pure := by
 intro w h o _ _ _
 refine ⟨25, ?_⟩
 unfold laws_FnExactMazeText.f
 simp only [toMaze_eq, Option.bind_some, spec_MazeText_eq w h o 25 (by omega), impl_MazeText_eq, if_true]
def goodC (c : UInt8) : Bool := decide (32 ≤ c.toNat) && decide (c.toNat ≤ 126)
def toks : List UInt8 → List UInt8 → List (List UInt8)
 | cur, [] => if cur = [] then [] else [cur]
 | cur, c :: r => if c.toNat = 32 then (if cur = [] then toks [] r else cur :: toks [] r) else toks (cur ++ [c]) r
def splitEnd (r : List ByteArray) : List ByteArray × Bool := if (r.length : Int) > 24 then ([], false) else (r, true)
theorem ext_ofL (L : List UInt8) (a i : Nat) : (ofL L).extract a i = ofL ((L.take i).drop a) := by
 apply ba_ext
 rw [ofL_data, ByteArray.data_extract]
 simp [ofL, List.extract_eq_take_drop, List.drop_take]
theorem split_loop (L : List UInt8) (hL : L.length ≤ 600) (d : Nat) : ∀ (i a k : Nat) (acc : List ByteArray), i + d = L.length + 1 → a ≤ i → acc.length + d ≤ 1000 → 3 * d + 1 ≤ k →
  impl_SplitFields.l0 k (ofL L) acc (a : Int) (i : Int) = some (if (L.drop i).all goodC = true then splitEnd (acc ++ (if i ≤ L.length then toks ((L.take i).drop a) (L.drop i) else []).map ofL) else ([], false)) := by
 induction d with
 | zero =>
  intro i a k acc hi ha hl hk
  obtain ⟨k, rfl⟩ : ∃ m, k = m + 1 := ⟨k - 1, by omega⟩
  rw [impl_SplitFields.l0, ofL_size, if_neg (by omega), List.drop_eq_nil_of_le (by omega), if_pos (show ([] : List UInt8).all goodC = true from rfl), if_neg (show ¬ i ≤ L.length by omega)]
  rw [List.map_nil, List.append_nil]
  unfold splitEnd
  by_cases h : (acc.length : Int) > 24
  ·rw [if_pos h, if_pos h]
  ·rw [if_neg h, if_neg h]
 | succ d ih =>
  intro i a k acc hi ha hl hk
  obtain ⟨k, rfl⟩ : ∃ m, k = m + 3 := ⟨k - 3, by omega⟩
  have hile : i ≤ L.length := by omega
  have wi : wrap64 ((i : Int) + 1) = ((i + 1 : Nat) : Int) := by rw [w64_id (by omega) (by omega)]; omega
  have hcl : ((L.take i).drop a).length = i - a := by rw [List.length_drop, List.length_take]; omega
  rw [if_pos hile]
  -- the end of a field
  have cut : ∀ R, R = (if (L.drop (i + 1)).all goodC = true then splitEnd (acc ++ ((if (L.take i).drop a = [] then (if i + 1 ≤ L.length then toks [] (L.drop (i + 1)) else []) else (L.take i).drop a :: (if i + 1 ≤ L.length then toks [] (L.drop (i + 1)) else []))).map ofL) else ([], false)) → impl_SplitFields.j2 (k + 1) (ofL L) acc (a : Int) (i : Int) false = some R := fun R hR => by
   rw [impl_SplitFields.j2, if_neg (by decide), wi, hR]
   have hd0 : (L.take (i + 1)).drop (i + 1) = [] := List.drop_eq_nil_of_le (by rw [List.length_take]; omega)
   by_cases hlt : a < i
   ·rw [if_pos (by omega), if_pos (by omega), if_pos (by omega), ofL_size, if_pos (by omega), if_pos (by omega)]
    have := ih (i + 1) (i + 1) k (acc ++ [ofL ((L.take i).drop a)]) (by omega) (by omega) (by simp; omega) (by omega)
    rw [hd0] at this
    rw [Int.toNat_natCast, Int.toNat_natCast, ext_ofL, this, if_neg (show ¬ (L.take i).drop a = [] from fun e => by rw [e] at hcl; simp at hcl; omega)]
    simp
   ·have := ih (i + 1) (i + 1) k acc (by omega) (by omega) (by omega) (by omega)
    rw [hd0] at this
    rw [if_neg (by omega), this, if_pos (show (L.take i).drop a = [] from List.eq_nil_of_length_eq_zero (by omega))]
  by_cases hlast : i = L.length
  ·subst hlast
   rw [impl_SplitFields.l0, ofL_size, if_pos (by omega), if_neg (by omega), impl_SplitFields.j1, if_neg (by decide), ofL_size, if_neg (by omega)]
   refine cut _ ?_
   have d1 : L.drop L.length = [] := List.drop_eq_nil_of_le (Nat.le_refl _)
   have d2 : L.drop (L.length + 1) = [] := List.drop_eq_nil_of_le (by omega)
   rw [d1, d2, if_neg (show ¬ L.length + 1 ≤ L.length by omega), toks]
  ·have hlt : i < L.length := by omega
   have hb := bt_ofL L i hlt
   have hd : L.drop i = L[i] :: L.drop (i + 1) := List.drop_eq_getElem_cons hlt
   rw [impl_SplitFields.l0, ofL_size, if_pos (by omega), if_pos (by omega), if_pos (by omega), hb, hd, List.all_cons]
   by_cases h1 : ((L[i].toNat : Nat) : Int) < 32
   ·rw [if_pos h1, impl_SplitFields.j1, if_pos rfl, show goodC L[i] = false from by unfold goodC; simp; omega]; rfl
   ·rw [if_neg h1, impl_SplitFields.j1]
    by_cases h2 : ((L[i].toNat : Nat) : Int) > 126
    ·rw [if_pos (decide_eq_true h2), show goodC L[i] = false from by unfold goodC; simp; omega]; rfl
    ·rw [if_neg (by simpa using h2), ofL_size, if_pos (by omega), if_pos (by omega), hb, show goodC L[i] = true from by unfold goodC; simp; omega, Bool.true_and, toks]
     by_cases h3 : ((L[i].toNat : Nat) : Int) = 32
     ·rw [show (((L[i].toNat : Nat) : Int) != 32) = false by simpa using h3, if_pos (show L[i].toNat = 32 by omega)]
      refine cut _ ?_
      rw [if_pos (show i + 1 ≤ L.length by omega)]
     ·rw [show (((L[i].toNat : Nat) : Int) != 32) = true by simpa using h3, if_neg (show ¬ L[i].toNat = 32 by omega), impl_SplitFields.j2, if_pos rfl, wi, ih (i + 1) a k acc (by omega) (by omega) (by omega) (by omega), if_pos (show i + 1 ≤ L.length by omega)]
      rw [show (L.take (i + 1)).drop a = (L.take i).drop a ++ [L[i]] by rw [List.take_succ_eq_append_getElem hlt, List.drop_append_of_le_length (by rw [List.length_take]; omega)]]
def splitV (s : ByteArray) : List ByteArray × Bool := if (s.size : Int) > 600 then ([], false) else if s.data.toList.all goodC = true then splitEnd ((toks [] s.data.toList).map ofL) else ([], false)
theorem impl_Split_eq (s : ByteArray) (k : Nat) (hk : 2000 ≤ k) : impl_SplitFields.f k s = some (splitV s) := by
 unfold impl_SplitFields.f splitV
 by_cases h : (s.size : Int) > 600
 ·rw [if_pos h, if_pos h]
 ·rw [if_neg h, if_neg h]
  obtain ⟨L, rfl⟩ : ∃ L, s = ofL L := ⟨s.data.toList, (ofL_of s).symm⟩
  rw [ofL_size] at h
  have := split_loop L (by omega) (L.length + 1) 0 0 k [] (by omega) (by omega) (by simp; omega) (by omega)
  rw [show ((0 : Nat) : Int) = 0 from rfl] at this
  rw [this, ofL_data]
  simp
theorem spec_Split_eq (s : ByteArray) (k : Nat) (hk : 2000 ≤ k) : spec_SplitFields.f k s = some (splitV s) := by
 rw [← impl_Split_eq s k hk]
 unfold spec_SplitFields.f impl_SplitFields.f
 simp only [Option.bind_some]
 by_cases h : (s.size : Int) > 600
 ·rw [if_pos h, if_pos h]
 ·rw [if_neg h, if_neg h, (split_same k).1]
theorem toks_len : ∀ (r cur : List UInt8), ∀ t ∈ toks cur r, t.length ≤ cur.length + r.length
 | [], cur, t, ht => by
  rw [toks] at ht
  split at ht
  ·simp at ht
  ·obtain rfl : t = cur := by simpa using ht
   omega
 | c :: r, cur, t, ht => by
  rw [toks] at ht
  split at ht
  ·split at ht
   ·have := toks_len r [] t ht
    simp at this ⊢; omega
   ·rcases List.mem_cons.1 ht with rfl | ht
    ·omega
    ·have := toks_len r [] t ht
     simp at this ⊢; omega
  ·have := toks_len r (cur ++ [c]) t ht
   simp at this ⊢; omega
theorem split_small (s : ByteArray) : ∀ t ∈ (splitV s).1, t.size ≤ 600 := fun t ht => by
 unfold splitV at ht
 split at ht
 ·simp at ht
 ·split at ht
  ·unfold splitEnd at ht
   split at ht
   ·simp at ht
   ·obtain ⟨u, hu, rfl⟩ := List.mem_map.1 ht
    have := toks_len _ _ u hu
    have e : s.data.toList.length = s.size := Array.length_toList
    rw [ofL_size]; simp at this; omega
  ·simp at ht
theorem split_off (s : ByteArray) (h : (splitV s).2 = false) : (splitV s).1 = [] := by
 unfold splitV at *
 split
 ·rfl
 ·rename_i h1
  rw [if_neg h1] at h
  split
  ·rename_i h2
   rw [if_pos h2] at h
   unfold splitEnd at *
   split
   ·rfl
   ·rename_i h3
    rw [if_neg h3] at h
    simp at h
  ·rfl
def parseMV (s : ByteArray) : Int × Int × Int × Bool :=
 if (splitV s).1.length = 3 then
  (if mOk (puV (rdOf ByteArray.empty (splitV s).1 0)).1 (puV (rdOf ByteArray.empty (splitV s).1 1)).1 (puV (rdOf ByteArray.empty (splitV s).1 2)).1 = true then
   (if (textV (puV (rdOf ByteArray.empty (splitV s).1 0)).1 (puV (rdOf ByteArray.empty (splitV s).1 1)).1 (puV (rdOf ByteArray.empty (splitV s).1 2)).1).toList = s.toList then ((puV (rdOf ByteArray.empty (splitV s).1 0)).1, (puV (rdOf ByteArray.empty (splitV s).1 1)).1, (puV (rdOf ByteArray.empty (splitV s).1 2)).1, true) else (0, 0, 0, false)) else (0, 0, 0, false))
 else (0, 0, 0, false)
theorem rdS_mem (l : List ByteArray) (i : Nat) (h : i < l.length) : rdOf ByteArray.empty l (i : Int) ∈ l := by
 unfold rdOf
 rw [Int.toNat_natCast, List.getD_eq_getElem?_getD, List.getElem?_eq_getElem h]
 exact List.getElem_mem h
theorem impl_ParseMaze_eq (s : ByteArray) (k : Nat) (hk : 2000 ≤ k) : impl_ParseMaze.f k s = some (parseMV s) := by
 unfold impl_ParseMaze.f parseMV
 rw [impl_Split_eq s k hk]; simp only [Option.bind_some]
 have hsm := split_small s
 generalize (splitV s).1 = p at hsm
 by_cases h3 : p.length = 3
 ·have b0 := hsm _ (rdS_mem p 0 (by omega))
  have b1 := hsm _ (rdS_mem p 1 (by omega))
  have b2 := hsm _ (rdS_mem p 2 (by omega))
  rw [if_pos (by omega), if_pos h3, if_pos (by omega), impl_ParseUint_eq _ (by simp at b0; omega)]
  simp only [Option.bind_some]
  rw [if_pos (by omega), impl_ParseUint_eq _ (by simp at b1; omega)]
  simp only [Option.bind_some]
  rw [if_pos (by omega), impl_ParseUint_eq _ (by simp at b2; omega)]
  simp only [Option.bind_some, impl_MazeOk_eq, impl_MazeText_eq]
  split
  ·split <;> rfl
  ·rfl
 ·rw [if_neg (by omega), if_neg h3]
theorem spec_ParseMaze_eq (s : ByteArray) (k : Nat) (hk : 2000 ≤ k) : spec_ParseMaze.f k s = some (parseMV s) := by
 unfold spec_ParseMaze.f parseMV
 rw [spec_Split_eq s k hk]; simp only [Option.bind_some]
 obtain ⟨k, rfl⟩ : ∃ m, k = m + 1 := ⟨k - 1, by omega⟩
 have hoff := split_off s
 by_cases hok : (splitV s).2 = true
 ·rw [if_pos hok]
  generalize (splitV s).1 = p
  by_cases h3 : p.length = 3
  ·rw [if_pos h3, spec_ParseMaze.j0, if_neg (by rw [h3]; decide), if_pos (by omega), spec_ParseUint_eq _ k (by omega)]
   simp only [Option.bind_some]
   rw [if_pos (by omega), spec_ParseUint_eq _ k (by omega)]
   simp only [Option.bind_some]
   rw [if_pos (by omega), spec_ParseUint_eq _ k (by omega)]
   simp only [Option.bind_some, spec_MazeOk_eq, spec_MazeText_eq _ _ _ k (by omega)]
   split
   ·split <;> rfl
   ·rfl
  ·rw [if_neg h3, spec_ParseMaze.j0, if_pos (by simp; omega)]
 ·rw [if_neg hok, hoff (by simpa using hok), if_neg (by simp), spec_ParseMaze.j0, if_pos rfl]
theorem FnExactParseMaze : laws_FnExactParseMaze.Pure := by
 intro s hs
 refine ⟨2000, ?_⟩
 unfold laws_FnExactParseMaze.f
 by_cases h : (s.size : Int) > 1048576
 ·rw [if_pos h]
 ·rw [if_neg h, spec_ParseMaze_eq s 2000 (by omega), impl_ParseMaze_eq s 2000 (by omega)]
  simp [laws_eqMaze.f, laws_eqGrid.f]
theorem l01Long_loop (n : Nat) (hn : n ≤ 100000) (b : Int) (d : Nat) : ∀ (k i : Nat) (xs : List Int), i + d = n → xs.length = n → d < k → ∃ ys : List Int, ys.length = n ∧ spec_l01Long.l0 k n b xs i = some (strOfNums ys) := by
 induction d with
 | zero =>
  intro k i xs hi hx hk
  obtain ⟨k, rfl⟩ : ∃ m, k = m + 1 := ⟨k - 1, by omega⟩
  exact ⟨xs, hx, by rw [spec_l01Long.l0, if_neg (by omega)]⟩
 | succ d ih =>
  intro k i xs hi hx hk
  obtain ⟨k, rfl⟩ : ∃ m, k = m + 1 := ⟨k - 1, by omega⟩
  obtain ⟨ys, y1, y2⟩ := ih k (i + 1) (xs.set (i : Int).toNat b) (by omega) (by rw [List.length_set, hx]) (by omega)
  refine ⟨ys, y1, ?_⟩
  rw [spec_l01Long.l0, if_pos (by omega), if_pos (by omega), if_pos (by omega), w64_id (x := (i : Int) + 1) (by omega) (by omega)]
  exact y2
theorem l01Long_tot (n : Int) (h0 : 0 ≤ n) (h1 : n ≤ 100000) (b : Int) (k : Nat) (hk : n < k) : ∃ s : ByteArray, spec_l01Long.f k n b = some s ∧ (s.size : Int) = n := by
 obtain ⟨m, rfl⟩ := Int.eq_ofNat_of_zero_le h0
 obtain ⟨ys, y1, y2⟩ := l01Long_loop m (by omega) b m k 0 (List.replicate m 0) (by omega) (by simp) (by omega)
 refine ⟨strOfNums ys, ?_, by rw [strOfNums_size]; omega⟩
 unfold spec_l01Long.f
 rw [if_pos h0, if_pos (by omega), Int.toNat_natCast]
 exact y2
theorem l01Text_loop (l : List Int) (hl : l.length ≤ 140737488351232) (n : Nat) (hn : n ≤ 5000) (d : Nat) : ∀ (k i : Nat) (xs : List Int) (p h : Int), i + d = n → xs.length = i → d < k → 0 ≤ p → ∃ s p' h', spec_l01Text.l0 k n xs i l p h = some (s, p', h') ∧ 0 ≤ p' := by
 induction d with
 | zero =>
  intro k i xs p h hi hx hk hp
  obtain ⟨k, rfl⟩ : ∃ m, k = m + 1 := ⟨k - 1, by omega⟩
  exact ⟨strOfNums xs, p, h, by rw [spec_l01Text.l0, if_neg (by omega)], hp⟩
 | succ d ih =>
  intro k i xs p h hi hx hk hp
  obtain ⟨k, rfl⟩ : ∃ m, k = m + 1 := ⟨k - 1, by omega⟩
  obtain ⟨x, p1, h1, e, _, _, i0⟩ := l01Byte_tot l hl p h hp
  obtain ⟨s, p', h', y2, y3⟩ := ih k (i + 1) (xs ++ [x % 256]) p1 h1 (by omega) (by simp [hx]) (by omega) i0
  refine ⟨s, p', h', ?_, y3⟩
  rw [spec_l01Text.l0, if_pos (by omega), e]
  simp only [Option.bind_some]
  rw [if_pos (by omega), w64_id (x := (i : Int) + 1) (by omega) (by omega)]
  exact y2
theorem DrawEncodeHex_tot (l : List Int) (hl : l.length ≤ 140737488351232) (k : Nat) (hk : l.length < k) (hk2 : 30000 ≤ k) : ∃ s, spec_DrawEncodeHex.f k l = some s := by
 unfold spec_DrawEncodeHex.f
 obtain ⟨h0, e⟩ := l01New_eq l hl k hk
 rw [e]; simp only [Option.bind_some]
 obtain ⟨b, i1, h1, e, i0⟩ := l01Once_tot l hl 0 h0 60 (by omega)
 rw [e]; simp only [Option.bind_some]
 by_cases c : b = true
 ·rw [if_pos c]
  obtain ⟨x, i2, h2, e, x0, x1, _, i0⟩ := l01Below_tot l hl i1 h1 2 i0
  rw [e]; simp only [Option.bind_some]
  have := x1 (by omega)
  rw [w64_id (x := 20000 + x) (by omega) (by omega)]
  obtain ⟨s, e, _⟩ := l01Long_tot (20000 + x) (by omega) (by omega) 200 k (by omega)
  rw [e]; exact ⟨s, rfl⟩
 ·rw [if_neg c]
  obtain ⟨x, i2, h2, e, x0, x1, _, i0⟩ := l01Below_tot l hl i1 h1 30 i0
  rw [e]; simp only [Option.bind_some]
  have := x1 (by omega)
  unfold spec_l01Text.f
  rw [if_neg (by omega)]
  obtain ⟨k, rfl⟩ : ∃ m, k = m + 1 := ⟨k - 1, by omega⟩
  obtain ⟨n, rfl⟩ := Int.eq_ofNat_of_zero_le x0
  obtain ⟨s, p', h', e, _⟩ := l01Text_loop l hl n (by omega) n k 0 [] i2 h2 (by omega) rfl (by omega) i0
  rw [show ((0 : Nat) : Int) = 0 from rfl] at e
  rw [spec_l01Text.j0, e]
  exact ⟨s, rfl⟩
theorem l01PickS_tot (l : List Int) (hl : l.length ≤ 140737488351232) (i h : Int) (xs : List ByteArray) (hx : 0 < xs.length) (h0 : 0 ≤ i) : ∃ x i' h', spec_l01Pick.f l i h xs = some (x, i', h') ∧ x ∈ xs ∧ 0 ≤ i' := by
 unfold spec_l01Pick.f
 obtain ⟨x, i1, h1, e, x0, x1, _, i0⟩ := l01Below_tot l hl i h (xs.length : Int) h0
 rw [e]; simp only [Option.bind_some]
 have := x1 (by omega)
 obtain ⟨n, rfl⟩ := Int.eq_ofNat_of_zero_le x0
 rw [if_pos x0, if_pos this]
 exact ⟨_, _, _, rfl, rdS_mem xs n (by omega), i0⟩
theorem dsf_l1 (l : List Int) (hl : l.length ≤ 140737488351232) (n i : Int) (i0 : 0 ≤ i) (i1 : i ≤ 100) (S B : Nat) (hS : S ≤ 100000) (cont : ∀ (k : Nat) (s : ByteArray) (p h : Int), B ≤ k → s.size ≤ S → 0 ≤ p → ∃ r, spec_DrawSplitFields.l0 k n s (i + 1) l p h = some r) (d : Nat) :
  ∀ (k : Nat) (x : Nat) (s : ByteArray) (p h : Int), x + d = 5 → s.size + d ≤ S → B + d + 1 ≤ k → 0 ≤ p → ∃ r, spec_DrawSplitFields.l1 k n s i (x : Int) l p h = some r := by
 induction d with
 | zero =>
  intro k x s p h hx hs hk hp
  obtain ⟨k, rfl⟩ : ∃ m, k = m + 1 := ⟨k - 1, by omega⟩
  obtain ⟨t, p1, h1, e, t0, t1, _, q0⟩ := l01Below_tot l hl p h 5 hp
  have := t1 (by omega)
  rw [spec_DrawSplitFields.l1, e]; simp only [Option.bind_some]
  rw [if_neg (by omega), w64_id (x := i + 1) (by omega) (by omega)]
  exact cont k s p1 h1 (by omega) (by omega) q0
 | succ d ih =>
  intro k x s p h hx hs hk hp
  obtain ⟨k, rfl⟩ : ∃ m, k = m + 1 := ⟨k - 1, by omega⟩
  obtain ⟨t, p1, h1, e, t0, t1, _, q0⟩ := l01Below_tot l hl p h 5 hp
  rw [spec_DrawSplitFields.l1, e]; simp only [Option.bind_some]
  by_cases c : (x : Int) ≤ t
  ·rw [if_pos c]
   obtain ⟨u, p2, h2, e2, _, _, _, r0⟩ := l01Below_tot l hl p1 h1 94 q0
   rw [e2]; simp only [Option.bind_some]
   have hz : ∀ y : Int, (strOfNums [y]).size = 1 := fun y => by rw [strOfNums_size]; rfl
   rw [hz, if_pos (by omega), w64_id (x := (x : Int) + 1) (by omega) (by omega)]
   exact ih k (x + 1) _ p2 h2 (by omega) (by rw [ba_size_app, hz]; omega) (by omega) r0
  ·rw [if_neg c, w64_id (x := i + 1) (by omega) (by omega)]
   exact cont k s p1 h1 (by omega) (by omega) q0
theorem dsf_l0 (l : List Int) (hl : l.length ≤ 140737488351232) (n : Nat) (hn : n ≤ 50) (d : Nat) : ∀ (k i : Nat) (s : ByteArray) (p h : Int), i + d = n → s.size + 10 * d ≤ 1000 → 10 * d + 2000 ≤ k → 0 ≤ p → ∃ r, spec_DrawSplitFields.l0 k n s (i : Int) l p h = some r := by
 induction d with
 | zero =>
  intro k i s p h hi hs hk hp
  obtain ⟨k, rfl⟩ : ∃ m, k = m + 1 := ⟨k - 1, by omega⟩
  rw [spec_DrawSplitFields.l0, if_neg (by omega)]
  obtain ⟨t, p1, h1, e, t0, t1, _, q0⟩ := l01Below_tot l hl p h 12 hp
  rw [e]; simp only [Option.bind_some]
  by_cases c : t = 0
  ·rw [if_pos c]
   obtain ⟨u, p2, h2, e2, hu, _⟩ := l01PickS_tot l hl p1 h1 [(⟨#[32]⟩ : ByteArray), (⟨#[32, 32]⟩ : ByteArray), (⟨#[9]⟩ : ByteArray), (⟨#[10]⟩ : ByteArray), (⟨#[127]⟩ : ByteArray), (⟨#[233]⟩ : ByteArray)] (by simp) q0
   have hz : u.size ≤ 2 := (show ∀ u ∈ [(⟨#[32]⟩ : ByteArray), (⟨#[32, 32]⟩ : ByteArray), (⟨#[9]⟩ : ByteArray), (⟨#[10]⟩ : ByteArray), (⟨#[127]⟩ : ByteArray), (⟨#[233]⟩ : ByteArray)], u.size ≤ 2 by decide) u hu
   rw [e2]; simp only [Option.bind_some]
   rw [if_pos (by omega)]
   exact ⟨_, rfl⟩
  ·rw [if_neg c]
   by_cases c1 : t = 1
   ·rw [if_pos c1]
    by_cases c2 : (s.size : Int) < 600
    ·rw [if_pos c2]
     obtain ⟨u, p2, h2, e2, u0, u1, _, _⟩ := l01Below_tot l hl p1 h1 2 q0
     have := u1 (by omega)
     rw [e2]; simp only [Option.bind_some]
     rw [w64_id (x := 600 - (s.size : Int)) (by omega) (by omega), w64_id (x := 600 - (s.size : Int) + u) (by omega) (by omega)]
     obtain ⟨v, e3, v0⟩ := l01Long_tot (600 - (s.size : Int) + u) (by omega) (by omega) 32 k (by omega)
     rw [e3]; simp only [Option.bind_some]
     rw [if_pos (by omega)]
     exact ⟨_, rfl⟩
    ·rw [if_neg c2]; exact ⟨_, rfl⟩
   ·rw [if_neg c1]; exact ⟨_, rfl⟩
 | succ d ih =>
  intro k i s p h hi hs hk hp
  obtain ⟨k, rfl⟩ : ∃ m, k = m + 3 := ⟨k - 3, by omega⟩
  have hj3 : ∀ (k : Nat) (s : ByteArray) (p h : Int), 10 * d + 2007 ≤ k → s.size + 10 * d + 5 ≤ 1000 → 0 ≤ p → ∃ r, spec_DrawSplitFields.j3 k n s (i : Int) l p h = some r := fun k s p h hk hs hp => by
   obtain ⟨k, rfl⟩ : ∃ m, k = m + 1 := ⟨k - 1, by omega⟩
   rw [spec_DrawSplitFields.j3]
   have := dsf_l1 l hl n i (by omega) (by omega) (s.size + 5) (10 * d + 2000) (by omega) (fun k s' p h hk hs' hp => by
    have := ih k (i + 1) s' p h (by omega) (by omega) hk hp
    rw [show ((i + 1 : Nat) : Int) = (i : Int) + 1 by omega] at this
    exact this) 5 k 0 s p h (by omega) (by omega) (by omega) hp
   exact this
  have hj2 : ∀ (b : Bool) (p h : Int), 0 ≤ p → ∃ r, spec_DrawSplitFields.j2 (k + 2) n s (i : Int) b l p h = some r := fun b p h hp => by
   rw [spec_DrawSplitFields.j2]
   cases b with
   | true =>
    rw [if_pos rfl]
    obtain ⟨t, p1, h1, e, t0, t1, _, q0⟩ := l01Below_tot l hl p h 2 hp
    have := t1 (by omega)
    rw [e]; simp only [Option.bind_some]
    obtain ⟨u, p2, h2, e2, u0, u1, _, r0⟩ := l01Below_tot l hl p1 h1 3 q0
    have := u1 (by omega)
    rw [e2]; simp only [Option.bind_some]
    have hm : 0 ≤ t * u ∧ t * u ≤ 2 := by
     have : t = 0 ∨ t = 1 := by omega
     rcases this with rfl | rfl
     ·simp
     ·rw [Int.one_mul]; omega
    rw [w64_id (x := t * u) (by omega) (by omega), w64_id (x := 1 + t * u) (by omega) (by omega)]
    obtain ⟨v, e3, v0⟩ := l01Long_tot (1 + t * u) (by omega) (by omega) 32 (k + 1) (by omega)
    rw [e3]; simp only [Option.bind_some]
    rw [if_pos (by omega)]
    exact hj3 _ _ _ _ (by omega) (by rw [ba_size_app]; omega) r0
   | false =>
    rw [if_neg (by decide)]
    exact hj3 _ _ _ _ (by omega) (by omega) hp
  rw [spec_DrawSplitFields.l0, if_pos (by omega)]
  by_cases c : (i : Int) > 0
  ·rw [if_pos c]; exact hj2 true p h hp
  ·rw [if_neg c]
   obtain ⟨b, p1, h1, e, q0⟩ := l01Once_tot l hl p h 5 hp
   rw [e]; simp only [Option.bind_some]
   exact hj2 b p1 h1 q0
theorem DrawSplitFields_tot (l : List Int) (hl : l.length ≤ 140737488351232) (k : Nat) (hk : l.length < k) (hk2 : 4000 ≤ k) : ∃ s, spec_DrawSplitFields.f k l = some s := by
 unfold spec_DrawSplitFields.f
 obtain ⟨h0, e⟩ := l01New_eq l hl k hk
 rw [e]; simp only [Option.bind_some]
 obtain ⟨x, i1, h1, e, x0, x1, _, i0⟩ := l01Below_tot l hl 0 h0 9 (by omega)
 have := x1 (by omega)
 rw [e]; simp only [Option.bind_some]
 obtain ⟨b, i2, h2, e, i0⟩ := l01Once_tot l hl i1 h1 15 i0
 rw [e]; simp only [Option.bind_some]
 obtain ⟨k, rfl⟩ : ∃ m, k = m + 1 := ⟨k - 1, by omega⟩
 by_cases c : b = true
 ·rw [if_pos c]
  obtain ⟨y, i3, h3, e, y0, y1, _, i0⟩ := l01Below_tot l hl i2 h2 2 i0
  have := y1 (by omega)
  rw [e]; simp only [Option.bind_some]
  rw [w64_id (x := 24 + y) (by omega) (by omega), spec_DrawSplitFields.j0]
  obtain ⟨n, hn⟩ := Int.eq_ofNat_of_zero_le (show 0 ≤ 24 + y by omega)
  rw [hn]
  exact dsf_l0 l hl n (by omega) n k 0 _ i3 h3 (by omega) (by rw [show (⟨#[]⟩ : ByteArray).size = 0 from rfl]; omega) (by omega) i0
 ·rw [if_neg c, spec_DrawSplitFields.j0]
  obtain ⟨n, rfl⟩ := Int.eq_ofNat_of_zero_le x0
  exact dsf_l0 l hl n (by omega) n k 0 _ i2 h2 (by omega) (by rw [show (⟨#[]⟩ : ByteArray).size = 0 from rfl]; omega) (by omega) i0
def okW (t : List UInt8) : Prop := ∀ c ∈ t, c.toNat ≠ 32 ∧ goodC c = true
theorem toks_ok : ∀ (r cur : List UInt8), okW cur → r.all goodC = true → ∀ t ∈ toks cur r, t ≠ [] ∧ okW t
 | [], cur, hc, _, t, ht => by
  rw [toks] at ht
  split at ht
  ·simp at ht
  ·obtain rfl : t = cur := by simpa using ht
   exact ⟨by assumption, hc⟩
 | c :: r, cur, hc, hg, t, ht => by
  rw [List.all_cons, Bool.and_eq_true] at hg
  rw [toks] at ht
  split at ht
  ·split at ht
   ·exact toks_ok r [] (fun _ h => absurd h (by simp)) hg.2 t ht
   ·rcases List.mem_cons.1 ht with rfl | ht
    ·exact ⟨by assumption, hc⟩
    ·exact toks_ok r [] (fun _ h => absurd h (by simp)) hg.2 t ht
  ·rename_i h32
   refine toks_ok r (cur ++ [c]) (fun x hx => ?_) hg.2 t ht
   rcases List.mem_append.1 hx with hx | hx
   ·exact hc x hx
   ·obtain rfl : x = c := by simpa using hx
    exact ⟨h32, hg.1⟩
theorem toks_word : ∀ (t cur r : List UInt8), (∀ c ∈ t, c.toNat ≠ 32) → toks cur (t ++ 32 :: r) = if cur ++ t = [] then toks [] r else (cur ++ t) :: toks [] r
 | [], cur, r, _ => by
  rw [List.nil_append, List.append_nil, toks, if_pos (show (32 : UInt8).toNat = 32 by decide)]
 | c :: t, cur, r, h => by
  rw [List.cons_append, toks, if_neg (h c (by simp)), toks_word t (cur ++ [c]) r (fun x hx => h x (by simp [hx]))]
  simp
def joinT (ts : List (List UInt8)) : List UInt8 := ts.flatMap fun t => t ++ [32]
theorem toks_join : ∀ ts : List (List UInt8), (∀ t ∈ ts, t ≠ [] ∧ okW t) → toks [] (joinT ts) = ts
 | [], _ => rfl
 | t :: ts, h => by
  have h1 := h t (by simp)
  have e : joinT (t :: ts) = t ++ 32 :: joinT ts := by simp [joinT]
  rw [e, toks_word t [] _ (fun c hc => (h1.2 c hc).1), List.nil_append, if_neg h1.1, toks_join ts (fun u hu => h u (by simp [hu]))]
theorem join_good : ∀ ts : List (List UInt8), (∀ t ∈ ts, t ≠ [] ∧ okW t) → (joinT ts).all goodC = true
 | [], _ => rfl
 | t :: ts, h => by
  have h1 := h t (by simp)
  have e : joinT (t :: ts) = t ++ 32 :: joinT ts := by simp [joinT]
  rw [e, List.all_append, List.all_cons, join_good ts (fun u hu => h u (by simp [hu])), List.all_eq_true.2 fun c hc => (h1.2 c hc).2]
  decide
theorem rdS_map (T : List (List UInt8)) (i : Nat) (h : i < T.length) : rdOf ByteArray.empty (T.map ofL) (i : Int) = ofL T[i] := by
 unfold rdOf
 rw [Int.toNat_natCast, List.getD_eq_getElem?_getD, List.getElem?_map, List.getElem?_eq_getElem h]; rfl
theorem sameTexts_tot (p : List ByteArray) (hp : p.length ≤ 1000) (d : Nat) : ∀ (k i : Nat), i + d = p.length → d < k → laws_sameTexts.l0 k p p (i : Int) = some true := by
 induction d with
 | zero =>
  intro k i hi hk
  obtain ⟨k, rfl⟩ : ∃ m, k = m + 1 := ⟨k - 1, by omega⟩
  rw [laws_sameTexts.l0, if_neg (by omega)]
 | succ d ih =>
  intro k i hi hk
  obtain ⟨k, rfl⟩ : ∃ m, k = m + 1 := ⟨k - 1, by omega⟩
  rw [laws_sameTexts.l0, if_pos (by omega), if_pos (by omega), if_pos (by omega), if_pos rfl, w64_id (x := (i : Int) + 1) (by omega) (by omega)]
  exact ih k (i + 1) (by omega) (by omega)
theorem again_loop (T : List (List UInt8)) (hT : T.length ≤ 24) (hok : ∀ t ∈ T, t ≠ [] ∧ okW t) (hlen : ∀ t ∈ T, t.length ≤ 600) (d : Nat) : ∀ (k i : Nat), i + d = T.length → d + 3000 ≤ k → (joinT (T.take i)).length ≤ 601 * i →
  laws_FnFieldsAgain.l0 k (T.map ofL) true (ofL (joinT (T.take i))) (i : Int) = some true := by
 induction d with
 | zero =>
  intro k i hi hk hs
  obtain ⟨k, rfl⟩ : ∃ m, k = m + 1 := ⟨k - 1, by omega⟩
  have hl : (T.map ofL).length = T.length := by simp
  rw [laws_FnFieldsAgain.l0, hl, if_neg (by omega), impl_Split_eq _ k (by omega)]
  simp only [Option.bind_some]
  rw [if_pos trivial]
  by_cases h6 : ((ofL (joinT (T.take i))).size : Int) > 600
  ·rw [if_pos h6]
  ·rw [if_neg h6]
   have e : splitV (ofL (joinT (T.take i))) = (T.map ofL, true) := by
    rw [List.take_of_length_le (by omega)] at h6 ⊢
    unfold splitV
    rw [if_neg h6, ofL_data, if_pos (join_good T hok), toks_join T hok]
    unfold splitEnd
    rw [if_neg (by rw [hl]; omega)]
   rw [e, if_pos rfl]
   unfold laws_sameTexts.f
   rw [if_pos rfl, show (0 : Int) = ((0 : Nat) : Int) from rfl, sameTexts_tot (T.map ofL) (by rw [hl]; omega) T.length k 0 (by rw [hl]; omega) (by omega)]
   rfl
 | succ d ih =>
  intro k i hi hk hs
  obtain ⟨k, rfl⟩ : ∃ m, k = m + 1 := ⟨k - 1, by omega⟩
  have hl : (T.map ofL).length = T.length := by simp
  have hlt : i < T.length := by omega
  have hn := hlen T[i] (List.getElem_mem hlt)
  have e1 : (⟨#[32]⟩ : ByteArray) = ofL [32] := rfl
  have ej : joinT (T.take (i + 1)) = (joinT (T.take i) ++ T[i]) ++ [32] := by
   unfold joinT
   rw [List.take_succ_eq_append_getElem hlt, List.flatMap_append]
   simp only [List.flatMap_cons, List.flatMap_nil, List.append_nil, List.append_assoc]
  have := ih k (i + 1) (by omega) (by omega) (by rw [ej]; simp; omega)
  rw [laws_FnFieldsAgain.l0, hl, if_pos (by omega), if_pos (by omega), rdS_map T i hlt, ofL_size, ofL_size, if_pos (by omega), ofL_app, ofL_size, if_pos (by simp; omega), e1, ofL_app, ← ej, w64_id (x := (i : Int) + 1) (by omega) (by omega)]
  exact this
theorem FnFieldsAgain : laws_FnFieldsAgain.Pure := by
 intro l _ hl _
 obtain ⟨K, hK⟩ : ∃ K, K = l.length + 5000 := ⟨_, rfl⟩
 refine ⟨K, ?_⟩
 unfold laws_FnFieldsAgain.f laws_big.f
 simp only [Option.bind_some]
 by_cases hb : decide ((l.length : Int) > 1048576) = true
 ·rw [if_pos hb]
 ·rw [if_neg hb]
  obtain ⟨s, e⟩ := DrawSplitFields_tot l (by omega) K (by omega) (by omega)
  rw [e]; simp only [Option.bind_some]
  rw [impl_Split_eq s K (by omega), spec_Split_eq s K (by omega)]
  simp only [Option.bind_some]
  by_cases hok : (splitV s).2 = true
  ·rw [if_pos hok, hok]
   obtain ⟨T, hT, hT2, hT3, hT4⟩ : ∃ T : List (List UInt8), (splitV s).1 = T.map ofL ∧ T.length ≤ 24 ∧ (∀ t ∈ T, t ≠ [] ∧ okW t) ∧ ∀ t ∈ T, t.length ≤ 600 := by
    unfold splitV at hok ⊢
    by_cases h6 : (s.size : Int) > 600
    ·rw [if_pos h6] at hok; exact absurd hok (by simp)
    ·rw [if_neg h6] at hok ⊢
     by_cases hg : s.data.toList.all goodC = true
     ·rw [if_pos hg] at hok ⊢
      unfold splitEnd at hok ⊢
      by_cases h24 : (((toks [] s.data.toList).map ofL).length : Int) > 24
      ·rw [if_pos h24] at hok; exact absurd hok (by simp)
      ·rw [if_neg h24]
       refine ⟨toks [] s.data.toList, rfl, by simp at h24; omega, toks_ok _ [] (fun _ h => absurd h (by simp)) hg, fun t ht => ?_⟩
       have := toks_len _ _ t ht
       have e : s.data.toList.length = s.size := Array.length_toList
       simp at this; omega
     ·rw [if_neg hg] at hok; exact absurd hok (by simp)
   rw [hT]
   have := again_loop T hT2 hT3 hT4 T.length K 0 (by omega) (by omega) (by simp [joinT])
   rw [List.take_zero] at this
   exact this
  ·rw [if_neg hok, if_neg hok, split_off s (by simpa using hok), if_pos (show (([] : List ByteArray).length : Int) = 0 from rfl), impl_FormatInt_eq (by omega) (by omega)]
   have e2 : (fmtV (-3)).toList = [45, 51] := by rw [tl_data]; unfold fmtV; rw [ofL_data]; decide +kernel
   simp only [Option.bind_some, e2]
   rfl

end Go.Proofs.YtcocebkmfmiaeaaDoor.Q.P
namespace Go.Proofs.YtcocebkmfmiaeaaDoor.Pure
theorem FnFieldsAgain : Go.Proofs.YtcocebkmfmiaeaaDoor.Q.laws_FnFieldsAgain.Pure := Go.Proofs.YtcocebkmfmiaeaaDoor.Q.P.FnFieldsAgain
end Go.Proofs.YtcocebkmfmiaeaaDoor.Pure
