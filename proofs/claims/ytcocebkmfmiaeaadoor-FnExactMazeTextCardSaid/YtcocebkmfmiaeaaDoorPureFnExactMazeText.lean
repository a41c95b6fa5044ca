/- The plain law FnExactMazeText: for every input that its Go types allow, the printed functions of the program and of the reference answer so that the law's own function says true. No further condition. -/
import Derived.Test.YtcocebkmfmiaeaaDoorQx0
import Derived.Test.YtcocebkmfmiaeaaDoorQx10
import Derived.Test.YtcocebkmfmiaeaaDoorQx11
import Derived.Test.YtcocebkmfmiaeaaDoorQx12
import Derived.Test.YtcocebkmfmiaeaaDoorQx13
import Derived.Test.YtcocebkmfmiaeaaDoorQx2
import Derived.Test.YtcocebkmfmiaeaaDoorQx3
import Derived.Test.YtcocebkmfmiaeaaDoorQx8
import Derived.Test.YtcocebkmfmiaeaaDoorQx9
namespace Go.Proofs.YtcocebkmfmiaeaaDoor.Q.P
open Go.RowKit Go.Proofs.YtcocebkmfmiaeaaDoor.Q Go.Proofs.YtcocebkmfmiaeaaDoorW.PrintWords Go.Proofs.YtcocebkmfmiaeaaDoorW.PrintLast
set_option linter.unusedVariables false
set_option linter.unusedSimpArgs false

theorem w64_id {x : Int} (h0 : -9223372036854775808 ≤ x) (h1 : x ≤ 9223372036854775807) : wrap64 x = x := by
 unfold wrap64; omega
theorem shl_one {g : Int} (h0 : 0 ≤ g) (h1 : g ≤ 62) : shl .i64 1 g = 2 ^ g.toNat := by
 unfold shl
 rw [i64_w, Nat.min_eq_left (by simp only [IntKind.bits]; omega), Int.one_mul]
 have : (2 : Int) ^ g.toNat ≤ 2 ^ 62 := by
  have := Nat.pow_le_pow_right (n := 2) (by omega) (show g.toNat ≤ 62 by omega)
  exact_mod_cast this
 have h3 : (0 : Int) < 2 ^ g.toNat := by exact_mod_cast Nat.pow_pos (by omega)
 exact w64_id (by omega) (by omega)
theorem shl_pos {g : Int} (h0 : 0 ≤ g) (h1 : g ≤ 62) : 0 < shl .i64 1 g ∧ shl .i64 1 g ≤ 4611686018427387904 := by
 rw [shl_one h0 h1]
 have : (2 : Int) ^ g.toNat ≤ 2 ^ 62 := by
  have := Nat.pow_le_pow_right (n := 2) (by omega) (show g.toNat ≤ 62 by omega)
  exact_mod_cast this
 have h3 : (0 : Int) < 2 ^ g.toNat := by exact_mod_cast Nat.pow_pos (by omega)
 exact ⟨h3, by omega⟩
def gOk (w h : Int) : Bool := decide (1 ≤ w) && decide (w ≤ 4) && decide (1 ≤ h) && decide (h ≤ 4)
theorem gOk_iff {w h : Int} : gOk w h = true ↔ 1 ≤ w ∧ w ≤ 4 ∧ 1 ≤ h ∧ h ≤ 4 := by
 unfold gOk; simp only [Bool.and_eq_true, decide_eq_true_eq]; omega
theorem gOk_cases {w h : Int} (hg : gOk w h = true) : (w = 1 ∨ w = 2 ∨ w = 3 ∨ w = 4) ∧ (h = 1 ∨ h = 2 ∨ h = 3 ∨ h = 4) := by
 have := gOk_iff.1 hg; omega
def nCells (w h : Int) : Int := if gOk w h = true then w * h else 0
def nGaps (w h : Int) : Int := if gOk w h = true then (w - 1) * h + w * (h - 1) else 0
def nCorn (w h : Int) : Int := if gOk w h = true then (w + 1) * (h + 1) else 0
def nEast (w h : Int) : Int := (w - 1) * h
theorem nGaps_bd (w h : Int) : 0 ≤ nGaps w h ∧ nGaps w h ≤ 24 := by
 unfold nGaps
 split
 ·rename_i hg; rcases gOk_cases hg with ⟨rfl | rfl | rfl | rfl, rfl | rfl | rfl | rfl⟩ <;> decide +kernel
 ·omega
theorem l01In_eq (a b c : Int) : spec_l01In.f a b c = some (decide (b ≤ a) && decide (a ≤ c)) := by
 unfold spec_l01In.f
 by_cases h : a ≥ b
 ·rw [if_pos h]; simp [show b ≤ a from h]
 ·rw [if_neg h]; simp [show ¬ b ≤ a from h]
theorem spec_GridOk_eq (w h : Int) : spec_GridOk.f w h = some (gOk w h) := by
 unfold spec_GridOk.f gOk
 simp only [l01In_eq, Option.bind_some]
 by_cases h1 : 1 ≤ w <;> by_cases h2 : w ≤ 4 <;> simp [h1, h2]
theorem impl_GridOk_eq (w h : Int) : impl_GridOk.f w h = some (gOk w h) := by
 unfold impl_GridOk.f gOk
 by_cases h1 : 1 ≤ w <;> by_cases h2 : w ≤ 4 <;> by_cases h3 : 1 ≤ h <;> simp [h1, h2, h3]
theorem toMaze_eq (w h o : Int) : laws_toMaze.f w h o = some (w, h, o) := rfl
theorem l02East_eq {w h : Int} (hg : gOk w h = true) : spec_l02East.f w h = some (nEast w h) := by
 unfold spec_l02East.f nEast
 rcases gOk_cases hg with ⟨rfl | rfl | rfl | rfl, rfl | rfl | rfl | rfl⟩ <;> decide +kernel
theorem spec_CountGaps_eq (w h : Int) : spec_CountGaps.f w h = some (nGaps w h) := by
 unfold spec_CountGaps.f nGaps
 rw [spec_GridOk_eq]; simp only [Option.bind_some]
 by_cases hg : gOk w h = true
 ·rw [if_pos hg, if_pos hg, l02East_eq hg]
  rcases gOk_cases hg with ⟨rfl | rfl | rfl | rfl, rfl | rfl | rfl | rfl⟩ <;> decide +kernel
 ·rw [if_neg hg, if_neg hg]
theorem impl_CountGaps_eq (w h : Int) : impl_CountGaps.f w h = some (nGaps w h) := by
 unfold impl_CountGaps.f nGaps
 rw [impl_GridOk_eq]; simp only [Option.bind_some]
 by_cases hg : gOk w h = true
 ·rw [if_pos hg, if_pos hg]
  rcases gOk_cases hg with ⟨rfl | rfl | rfl | rfl, rfl | rfl | rfl | rfl⟩ <;> decide +kernel
 ·rw [if_neg hg, if_neg hg]
def mOk (w h o : Int) : Bool := gOk w h && (decide (0 ≤ o) && decide (o < shl .i64 1 (nGaps w h)))
theorem mOk_iff {w h o : Int} : mOk w h o = true ↔ gOk w h = true ∧ 0 ≤ o ∧ o < 2 ^ (nGaps w h).toNat := by
 unfold mOk
 have := nGaps_bd w h
 rw [shl_one (by omega) (by omega)]
 simp only [Bool.and_eq_true, decide_eq_true_eq]
theorem mOk_bd {w h o : Int} (hm : mOk w h o = true) : 0 ≤ o ∧ o < 16777216 := by
 obtain ⟨_, h0, h1⟩ := mOk_iff.1 hm
 have := nGaps_bd w h
 have h2 := Nat.pow_le_pow_right (n := 2) (by omega) (show (nGaps w h).toNat ≤ 24 by omega)
 have h3 : (2 : Int) ^ (nGaps w h).toNat ≤ 2 ^ 24 := by exact_mod_cast h2
 omega
theorem spec_MazeOk_eq (w h o : Int) : spec_MazeOk.f w h o = some (mOk w h o) := by
 unfold spec_MazeOk.f mOk
 have hb := nGaps_bd w h
 have hs := shl_pos (g := nGaps w h) (by omega) (by omega)
 simp only [spec_GridOk_eq, spec_CountGaps_eq, l01In_eq, Option.bind_some]
 rw [if_pos hb.1, w64_id (by omega) (by omega)]
 by_cases hg : gOk w h = true
 ·rw [if_pos hg, hg, Bool.true_and]
  congr 2
  rw [Bool.eq_iff_iff]; simp only [decide_eq_true_eq]; omega
 ·rw [if_neg hg]; simp [hg]
theorem impl_MazeOk_eq (w h o : Int) : impl_MazeOk.f w h o = some (mOk w h o) := by
 unfold impl_MazeOk.f mOk
 have hb := nGaps_bd w h
 simp only [impl_GridOk_eq, impl_CountGaps_eq, Option.bind_some]
 rw [if_pos hb.1]
 by_cases hg : gOk w h = true
 ·rw [if_pos hg, hg, Bool.true_and]
  by_cases h0 : 0 ≤ o
  ·rw [if_pos h0]; simp [h0]
  ·rw [if_neg h0]; simp [h0]
 ·rw [if_neg hg]; simp [hg]
theorem open_nat {w h o : Int} (hm : mOk w h o = true) : o.toNat < 2 ^ (nGaps w h).toNat ∧ o.toNat < 16777216 ∧ ((o.toNat : Nat) : Int) = o := by
 obtain ⟨_, h0, h1⟩ := mOk_iff.1 hm
 have hb := mOk_bd hm
 have : ((o.toNat : Nat) : Int) < ((2 ^ (nGaps w h).toNat : Nat) : Int) := by rw [Int.toNat_of_nonneg h0]; simpa using h1
 exact ⟨by exact_mod_cast this, by omega, by omega⟩
theorem tl_loop (bs : ByteArray) (d : Nat) : ∀ (i : Nat) (r : List UInt8), bs.size - i = d → ByteArray.toList.loop bs i r = r.reverse ++ bs.data.toList.drop i := by
 induction d with
 | zero =>
  intro i r h
  rw [ByteArray.toList.loop, if_neg (by omega), List.drop_eq_nil_of_le (by show bs.data.toList.length ≤ i; rw [Array.length_toList]; show bs.size ≤ i; omega)]
  simp
 | succ d ih =>
  intro i r h
  have hi : i < bs.data.toList.length := by rw [Array.length_toList]; show i < bs.size; omega
  rw [ByteArray.toList.loop, if_pos (by omega), ih (i + 1) _ (by omega), List.drop_eq_getElem_cons hi, List.reverse_cons, List.append_assoc]
  congr 1
  show bs.get! i :: _ = _
  congr 1
  have hi2 : i < bs.size := by omega
  show bs.data[i]! = _
  rw [getElem!_pos bs.data i hi2]; simp
theorem tl_data (bs : ByteArray) : bs.toList = bs.data.toList := by
 show ByteArray.toList.loop bs 0 [] = _
 rw [tl_loop bs bs.size 0 [] rfl]; simp
theorem ba_ext {a b : ByteArray} (h : a.data.toList = b.data.toList) : a = b := ByteArray.ext (Array.ext' h)
theorem tl_inj {a b : ByteArray} : a.toList = b.toList ↔ a = b := by
 rw [tl_data, tl_data]
 exact ⟨ba_ext, fun h => by rw [h]⟩
def ofL (l : List UInt8) : ByteArray := ⟨l.toArray⟩
theorem ofL_data (l : List UInt8) : (ofL l).data.toList = l := by simp [ofL]
theorem ofL_of (s : ByteArray) : ofL s.data.toList = s := ba_ext (ofL_data _)
theorem ofL_inj {a b : List UInt8} : ofL a = ofL b ↔ a = b := ⟨fun h => by have := congrArg (fun s : ByteArray => s.data.toList) h; simpa [ofL_data] using this, fun h => by rw [h]⟩
theorem ofL_app (a b : List UInt8) : ofL a ++ ofL b = ofL (a ++ b) := by
 apply ba_ext
 rw [ByteArray.data_append]
 simp [ofL]
theorem ofL_size (a : List UInt8) : (ofL a).size = a.length := by
 show (ofL a).data.size = _
 simp [ofL]
theorem bt_ofL (l : List UInt8) (i : Nat) (h : i < l.length) : bt (ofL l) (i : Int) = ((l[i]).toNat : Int) := by
 have hs : i < (ofL l).size := by rw [ofL_size]; exact h
 unfold bt
 rw [dif_pos (by simpa using hs)]
 show (((ofL l).data[i]'hs).toNat : Int) = _
 simp [ofL]
def hor (a : Nat) (l : List UInt8) : Nat := l.foldl (fun a c => 10 * a + (c.toNat - 48)) a
def isDig (c : UInt8) : Bool := decide (48 ≤ c.toNat) && decide (c.toNat ≤ 57)
theorem dig_ok (d : Nat) (h : d < 10) : (UInt8.ofNat (48 + d)).toNat = 48 + d ∧ isDig (UInt8.ofNat (48 + d)) = true := by
 have : ∀ q : Fin 10, (UInt8.ofNat (48 + q.val)).toNat = 48 + q.val ∧ isDig (UInt8.ofNat (48 + q.val)) = true := by decide +kernel
 exact this ⟨d, h⟩
theorem dd_big {u : Nat} (h : ¬ u < 10) : Lib.decDigits u = Lib.decDigits (u / 10) ++ [UInt8.ofNat (48 + u % 10)] := by rw [Lib.decDigits, dif_neg h]
theorem hor_dd (u : Nat) : hor 0 (Lib.decDigits u) = u := by
 induction u using Nat.strongRecOn with
 | _ u ih =>
  by_cases h : u < 10
  ·rw [Lib.decDigits_one h]
   show 10 * 0 + ((UInt8.ofNat (48 + u)).toNat - 48) = u
   rw [(dig_ok u h).1]; omega
  ·rw [dd_big h]
   unfold hor
   rw [List.foldl_append]
   show 10 * (hor 0 (Lib.decDigits (u / 10))) + ((UInt8.ofNat (48 + u % 10)).toNat - 48) = u
   rw [ih (u / 10) (by omega), (dig_ok (u % 10) (by omega)).1]; omega
theorem dd_dig (u : Nat) : (Lib.decDigits u).all isDig = true := by
 induction u using Nat.strongRecOn with
 | _ u ih =>
  by_cases h : u < 10
  ·rw [Lib.decDigits_one h, List.all_cons, (dig_ok u h).2]; rfl
  ·rw [dd_big h, List.all_append, ih (u / 10) (by omega), List.all_cons, (dig_ok (u % 10) (by omega)).2]; rfl
theorem dd_pos (u : Nat) : 0 < (Lib.decDigits u).length := by
 by_cases h : u < 10
 ·rw [Lib.decDigits_one h]; simp
 ·rw [dd_big h]; simp
theorem dd_len (k : Nat) : ∀ u, u < 10 ^ (k + 1) → (Lib.decDigits u).length ≤ k + 1 := by
 induction k with
 | zero => intro u h; rw [Lib.decDigits_one (by omega)]; simp
 | succ k ih =>
  intro u h
  by_cases h1 : u < 10
  ·rw [Lib.decDigits_one h1]; simp
  ·rw [dd_big h1, List.length_append]
   have : u / 10 < 10 ^ (k + 1) := by rw [Nat.pow_succ] at h; omega
   have := ih _ this
   simp; omega
def fmtV (n : Int) : ByteArray := ofL (Lib.itoa n)
theorem itoa_len {n : Int} (h0 : -9223372036854775808 ≤ n) (h1 : n ≤ 9223372036854775807) : (Lib.itoa n).length ≤ 21 ∧ 0 < (Lib.itoa n).length := by
 unfold Lib.itoa
 split
 ·have := dd_len 19 n.natAbs (by omega)
  have := dd_pos n.natAbs
  simp; omega
 ·have := dd_len 19 n.toNat (by omega)
  have := dd_pos n.toNat
  omega
theorem fmtV_size {n : Int} (h0 : -9223372036854775808 ≤ n) (h1 : n ≤ 9223372036854775807) : (fmtV n).size ≤ 21 ∧ 0 < (fmtV n).size := by
 unfold fmtV; rw [ofL_size]; exact itoa_len h0 h1
theorem head_dig {u : Nat} {c : UInt8} {r : List UInt8} (h : Lib.decDigits u = c :: r) : 48 ≤ c.toNat ∧ c.toNat ≤ 57 := by
 have := dd_dig u
 rw [h] at this
 simp [isDig] at this
 exact this.1
theorem itoa_inj {a b : Int} (h : Lib.itoa a = Lib.itoa b) : a = b := by
 have key : ∀ u v : Nat, (45 : UInt8) :: Lib.decDigits u ≠ Lib.decDigits v := fun u v e => by
  have := head_dig e.symm
  have : (45 : UInt8).toNat = 45 := by decide
  omega
 unfold Lib.itoa at h
 split at h <;> split at h
 ·have := congrArg (hor 0) (List.cons.inj h).2
  rw [hor_dd, hor_dd] at this; omega
 ·exact absurd h (key _ _)
 ·exact absurd h.symm (key _ _)
 ·have := congrArg (hor 0) h
  rw [hor_dd, hor_dd] at this; omega
theorem fmtV_inj {a b : Int} (h : fmtV a = fmtV b) : a = b := itoa_inj (ofL_inj.1 h)
theorem impl_FormatInt_eq {n : Int} (h0 : -9223372036854775808 ≤ n) (h1 : n ≤ 9223372036854775807) : impl_FormatInt.f n = some (fmtV n) := by
 unfold impl_FormatInt.f strconv_Itoa_37.f
 rw [if_pos ⟨h0, h1⟩]; rfl
def digs (u : Nat) : List UInt8 := if u = 0 then [] else Lib.decDigits u
theorem digs_step {u : Nat} (h : u ≠ 0) : digs u = digs (u / 10) ++ [UInt8.ofNat (48 + u % 10)] := by
 unfold digs
 rw [if_neg h]
 by_cases h1 : u < 10
 ·rw [if_pos (by omega), Lib.decDigits_one h1, show u % 10 = u by omega]; rfl
 ·rw [if_neg (by omega), dd_big h1]
theorem one_num (d : Int) (h0 : 0 ≤ d) (h1 : d < 10) : spec_l01Figure.f d = some (48 + d) ∧ strOfNums [48 + d] = ofL [UInt8.ofNat (48 + d.toNat)] := by
 obtain ⟨q, rfl⟩ := Int.eq_ofNat_of_zero_le h0
 have : ∀ q : Fin 10, spec_l01Figure.f (q.val : Int) = some (48 + (q.val : Int)) ∧ strOfNums [48 + (q.val : Int)] = ofL [UInt8.ofNat (48 + (q.val : Int).toNat)] := by decide +kernel
 exact this ⟨q, by omega⟩
theorem spec_Fmt_loop (b : Bool) (d : Nat) : ∀ (u : Nat) (x : Int) (acc : List UInt8) (k : Nat), u < 10 ^ d → x.natAbs = u → (x < 0 → b = true) → -9223372036854775808 ≤ x → x ≤ 9223372036854775807 → d + 1 ≤ k → acc.length + d ≤ 100 → spec_FormatInt.l0 k x b (ofL acc) = some (if b = true then ofL (45 :: (digs u ++ acc)) else ofL (digs u ++ acc)) := by
 have minus : (⟨#[45]⟩ : ByteArray) = ofL [45] := rfl
 induction d with
 | zero =>
  intro u x acc k hu hx hb x0 x1 hk hl
  obtain ⟨k, rfl⟩ : ∃ m, k = m + 1 := ⟨k - 1, by omega⟩
  obtain rfl : u = 0 := by simpa using hu
  obtain rfl : x = 0 := by omega
  rw [spec_FormatInt.l0, if_pos rfl]
  cases b with
  | true => rw [if_pos rfl, ofL_size, if_pos (by omega), minus, ofL_app]; rfl
  | false => rfl
 | succ d ih =>
  intro u x acc k hu hx hb x0 x1 hk hl
  obtain ⟨k, rfl⟩ : ∃ m, k = m + 1 := ⟨k - 1, by omega⟩
  by_cases h0 : x = 0
  ·subst h0
   obtain rfl : u = 0 := by simpa using hx.symm
   rw [spec_FormatInt.l0, if_pos rfl]
   cases b with
   | true => rw [if_pos rfl, ofL_size, if_pos (by omega), minus, ofL_app]; rfl
   | false => rfl
  ·have hu10 : u / 10 < 10 ^ d := by rw [Nat.pow_succ] at hu; omega
   have hu0 : u ≠ 0 := by omega
   have tm : Int.tmod x 10 = if x < 0 then -((u % 10 : Nat) : Int) else ((u % 10 : Nat) : Int) := by
    by_cases hn : x < 0
    ·rw [if_pos hn, show x = -(u : Int) by omega, Int.neg_tmod, Int.tmod_eq_emod_of_nonneg (by omega)]; omega
    ·rw [if_neg hn, Int.tmod_eq_emod_of_nonneg (by omega)]; omega
   have td : Int.tdiv x 10 = if x < 0 then -((u / 10 : Nat) : Int) else ((u / 10 : Nat) : Int) := by
    by_cases hn : x < 0
    ·rw [if_pos hn, show x = -(u : Int) by omega, Int.neg_tdiv, Int.tdiv_eq_ediv_of_nonneg (by omega)]; omega
    ·rw [if_neg hn, Int.tdiv_eq_ediv_of_nonneg (by omega)]; omega
   have hb2 : Int.tdiv x 10 < 0 → b = true := fun h => hb (by rw [td] at h; split at h <;> omega)
   have ha : (Int.tdiv x 10).natAbs = u / 10 := by rw [td]; split <;> omega
   obtain ⟨o1, o2⟩ := one_num ((u % 10 : Nat) : Int) (by omega) (by omega)
   rw [Int.toNat_natCast] at o2
   have go := ih (u / 10) (Int.tdiv x 10) (UInt8.ofNat (48 + u % 10) :: acc) k hu10 ha hb2 (by rw [td]; split <;> omega) (by rw [td]; split <;> omega) (by omega) (by simp; omega)
   have e1 : digs (u / 10) ++ (UInt8.ofNat (48 + u % 10) :: acc) = digs u ++ acc := by rw [digs_step hu0, List.append_assoc]; rfl
   rw [e1] at go
   have hw : wrap64 (Int.tdiv x 10) = Int.tdiv x 10 := w64_id (by rw [td]; split <;> omega) (by rw [td]; split <;> omega)
   have fin : ((spec_l01Figure.f ((u % 10 : Nat) : Int)).bind fun t => ((some (([t] : List Int) : List Int)).bind fun y => (if (strOfNums y).size + (ofL acc).size ≤ 9223372036854775807 then (spec_FormatInt.l0 k (wrap64 (Int.tdiv x 10)) b ((strOfNums y) ++ (ofL acc))) else (none)))) = some (if b = true then ofL (45 :: (digs u ++ acc)) else ofL (digs u ++ acc)) := by
    rw [o1]
    simp only [Option.bind_some]
    rw [o2, ofL_size, ofL_size, if_pos (by simp; omega), ofL_app, hw]
    exact go
   rw [spec_FormatInt.l0, if_neg h0]
   by_cases ht : Int.tmod x 10 < 0
   ·rw [if_pos ht]
    have e : wrap64 (-(Int.tmod x 10)) = ((u % 10 : Nat) : Int) := by
     rw [w64_id (by rw [tm]; split <;> omega) (by rw [tm]; split <;> omega)]
     rw [tm] at ht ⊢
     by_cases hn : x < 0
     ·rw [if_pos hn]; omega
     ·rw [if_neg hn] at ht; omega
    rw [e]; exact fin
   ·rw [if_neg ht]
    have e : Int.tmod x 10 = ((u % 10 : Nat) : Int) := by
     rw [tm] at ht ⊢
     by_cases hn : x < 0
     ·rw [if_pos hn] at ht ⊢; omega
     ·rw [if_neg hn]
    rw [e]; exact fin
theorem spec_FormatInt_eq {n : Int} (h0 : -9223372036854775808 ≤ n) (h1 : n ≤ 9223372036854775807) (k : Nat) (hk : 25 ≤ k) : spec_FormatInt.f k n = some (fmtV n) := by
 unfold spec_FormatInt.f
 by_cases hz : n = 0
 ·rw [if_pos hz]; subst hz; decide +kernel
 ·rw [if_neg hz]
  have := spec_Fmt_loop (decide (n < 0)) 20 n.natAbs n [] k (by omega) rfl (fun h => decide_eq_true h) h0 h1 (by omega) (by simp)
  have hd : digs n.natAbs = Lib.decDigits n.natAbs := by unfold digs; rw [if_neg (by omega)]
  rw [show (⟨#[]⟩ : ByteArray) = ofL [] from rfl, this, hd, List.append_nil]
  unfold fmtV Lib.itoa
  by_cases hn : n < 0
  ·rw [if_pos (decide_eq_true hn), if_pos hn]
  ·rw [if_neg (by simpa using hn), if_neg hn, show n.toNat = n.natAbs by omega]
def textV (w h o : Int) : ByteArray := if mOk w h o = true then (((fmtV w ++ ofL [32]) ++ fmtV h) ++ ofL [32]) ++ fmtV o else ofL []
theorem ba_size_app (a b : ByteArray) : (a ++ b).size = a.size + b.size := ByteArray.size_append ..
theorem mOk_small {w h o : Int} (hm : mOk w h o = true) : (1 ≤ w ∧ w ≤ 4 ∧ 1 ≤ h ∧ h ≤ 4) ∧ 0 ≤ o ∧ o < 16777216 := by
 have h1 := gOk_iff.1 (mOk_iff.1 hm).1
 have h2 := open_nat hm
 exact ⟨h1, by omega, by omega⟩
theorem impl_MazeText_eq (w h o : Int) : impl_MazeText.f w h o = some (textV w h o) := by
 unfold impl_MazeText.f textV
 rw [impl_MazeOk_eq]; simp only [Option.bind_some]
 by_cases hm : mOk w h o = true
 ·rw [if_pos hm, if_pos hm]
  have hb := mOk_small hm
  have s1 := fmtV_size (n := w) (by omega) (by omega)
  have s2 := fmtV_size (n := h) (by omega) (by omega)
  have s3 := fmtV_size (n := o) (by omega) (by omega)
  have e1 : (⟨#[32]⟩ : ByteArray) = ofL [32] := rfl
  have e2 : (ofL [32]).size = 1 := rfl
  rw [impl_FormatInt_eq (by omega) (by omega), impl_FormatInt_eq (by omega) (by omega), impl_FormatInt_eq (by omega) (by omega)]
  simp only [Option.bind_some, e1, ba_size_app, e2]
  rw [if_pos (by omega), if_pos (by omega), if_pos (by omega), if_pos (by omega)]
 ·rw [if_neg hm, if_neg hm]; rfl
theorem spec_MazeText_eq (w h o : Int) (k : Nat) (hk : 25 ≤ k) : spec_MazeText.f k w h o = some (textV w h o) := by
 unfold spec_MazeText.f textV
 rw [spec_MazeOk_eq]; simp only [Option.bind_some]
 by_cases hm : mOk w h o = true
 ·rw [if_pos hm, if_pos hm]
  have hb := mOk_small hm
  have s1 := fmtV_size (n := w) (by omega) (by omega)
  have s2 := fmtV_size (n := h) (by omega) (by omega)
  have s3 := fmtV_size (n := o) (by omega) (by omega)
  have e1 : (⟨#[32]⟩ : ByteArray) = ofL [32] := rfl
  have e2 : (ofL [32]).size = 1 := rfl
  rw [spec_FormatInt_eq (by omega) (by omega) k hk, spec_FormatInt_eq (by omega) (by omega) k hk, spec_FormatInt_eq (by omega) (by omega) k hk]
  simp only [Option.bind_some, e1, ba_size_app, e2]
  rw [if_pos (by omega), if_pos (by omega), if_pos (by omega), if_pos (by omega)]
 ·rw [if_neg hm, if_neg hm]; rfl
theorem FnExactMazeText : laws_FnExactMazeText.Pure := by
 intro w h o _ _ _
 refine ⟨25, ?_⟩
 unfold laws_FnExactMazeText.f
 simp only [toMaze_eq, Option.bind_some, spec_MazeText_eq w h o 25 (by omega), impl_MazeText_eq, if_true]

end Go.Proofs.YtcocebkmfmiaeaaDoor.Q.P
namespace Go.Proofs.YtcocebkmfmiaeaaDoor.Pure
theorem FnExactMazeText : Go.Proofs.YtcocebkmfmiaeaaDoor.Q.laws_FnExactMazeText.Pure := Go.Proofs.YtcocebkmfmiaeaaDoor.Q.P.FnExactMazeText
end Go.Proofs.YtcocebkmfmiaeaaDoor.Pure
