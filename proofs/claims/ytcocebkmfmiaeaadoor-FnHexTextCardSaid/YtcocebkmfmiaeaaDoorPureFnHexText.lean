/- The plain law FnHexText: for every input that its Go types allow, the printed functions of the program and of the reference answer so that the law's own function says true. No further condition. -/
import Derived.Test.YtcocebkmfmiaeaaDoorQx0
import Derived.Test.YtcocebkmfmiaeaaDoorQx19
import Derived.Test.YtcocebkmfmiaeaaDoorQx2
import Derived.Test.YtcocebkmfmiaeaaDoorQx22
import Derived.Test.YtcocebkmfmiaeaaDoorQx23
import Derived.Test.YtcocebkmfmiaeaaDoorQx24
import Derived.Test.YtcocebkmfmiaeaaDoorQx25
import Derived.Test.YtcocebkmfmiaeaaDoorQx26
import Derived.Test.YtcocebkmfmiaeaaDoorQx3
namespace Go.Proofs.YtcocebkmfmiaeaaDoor.Q.P
open Go.RowKit Go.Proofs.YtcocebkmfmiaeaaDoor.Q Go.Proofs.YtcocebkmfmiaeaaDoorW.PrintWords Go.Proofs.YtcocebkmfmiaeaaDoorW.PrintLast
set_option linter.unusedVariables false
set_option linter.unusedSimpArgs false

theorem w64_id {x : Int} (h0 : -9223372036854775808 ≤ x) (h1 : x ≤ 9223372036854775807) : wrap64 x = x := by
 unfold wrap64; omega
theorem bits_and_255 (y : Int) : 0 ≤ Go.bits .and .i64 y 255 ∧ Go.bits .and .i64 y 255 ≤ 255 := by
 have e : Go.bits .and .i64 y 255 = (((BitVec.ofInt 64 y) &&& (BitVec.ofInt 64 255)).toNat : Int) := by
  show IntKind.i64.wrap (((BitVec.ofInt 64 y) &&& (BitVec.ofInt 64 255)).toNat : Int) = _
  rw [i64_w]
  have h1 : ((BitVec.ofInt 64 y) &&& (BitVec.ofInt 64 255)).toNat ≤ 255 := by rw [BitVec.toNat_and]; exact Nat.and_le_right
  exact w64_id (by omega) (by omega)
 have h1 : ((BitVec.ofInt 64 y) &&& (BitVec.ofInt 64 255)).toNat ≤ 255 := by rw [BitVec.toNat_and]; exact Nat.and_le_right
 omega
theorem below256 {P : Int → Prop} (h : ∀ n : Fin 256, P (n.val : Int)) (c : Int) (h0 : 0 ≤ c) (h1 : c ≤ 255) : P c := by
 have := h ⟨c.toNat, by omega⟩
 simpa [Int.toNat_of_nonneg h0] using this
theorem l01New_tot (l : List Int) (hl : l.length ≤ 140737488351232) (d : Nat) : ∀ (k : Nat) (h i : Int), 0 ≤ i → (l.length : Int) - i ≤ d → d < k → ∃ h', spec_l01New.l0 k l h i = some (l, 0, h') := by
 induction d with
 | zero =>
  intro k h i h0 hd hk
  obtain ⟨k, rfl⟩ : ∃ m, k = m + 1 := ⟨k - 1, by omega⟩
  simp only [spec_l01New.l0]; rw [if_neg (by omega)]; exact ⟨_, rfl⟩
 | succ d ih =>
  intro k h i h0 hd hk
  obtain ⟨k, rfl⟩ : ∃ m, k = m + 1 := ⟨k - 1, by omega⟩
  simp only [spec_l01New.l0]
  by_cases h1 : i < (l.length : Int)
  ·rw [if_pos h1]
   by_cases h2 : i < 4000
   ·rw [if_pos h2, if_pos h0, w64_id (x := i + 1) (by omega) (by omega)]
    exact ih _ _ _ (by omega) (by omega) (by omega)
   ·rw [if_neg h2]; exact ⟨_, rfl⟩
  ·rw [if_neg h1]; exact ⟨_, rfl⟩
theorem l01New_eq (l : List Int) (hl : l.length ≤ 140737488351232) (k : Nat) (hk : l.length < k) : ∃ h', spec_l01New.f k l = some (l, 0, h') := by
 unfold spec_l01New.f
 exact l01New_tot l hl l.length k _ _ (by omega) (by omega) hk
theorem l01Byte_tot (l : List Int) (hl : l.length ≤ 140737488351232) (i h : Int) (h0 : 0 ≤ i) : ∃ x i' h', spec_l01Byte.f l i h = some (x, i', h') ∧ 0 ≤ x ∧ x ≤ 255 ∧ 0 ≤ i' := by
 unfold spec_l01Byte.f
 by_cases h1 : i < (l.length : Int)
 ·rw [if_pos h1, if_pos h0, w64_id (x := i + 1) (by omega) (by omega)]
  exact ⟨_, _, _, rfl, (bits_and_255 _).1, (bits_and_255 _).2, by omega⟩
 ·rw [if_neg h1]
  exact ⟨_, _, _, rfl, (bits_and_255 _).1, (bits_and_255 _).2, h0⟩
theorem l01Below_tot (l : List Int) (hl : l.length ≤ 140737488351232) (i h n : Int) (h0 : 0 ≤ i) : ∃ x i' h', spec_l01Below.f l i h n = some (x, i', h') ∧ 0 ≤ x ∧ (0 < n → x < n) ∧ (n ≤ 0 → x = 0) ∧ 0 ≤ i' := by
 unfold spec_l01Below.f
 by_cases h1 : n ≤ 0
 ·rw [if_pos h1]; exact ⟨_, _, _, rfl, by omega, by omega, fun _ => rfl, h0⟩
 ·rw [if_neg h1]
  by_cases h2 : n ≤ 256
  ·rw [if_pos h2]
   obtain ⟨x, i', h', e, x0, x1, i0⟩ := l01Byte_tot l hl i h h0
   rw [e]; simp only [Option.bind_some]
   rw [if_neg (by omega), Int.tmod_eq_emod_of_nonneg x0]
   exact ⟨_, _, _, rfl, Int.emod_nonneg _ (by omega), fun _ => Int.emod_lt_of_pos _ (by omega), fun hh => by omega, i0⟩
  ·rw [if_neg h2]
   obtain ⟨x, i1, h1', e, x0, x1, i0⟩ := l01Byte_tot l hl i h h0
   rw [e]; simp only [Option.bind_some]
   obtain ⟨y, i2, h2', e, y0, y1, i0⟩ := l01Byte_tot l hl i1 h1' i0
   rw [e]; simp only [Option.bind_some]
   obtain ⟨z, i3, h3', e, z0, z1, i0⟩ := l01Byte_tot l hl i2 h2' i0
   rw [e]; simp only [Option.bind_some]
   obtain ⟨u, i4, h4', e, u0, u1, i0⟩ := l01Byte_tot l hl i3 h3' i0
   rw [e]; simp only [Option.bind_some]
   rw [if_neg (by omega), w64_id (x := x * 16777216) (by omega) (by omega), w64_id (x := y * 65536) (by omega) (by omega), w64_id (x := z * 256) (by omega) (by omega), w64_id (x := x * 16777216 + y * 65536) (by omega) (by omega), w64_id (x := x * 16777216 + y * 65536 + z * 256) (by omega) (by omega), w64_id (by omega) (by omega), Int.tmod_eq_emod_of_nonneg (by omega)]
   exact ⟨_, _, _, rfl, Int.emod_nonneg _ (by omega), fun _ => Int.emod_lt_of_pos _ (by omega), fun hh => by omega, i0⟩
theorem l01Once_tot (l : List Int) (hl : l.length ≤ 140737488351232) (i h n : Int) (h0 : 0 ≤ i) : ∃ x i' h', spec_l01Once.f l i h n = some (x, i', h') ∧ 0 ≤ i' := by
 unfold spec_l01Once.f
 obtain ⟨x, i', h', e, x0, _, _, i0⟩ := l01Below_tot l hl i h n h0
 rw [e]; simp only [Option.bind_some]
 exact ⟨_, _, _, rfl, i0⟩
theorem fig_eq (c : Int) (h0 : 0 ≤ c) (h1 : c ≤ 255) : spec_l01Figure.f (wrap64 (Int.tdiv (wrap64 c) 16)) = some (bt (⟨#[48, 49, 50, 51, 52, 53, 54, 55, 56, 57, 97, 98, 99, 100, 101, 102]⟩ : ByteArray) (c / 16)) ∧ spec_l01Figure.f (Int.tmod (wrap64 c) 16) = some (bt (⟨#[48, 49, 50, 51, 52, 53, 54, 55, 56, 57, 97, 98, 99, 100, 101, 102]⟩ : ByteArray) (Go.bits .and .u8 c 15)) ∧ 0 ≤ Go.bits .and .u8 c 15 ∧ Go.bits .and .u8 c 15 < 16 :=
 below256 (P := fun c => spec_l01Figure.f (wrap64 (Int.tdiv (wrap64 c) 16)) = some (bt (⟨#[48, 49, 50, 51, 52, 53, 54, 55, 56, 57, 97, 98, 99, 100, 101, 102]⟩ : ByteArray) (c / 16)) ∧ spec_l01Figure.f (Int.tmod (wrap64 c) 16) = some (bt (⟨#[48, 49, 50, 51, 52, 53, 54, 55, 56, 57, 97, 98, 99, 100, 101, 102]⟩ : ByteArray) (Go.bits .and .u8 c 15)) ∧ 0 ≤ Go.bits .and .u8 c 15 ∧ Go.bits .and .u8 c 15 < 16) (by decide +kernel) c h0 h1
def hexPair (c : Int) : List Int := [bt (⟨#[48, 49, 50, 51, 52, 53, 54, 55, 56, 57, 97, 98, 99, 100, 101, 102]⟩ : ByteArray) (c / 16), bt (⟨#[48, 49, 50, 51, 52, 53, 54, 55, 56, 57, 97, 98, 99, 100, 101, 102]⟩ : ByteArray) (Go.bits .and .u8 c 15)]
theorem rd_mem (l : List Int) (i : Nat) (h1 : i < l.length) : rd l i = l[i] := by
 unfold rd; simp [List.getD_eq_getElem?_getD, h1]
theorem strOfNums_size (a : List Int) : (strOfNums a).size = a.length := by
 show (strOfNums a).data.size = _
 simp [strOfNums]
theorem bt_nums (xs : List Int) (i : Nat) (hi : i < xs.length) (hb : 0 ≤ rd xs i ∧ rd xs i ≤ 255) : bt (strOfNums xs) i = rd xs i := by
 have hs : i < (strOfNums xs).size := by rw [strOfNums_size]; exact hi
 unfold bt
 rw [dif_pos (by simpa using hs)]
 rw [rd_mem xs i hi] at hb ⊢
 show (((strOfNums xs).data[i]'hs).toNat : Int) = xs[i]
 simp only [strOfNums, List.getElem_toArray, List.getElem_map, Int.toNat_natCast]
 simp
 omega
theorem tl_loop (bs : ByteArray) (d : Nat) : ∀ (i : Nat) (r : List UInt8), bs.size - i = d → ByteArray.toList.loop bs i r = r.reverse ++ bs.data.toList.drop i := by
 induction d with
 | zero =>
  intro i r h
  rw [ByteArray.toList.loop, if_neg (by omega), List.drop_eq_nil_of_le (by show bs.data.toList.length ≤ i; rw [Array.length_toList]; show bs.size ≤ i; omega)]
  simp
 | succ d ih =>
  intro i r h
  have hi : i < bs.data.toList.length := by rw [Array.length_toList]; show i < bs.size; omega
  rw [ByteArray.toList.loop, if_pos (by omega), ih (i + 1) _ (by omega), List.drop_eq_getElem_cons hi, List.reverse_cons, List.append_assoc]
  congr 1
  show bs.get! i :: _ = _
  congr 1
  have hi2 : i < bs.size := by omega
  show bs.data[i]! = _
  rw [getElem!_pos bs.data i hi2]; simp
theorem tl_data (bs : ByteArray) : bs.toList = bs.data.toList := by
 show ByteArray.toList.loop bs 0 [] = _
 rw [tl_loop bs bs.size 0 [] rfl]; simp
theorem ba_ext {a b : ByteArray} (h : a.data.toList = b.data.toList) : a = b := ByteArray.ext (Array.ext' h)
theorem tl_inj {a b : ByteArray} : a.toList = b.toList ↔ a = b := by
 rw [tl_data, tl_data]
 exact ⟨ba_ext, fun h => by rw [h]⟩
def ofL (l : List UInt8) : ByteArray := ⟨l.toArray⟩
theorem ofL_data (l : List UInt8) : (ofL l).data.toList = l := by simp [ofL]
theorem ofL_of (s : ByteArray) : ofL s.data.toList = s := ba_ext (ofL_data _)
theorem ofL_inj {a b : List UInt8} : ofL a = ofL b ↔ a = b := ⟨fun h => by have := congrArg (fun s : ByteArray => s.data.toList) h; simpa [ofL_data] using this, fun h => by rw [h]⟩
theorem ofL_app (a b : List UInt8) : ofL a ++ ofL b = ofL (a ++ b) := by
 apply ba_ext
 rw [ByteArray.data_append]
 simp [ofL]
theorem ofL_size (a : List UInt8) : (ofL a).size = a.length := by
 show (ofL a).data.size = _
 simp [ofL]
theorem bt_ofL (l : List UInt8) (i : Nat) (h : i < l.length) : bt (ofL l) (i : Int) = ((l[i]).toNat : Int) := by
 have hs : i < (ofL l).size := by rw [ofL_size]; exact h
 unfold bt
 rw [dif_pos (by simpa using hs)]
 show (((ofL l).data[i]'hs).toNat : Int) = _
 simp [ofL]
def hor (a : Nat) (l : List UInt8) : Nat := l.foldl (fun a c => 10 * a + (c.toNat - 48)) a
def isDig (c : UInt8) : Bool := decide (48 ≤ c.toNat) && decide (c.toNat ≤ 57)
theorem dig_ok (d : Nat) (h : d < 10) : (UInt8.ofNat (48 + d)).toNat = 48 + d ∧ isDig (UInt8.ofNat (48 + d)) = true := by
 have : ∀ q : Fin 10, (UInt8.ofNat (48 + q.val)).toNat = 48 + q.val ∧ isDig (UInt8.ofNat (48 + q.val)) = true := by decide +kernel
 exact this ⟨d, h⟩
theorem dd_big {u : Nat} (h : ¬ u < 10) : Lib.decDigits u = Lib.decDigits (u / 10) ++ [UInt8.ofNat (48 + u % 10)] := by rw [Lib.decDigits, dif_neg h]
theorem hor_dd (u : Nat) : hor 0 (Lib.decDigits u) = u := by
 induction u using Nat.strongRecOn with
 | _ u ih =>
  by_cases h : u < 10
  ·rw [Lib.decDigits_one h]
   show 10 * 0 + ((UInt8.ofNat (48 + u)).toNat - 48) = u
   rw [(dig_ok u h).1]; omega
  ·rw [dd_big h]
   unfold hor
   rw [List.foldl_append]
   show 10 * (hor 0 (Lib.decDigits (u / 10))) + ((UInt8.ofNat (48 + u % 10)).toNat - 48) = u
   rw [ih (u / 10) (by omega), (dig_ok (u % 10) (by omega)).1]; omega
theorem dd_dig (u : Nat) : (Lib.decDigits u).all isDig = true := by
 induction u using Nat.strongRecOn with
 | _ u ih =>
  by_cases h : u < 10
  ·rw [Lib.decDigits_one h, List.all_cons, (dig_ok u h).2]; rfl
  ·rw [dd_big h, List.all_append, ih (u / 10) (by omega), List.all_cons, (dig_ok (u % 10) (by omega)).2]; rfl
theorem dd_pos (u : Nat) : 0 < (Lib.decDigits u).length := by
 by_cases h : u < 10
 ·rw [Lib.decDigits_one h]; simp
 ·rw [dd_big h]; simp
theorem dd_len (k : Nat) : ∀ u, u < 10 ^ (k + 1) → (Lib.decDigits u).length ≤ k + 1 := by
 induction k with
 | zero => intro u h; rw [Lib.decDigits_one (by omega)]; simp
 | succ k ih =>
  intro u h
  by_cases h1 : u < 10
  ·rw [Lib.decDigits_one h1]; simp
  ·rw [dd_big h1, List.length_append]
   have : u / 10 < 10 ^ (k + 1) := by rw [Nat.pow_succ] at h; omega
   have := ih _ this
   simp; omega
def fmtV (n : Int) : ByteArray := ofL (Lib.itoa n)
theorem itoa_len {n : Int} (h0 : -9223372036854775808 ≤ n) (h1 : n ≤ 9223372036854775807) : (Lib.itoa n).length ≤ 21 ∧ 0 < (Lib.itoa n).length := by
 unfold Lib.itoa
 split
 ·have := dd_len 19 n.natAbs (by omega)
  have := dd_pos n.natAbs
  simp; omega
 ·have := dd_len 19 n.toNat (by omega)
  have := dd_pos n.toNat
  omega
theorem fmtV_size {n : Int} (h0 : -9223372036854775808 ≤ n) (h1 : n ≤ 9223372036854775807) : (fmtV n).size ≤ 21 ∧ 0 < (fmtV n).size := by
 unfold fmtV; rw [ofL_size]; exact itoa_len h0 h1
theorem head_dig {u : Nat} {c : UInt8} {r : List UInt8} (h : Lib.decDigits u = c :: r) : 48 ≤ c.toNat ∧ c.toNat ≤ 57 := by
 have := dd_dig u
 rw [h] at this
 simp [isDig] at this
 exact this.1
theorem itoa_inj {a b : Int} (h : Lib.itoa a = Lib.itoa b) : a = b := by
 have key : ∀ u v : Nat, (45 : UInt8) :: Lib.decDigits u ≠ Lib.decDigits v := fun u v e => by
  have := head_dig e.symm
  have : (45 : UInt8).toNat = 45 := by decide
  omega
 unfold Lib.itoa at h
 split at h <;> split at h
 ·have := congrArg (hor 0) (List.cons.inj h).2
  rw [hor_dd, hor_dd] at this; omega
 ·exact absurd h (key _ _)
 ·exact absurd h.symm (key _ _)
 ·have := congrArg (hor 0) h
  rw [hor_dd, hor_dd] at this; omega
theorem fmtV_inj {a b : Int} (h : fmtV a = fmtV b) : a = b := itoa_inj (ofL_inj.1 h)
theorem impl_FormatInt_eq {n : Int} (h0 : -9223372036854775808 ≤ n) (h1 : n ≤ 9223372036854775807) : impl_FormatInt.f n = some (fmtV n) := by
 unfold impl_FormatInt.f strconv_Itoa_37.f
 rw [if_pos ⟨h0, h1⟩]; rfl
def numsL (L : List UInt8) : List Int := L.map fun c => ((c.toNat : Nat) : Int)
theorem numsL_rd (L : List UInt8) (i : Nat) (h : i < L.length) : rd (numsL L) i = ((L[i].toNat : Nat) : Int) := by
 unfold rd numsL
 rw [Int.toNat_natCast, List.getD_eq_getElem?_getD, List.getElem?_map, List.getElem?_eq_getElem h]; rfl
theorem str_numsL (L : List UInt8) : strOfNums (numsL L) = ofL L := by
 apply ba_ext
 rw [ofL_data]
 show ((numsL L).map fun x => UInt8.ofNat x.toNat).toArray.toList = L
 simp only [numsL, List.map_map]
 conv => rhs; rw [← List.map_id L]
 refine List.map_congr_left fun c _ => ?_
 simp [Function.comp]
def hexL (l : List Int) : List Int := l.flatMap hexPair
theorem hexL_len : ∀ l : List Int, (hexL l).length = 2 * l.length
 | [] => rfl
 | x :: r => by
  have := hexL_len r
  simp only [hexL, List.flatMap_cons, List.length_append, hexPair, List.length_cons, List.length_nil] at this ⊢
  omega
theorem enc_loop (L : List UInt8) (hL : L.length ≤ 20000) (d : Nat) : ∀ (k i : Nat) (acc : List Int), i + d = L.length → d < k → acc.length + 2 * d ≤ 100000 → impl_EncodeHex.l0 k (ofL L) acc (i : Int) = some (strOfNums (acc ++ hexL ((numsL L).drop i)), true) := by
 induction d with
 | zero =>
  intro k i acc hi hk ha
  obtain ⟨k, rfl⟩ : ∃ m, k = m + 1 := ⟨k - 1, by omega⟩
  rw [impl_EncodeHex.l0, ofL_size, if_neg (by omega), List.drop_eq_nil_of_le (by simp [numsL]; omega)]
  simp [hexL]
 | succ d ih =>
  intro k i acc hi hk ha
  obtain ⟨k, rfl⟩ : ∃ m, k = m + 1 := ⟨k - 1, by omega⟩
  have hlt : i < L.length := by omega
  have hr := bt_range (ofL L) i
  obtain ⟨e1, e2, b0, b1⟩ := fig_eq (bt (ofL L) i) hr.1 hr.2
  have hb := bt_ofL L i hlt
  have hd : (numsL L).drop i = bt (ofL L) i :: (numsL L).drop (i + 1) := by
   rw [List.drop_eq_getElem_cons (by simpa [numsL] using hlt), hb]
   simp [numsL]
  rw [impl_EncodeHex.l0, ofL_size, if_pos (by omega), if_pos (by omega), if_pos (by omega), if_pos (by omega), if_pos b0, if_pos b1, w64_id (x := (i : Int) + 1) (by omega) (by omega)]
  simp only [Option.bind_some]
  rw [if_pos (by simp; omega), show (i : Int) + 1 = ((i + 1 : Nat) : Int) by omega]
  have := ih k (i + 1) (acc ++ hexPair (bt (ofL L) i)) (by omega) (by omega) (by simp [hexPair]; omega)
  rw [hd]
  simp only [hexL, List.flatMap_cons] at this ⊢
  rw [← List.append_assoc]
  exact this
theorem hexL_at : ∀ (l : List Int) (j : Nat), j < l.length → rd (hexL l) ((2 * j : Nat) : Int) = rd (hexPair (rd l j)) 0 ∧ rd (hexL l) ((2 * j + 1 : Nat) : Int) = rd (hexPair (rd l j)) 1
 | [], j, h => absurd h (by simp)
 | x :: r, 0, h => ⟨rfl, rfl⟩
 | x :: r, j + 1, h => by
  have := hexL_at r j (by simpa using h)
  unfold rd at this ⊢
  simp only [Int.toNat_natCast] at this ⊢
  obtain ⟨p, q, hp⟩ : ∃ p q, hexPair x = [p, q] := ⟨_, _, rfl⟩
  have e : hexL (x :: r) = p :: q :: hexL r := by show hexPair x ++ hexL r = _; rw [hp]; rfl
  rw [e, show 2 * (j + 1) = 2 * j + 1 + 1 by omega]
  simpa using this
theorem pair_back (k : Nat) (c : Int) (h0 : 0 ≤ c) (h1 : c ≤ 255) : (0 ≤ rd (hexPair c) 0 ∧ rd (hexPair c) 0 ≤ 255) ∧ (0 ≤ rd (hexPair c) 1 ∧ rd (hexPair c) 1 ≤ 255) ∧ ∃ u v, impl_digit.f (k + 20) (rd (hexPair c) 0) = some u ∧ impl_digit.f (k + 20) (rd (hexPair c) 1) = some v ∧ ¬ u < 0 ∧ ¬ v < 0 ∧ (wrap64 ((wrap64 (16 * u)) + v)) % 256 = c := by
 have key : ∀ n : Fin 256, (0 ≤ rd (hexPair (n.val : Int)) 0 ∧ rd (hexPair (n.val : Int)) 0 ≤ 255) ∧ (0 ≤ rd (hexPair (n.val : Int)) 1 ∧ rd (hexPair (n.val : Int)) 1 ≤ 255) ∧ impl_digit.f 20 (rd (hexPair (n.val : Int)) 0) = some ((n.val / 16 : Nat) : Int) ∧ impl_digit.f 20 (rd (hexPair (n.val : Int)) 1) = some ((n.val % 16 : Nat) : Int) := by decide +kernel
 obtain ⟨n, rfl⟩ := Int.eq_ofNat_of_zero_le h0
 obtain ⟨a, b, e1, e2⟩ := key ⟨n, by omega⟩
 refine ⟨a, b, ((n / 16 : Nat) : Int), ((n % 16 : Nat) : Int), ?_, ?_, by omega, by omega, ?_⟩
 ·exact at_rounds (g := fun k => impl_digit.f k _) (fun k => impl_digit.mono _ k) (show 20 ≤ k + 20 by omega) e1
 ·exact at_rounds (g := fun k => impl_digit.f k _) (fun k => impl_digit.mono _ k) (show 20 ≤ k + 20 by omega) e2
 ·rw [w64_id (x := 16 * ((n / 16 : Nat) : Int)) (by omega) (by omega), w64_id (by omega) (by omega)]; omega
theorem hexL_byte (l : List Int) (hl : ∀ x ∈ l, 0 ≤ x ∧ x ≤ 255) (j : Nat) (h : j < l.length) : 0 ≤ rd l j ∧ rd l j ≤ 255 := by
 refine hl _ ?_
 unfold rd
 rw [Int.toNat_natCast, List.getD_eq_getElem?_getD, List.getElem?_eq_getElem h]
 exact List.getElem_mem h
theorem dec_loop (l : List Int) (hl : ∀ x ∈ l, 0 ≤ x ∧ x ≤ 255) (hn : l.length ≤ 20000) (d : Nat) : ∀ (k j : Nat) (acc : List Int), j + d = l.length → d < k → acc.length + d ≤ 100000 → impl_DecodeHex.l0 (k + 20) (strOfNums (hexL l)) acc ((2 * j : Nat) : Int) = some (strOfNums (acc ++ l.drop j), true) := by
 induction d with
 | zero =>
  intro k j acc hj hk ha
  obtain ⟨k, rfl⟩ : ∃ m, k = m + 1 := ⟨k - 1, by omega⟩
  rw [show k + 1 + 20 = (k + 20) + 1 by omega, impl_DecodeHex.l0, strOfNums_size, hexL_len, if_neg (by omega), List.drop_eq_nil_of_le (by omega), List.append_nil]
 | succ d ih =>
  intro k j acc hj hk ha
  obtain ⟨k, rfl⟩ : ∃ m, k = m + 1 := ⟨k - 1, by omega⟩
  have hlt : j < l.length := by omega
  have hby := hexL_byte l hl j hlt
  obtain ⟨p0, p1, u, v, d1, d2, u0, v0, huv⟩ := pair_back k _ hby.1 hby.2
  obtain ⟨a1, a2⟩ := hexL_at l j hlt
  have hlen := hexL_len l
  have b1 : bt (strOfNums (hexL l)) ((2 * j : Nat) : Int) = rd (hexPair (rd l j)) 0 := by rw [bt_nums _ _ (by omega) (by rw [a1]; exact p0), a1]
  have b2 : bt (strOfNums (hexL l)) ((2 * j + 1 : Nat) : Int) = rd (hexPair (rd l j)) 1 := by rw [bt_nums _ _ (by omega) (by rw [a2]; exact p1), a2]
  have w1 : wrap64 (((2 * j : Nat) : Int) + 1) = ((2 * j + 1 : Nat) : Int) := by rw [w64_id (by omega) (by omega)]; omega
  have w2 : wrap64 (((2 * j : Nat) : Int) + 2) = ((2 * (j + 1) : Nat) : Int) := by rw [w64_id (by omega) (by omega)]; omega
  have hd : l.drop j = rd l j :: l.drop (j + 1) := by
   rw [List.drop_eq_getElem_cons hlt]
   unfold rd
   rw [Int.toNat_natCast, List.getD_eq_getElem?_getD, List.getElem?_eq_getElem hlt]; rfl
  rw [show k + 1 + 20 = (k + 20) + 1 by omega, impl_DecodeHex.l0, strOfNums_size, hexL_len, w1, w2, b1, b2, d1, d2]
  simp only [Option.bind_some]
  rw [if_pos (by omega), if_pos (by omega), if_pos (by omega), if_pos (by omega), if_neg u0, if_neg v0, if_pos (by omega), huv, ih k (j + 1) (acc ++ [rd l j]) (by omega) (by omega) (by simp; omega), hd]
  simp
theorem l01Long_loop (n : Nat) (hn : n ≤ 100000) (b : Int) (d : Nat) : ∀ (k i : Nat) (xs : List Int), i + d = n → xs.length = n → d < k → ∃ ys : List Int, ys.length = n ∧ spec_l01Long.l0 k n b xs i = some (strOfNums ys) := by
 induction d with
 | zero =>
  intro k i xs hi hx hk
  obtain ⟨k, rfl⟩ : ∃ m, k = m + 1 := ⟨k - 1, by omega⟩
  exact ⟨xs, hx, by rw [spec_l01Long.l0, if_neg (by omega)]⟩
 | succ d ih =>
  intro k i xs hi hx hk
  obtain ⟨k, rfl⟩ : ∃ m, k = m + 1 := ⟨k - 1, by omega⟩
  obtain ⟨ys, y1, y2⟩ := ih k (i + 1) (xs.set (i : Int).toNat b) (by omega) (by rw [List.length_set, hx]) (by omega)
  refine ⟨ys, y1, ?_⟩
  rw [spec_l01Long.l0, if_pos (by omega), if_pos (by omega), if_pos (by omega), w64_id (x := (i : Int) + 1) (by omega) (by omega)]
  exact y2
theorem l01Long_tot (n : Int) (h0 : 0 ≤ n) (h1 : n ≤ 100000) (b : Int) (k : Nat) (hk : n < k) : ∃ s : ByteArray, spec_l01Long.f k n b = some s ∧ (s.size : Int) = n := by
 obtain ⟨m, rfl⟩ := Int.eq_ofNat_of_zero_le h0
 obtain ⟨ys, y1, y2⟩ := l01Long_loop m (by omega) b m k 0 (List.replicate m 0) (by omega) (by simp) (by omega)
 refine ⟨strOfNums ys, ?_, by rw [strOfNums_size]; omega⟩
 unfold spec_l01Long.f
 rw [if_pos h0, if_pos (by omega), Int.toNat_natCast]
 exact y2
theorem l01Text_loop (l : List Int) (hl : l.length ≤ 140737488351232) (n : Nat) (hn : n ≤ 5000) (d : Nat) : ∀ (k i : Nat) (xs : List Int) (p h : Int), i + d = n → xs.length = i → d < k → 0 ≤ p → ∃ s p' h', spec_l01Text.l0 k n xs i l p h = some (s, p', h') ∧ 0 ≤ p' := by
 induction d with
 | zero =>
  intro k i xs p h hi hx hk hp
  obtain ⟨k, rfl⟩ : ∃ m, k = m + 1 := ⟨k - 1, by omega⟩
  exact ⟨strOfNums xs, p, h, by rw [spec_l01Text.l0, if_neg (by omega)], hp⟩
 | succ d ih =>
  intro k i xs p h hi hx hk hp
  obtain ⟨k, rfl⟩ : ∃ m, k = m + 1 := ⟨k - 1, by omega⟩
  obtain ⟨x, p1, h1, e, _, _, i0⟩ := l01Byte_tot l hl p h hp
  obtain ⟨s, p', h', y2, y3⟩ := ih k (i + 1) (xs ++ [x % 256]) p1 h1 (by omega) (by simp [hx]) (by omega) i0
  refine ⟨s, p', h', ?_, y3⟩
  rw [spec_l01Text.l0, if_pos (by omega), e]
  simp only [Option.bind_some]
  rw [if_pos (by omega), w64_id (x := (i : Int) + 1) (by omega) (by omega)]
  exact y2
theorem DrawEncodeHex_tot (l : List Int) (hl : l.length ≤ 140737488351232) (k : Nat) (hk : l.length < k) (hk2 : 30000 ≤ k) : ∃ s, spec_DrawEncodeHex.f k l = some s := by
 unfold spec_DrawEncodeHex.f
 obtain ⟨h0, e⟩ := l01New_eq l hl k hk
 rw [e]; simp only [Option.bind_some]
 obtain ⟨b, i1, h1, e, i0⟩ := l01Once_tot l hl 0 h0 60 (by omega)
 rw [e]; simp only [Option.bind_some]
 by_cases c : b = true
 ·rw [if_pos c]
  obtain ⟨x, i2, h2, e, x0, x1, _, i0⟩ := l01Below_tot l hl i1 h1 2 i0
  rw [e]; simp only [Option.bind_some]
  have := x1 (by omega)
  rw [w64_id (x := 20000 + x) (by omega) (by omega)]
  obtain ⟨s, e, _⟩ := l01Long_tot (20000 + x) (by omega) (by omega) 200 k (by omega)
  rw [e]; exact ⟨s, rfl⟩
 ·rw [if_neg c]
  obtain ⟨x, i2, h2, e, x0, x1, _, i0⟩ := l01Below_tot l hl i1 h1 30 i0
  rw [e]; simp only [Option.bind_some]
  have := x1 (by omega)
  unfold spec_l01Text.f
  rw [if_neg (by omega)]
  obtain ⟨k, rfl⟩ : ∃ m, k = m + 1 := ⟨k - 1, by omega⟩
  obtain ⟨n, rfl⟩ := Int.eq_ofNat_of_zero_le x0
  obtain ⟨s, p', h', e, _⟩ := l01Text_loop l hl n (by omega) n k 0 [] i2 h2 (by omega) rfl (by omega) i0
  rw [show ((0 : Nat) : Int) = 0 from rfl] at e
  rw [spec_l01Text.j0, e]
  exact ⟨s, rfl⟩
theorem FnHexText : laws_FnHexText.Pure := by
 intro l _ hl _
 obtain ⟨K, hK⟩ : ∃ K, K = l.length + 50000 := ⟨_, rfl⟩
 refine ⟨K + 20 + 1, ?_⟩
 unfold laws_FnHexText.f laws_big.f
 simp only [Option.bind_some]
 by_cases hb : decide ((l.length : Int) > 1048576) = true
 ·rw [if_pos hb]
 ·rw [if_neg hb]
  obtain ⟨s, e⟩ := DrawEncodeHex_tot l (by omega) (K + 20 + 1) (by omega) (by omega)
  rw [e]; simp only [Option.bind_some]
  unfold impl_EncodeHex.f
  by_cases hs : (s.size : Int) > 20000
  ·rw [if_pos hs]
   simp only [Option.bind_some]
   rw [if_pos hs, impl_FormatInt_eq (by omega) (by omega)]
   have e1 : (⟨#[]⟩ : ByteArray).toList = [] := by rw [tl_data]
   have e2 : (fmtV 10).toList = [49, 48] := by rw [tl_data]; unfold fmtV; rw [ofL_data]; decide +kernel
   rw [if_neg (by decide), if_pos e1]
   simp only [Option.bind_some, e2]
   rfl
  ·rw [if_neg hs]
   obtain ⟨L, rfl⟩ : ∃ L, s = ofL L := ⟨s.data.toList, (ofL_of s).symm⟩
   rw [ofL_size] at hs
   have hby : ∀ x ∈ numsL L, 0 ≤ x ∧ x ≤ 255 := fun x hx => by
    obtain ⟨c, _, rfl⟩ := List.mem_map.1 hx
    have := c.toNat_lt
    omega
   have hnl : (numsL L).length = L.length := by simp [numsL]
   have en := enc_loop L (by omega) L.length (K + 20 + 1) 0 [] (by omega) (by omega) (by simp; omega)
   have de := dec_loop (numsL L) hby (by omega) L.length K 0 [] (by omega) (by omega) (by simp; omega)
   simp only [List.nil_append, List.drop_zero, Nat.mul_zero, Int.natCast_zero] at en de
   have sz : (strOfNums (hexL (numsL L))).size = 2 * L.length := by rw [strOfNums_size, hexL_len, hnl]
   rw [en]
   simp only [Option.bind_some]
   rw [if_neg (by rw [ofL_size]; omega)]
   unfold impl_DecodeHex.f
   rw [sz, if_pos (by omega), impl_DecodeHex.j0, if_neg (by simp; omega), de, str_numsL]
   simp only [Option.bind_some, if_true]
   rw [ofL_size, w64_id (x := 2 * (L.length : Int)) (by omega) (by omega)]
   simp

end Go.Proofs.YtcocebkmfmiaeaaDoor.Q.P
namespace Go.Proofs.YtcocebkmfmiaeaaDoor.Pure
theorem FnHexText : Go.Proofs.YtcocebkmfmiaeaaDoor.Q.laws_FnHexText.Pure := Go.Proofs.YtcocebkmfmiaeaaDoor.Q.P.FnHexText
end Go.Proofs.YtcocebkmfmiaeaaDoor.Pure
