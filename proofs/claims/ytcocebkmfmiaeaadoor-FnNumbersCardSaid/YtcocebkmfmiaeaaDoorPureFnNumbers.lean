/- The plain law FnNumbers: for every input that its Go types allow, the printed functions of the program and of the reference answer so that the law's own function says true. No further condition. -/
import Derived.Test.YtcocebkmfmiaeaaDoorQx0
import Derived.Test.YtcocebkmfmiaeaaDoorQx19
import Derived.Test.YtcocebkmfmiaeaaDoorQx20
import Derived.Test.YtcocebkmfmiaeaaDoorQx21
import Derived.Test.YtcocebkmfmiaeaaDoorQx3
import Derived.Test.YtcocebkmfmiaeaaDoorQx6
namespace Go.Proofs.YtcocebkmfmiaeaaDoor.Q.P
open Go.RowKit Go.Proofs.YtcocebkmfmiaeaaDoor.Q Go.Proofs.YtcocebkmfmiaeaaDoorW.PrintWords Go.Proofs.YtcocebkmfmiaeaaDoorW.PrintLast
set_option linter.unusedVariables false
set_option linter.unusedSimpArgs false

theorem w64_id {x : Int} (h0 : -9223372036854775808 ≤ x) (h1 : x ≤ 9223372036854775807) : wrap64 x = x := by
 unfold wrap64; omega
theorem bits_and_255 (y : Int) : 0 ≤ Go.bits .and .i64 y 255 ∧ Go.bits .and .i64 y 255 ≤ 255 := by
 have e : Go.bits .and .i64 y 255 = (((BitVec.ofInt 64 y) &&& (BitVec.ofInt 64 255)).toNat : Int) := by
  show IntKind.i64.wrap (((BitVec.ofInt 64 y) &&& (BitVec.ofInt 64 255)).toNat : Int) = _
  rw [i64_w]
  have h1 : ((BitVec.ofInt 64 y) &&& (BitVec.ofInt 64 255)).toNat ≤ 255 := by rw [BitVec.toNat_and]; exact Nat.and_le_right
  exact w64_id (by omega) (by omega)
 have h1 : ((BitVec.ofInt 64 y) &&& (BitVec.ofInt 64 255)).toNat ≤ 255 := by rw [BitVec.toNat_and]; exact Nat.and_le_right
 omega
theorem l01New_tot (l : List Int) (hl : l.length ≤ 140737488351232) (d : Nat) : ∀ (k : Nat) (h i : Int), 0 ≤ i → (l.length : Int) - i ≤ d → d < k → ∃ h', spec_l01New.l0 k l h i = some (l, 0, h') := by
 induction d with
 | zero =>
  intro k h i h0 hd hk
  obtain ⟨k, rfl⟩ : ∃ m, k = m + 1 := ⟨k - 1, by omega⟩
  simp only [spec_l01New.l0]; rw [if_neg (by omega)]; exact ⟨_, rfl⟩
 | succ d ih =>
  intro k h i h0 hd hk
  obtain ⟨k, rfl⟩ : ∃ m, k = m + 1 := ⟨k - 1, by omega⟩
  simp only [spec_l01New.l0]
  by_cases h1 : i < (l.length : Int)
  ·rw [if_pos h1]
   by_cases h2 : i < 4000
   ·rw [if_pos h2, if_pos h0, w64_id (x := i + 1) (by omega) (by omega)]
    exact ih _ _ _ (by omega) (by omega) (by omega)
   ·rw [if_neg h2]; exact ⟨_, rfl⟩
  ·rw [if_neg h1]; exact ⟨_, rfl⟩
theorem l01New_eq (l : List Int) (hl : l.length ≤ 140737488351232) (k : Nat) (hk : l.length < k) : ∃ h', spec_l01New.f k l = some (l, 0, h') := by
 unfold spec_l01New.f
 exact l01New_tot l hl l.length k _ _ (by omega) (by omega) hk
theorem l01Byte_tot (l : List Int) (hl : l.length ≤ 140737488351232) (i h : Int) (h0 : 0 ≤ i) : ∃ x i' h', spec_l01Byte.f l i h = some (x, i', h') ∧ 0 ≤ x ∧ x ≤ 255 ∧ 0 ≤ i' := by
 unfold spec_l01Byte.f
 by_cases h1 : i < (l.length : Int)
 ·rw [if_pos h1, if_pos h0, w64_id (x := i + 1) (by omega) (by omega)]
  exact ⟨_, _, _, rfl, (bits_and_255 _).1, (bits_and_255 _).2, by omega⟩
 ·rw [if_neg h1]
  exact ⟨_, _, _, rfl, (bits_and_255 _).1, (bits_and_255 _).2, h0⟩
theorem l01Below_tot (l : List Int) (hl : l.length ≤ 140737488351232) (i h n : Int) (h0 : 0 ≤ i) : ∃ x i' h', spec_l01Below.f l i h n = some (x, i', h') ∧ 0 ≤ x ∧ (0 < n → x < n) ∧ (n ≤ 0 → x = 0) ∧ 0 ≤ i' := by
 unfold spec_l01Below.f
 by_cases h1 : n ≤ 0
 ·rw [if_pos h1]; exact ⟨_, _, _, rfl, by omega, by omega, fun _ => rfl, h0⟩
 ·rw [if_neg h1]
  by_cases h2 : n ≤ 256
  ·rw [if_pos h2]
   obtain ⟨x, i', h', e, x0, x1, i0⟩ := l01Byte_tot l hl i h h0
   rw [e]; simp only [Option.bind_some]
   rw [if_neg (by omega), Int.tmod_eq_emod_of_nonneg x0]
   exact ⟨_, _, _, rfl, Int.emod_nonneg _ (by omega), fun _ => Int.emod_lt_of_pos _ (by omega), fun hh => by omega, i0⟩
  ·rw [if_neg h2]
   obtain ⟨x, i1, h1', e, x0, x1, i0⟩ := l01Byte_tot l hl i h h0
   rw [e]; simp only [Option.bind_some]
   obtain ⟨y, i2, h2', e, y0, y1, i0⟩ := l01Byte_tot l hl i1 h1' i0
   rw [e]; simp only [Option.bind_some]
   obtain ⟨z, i3, h3', e, z0, z1, i0⟩ := l01Byte_tot l hl i2 h2' i0
   rw [e]; simp only [Option.bind_some]
   obtain ⟨u, i4, h4', e, u0, u1, i0⟩ := l01Byte_tot l hl i3 h3' i0
   rw [e]; simp only [Option.bind_some]
   rw [if_neg (by omega), w64_id (x := x * 16777216) (by omega) (by omega), w64_id (x := y * 65536) (by omega) (by omega), w64_id (x := z * 256) (by omega) (by omega), w64_id (x := x * 16777216 + y * 65536) (by omega) (by omega), w64_id (x := x * 16777216 + y * 65536 + z * 256) (by omega) (by omega), w64_id (by omega) (by omega), Int.tmod_eq_emod_of_nonneg (by omega)]
   exact ⟨_, _, _, rfl, Int.emod_nonneg _ (by omega), fun _ => Int.emod_lt_of_pos _ (by omega), fun hh => by omega, i0⟩
theorem l01Once_tot (l : List Int) (hl : l.length ≤ 140737488351232) (i h n : Int) (h0 : 0 ≤ i) : ∃ x i' h', spec_l01Once.f l i h n = some (x, i', h') ∧ 0 ≤ i' := by
 unfold spec_l01Once.f
 obtain ⟨x, i', h', e, x0, _, _, i0⟩ := l01Below_tot l hl i h n h0
 rw [e]; simp only [Option.bind_some]
 exact ⟨_, _, _, rfl, i0⟩
theorem l01PickInt_tot (l : List Int) (hl : l.length ≤ 140737488351232) (i h : Int) (xs : List Int) (hx : 0 < xs.length) (h0 : 0 ≤ i) : ∃ x i' h', spec_l01PickInt.f l i h xs = some (x, i', h') ∧ x ∈ xs ∧ 0 ≤ i' := by
 unfold spec_l01PickInt.f
 obtain ⟨x, i', h', e, x0, x1, _, i0⟩ := l01Below_tot l hl i h xs.length h0
 rw [e]; simp only [Option.bind_some]
 have hlt := x1 (by omega)
 rw [if_pos x0, if_pos hlt]
 refine ⟨_, _, _, rfl, ?_, i0⟩
 unfold rd
 rw [List.getD_eq_getElem?_getD, List.getElem?_eq_getElem (by omega)]
 exact List.getElem_mem _
theorem l01Number_tot (l : List Int) (hl : l.length ≤ 140737488351232) (i h : Int) (h0 : 0 ≤ i) : ∃ x i' h', spec_l01Number.f l i h = some (x, i', h') ∧ (-9223372036854775808 ≤ x ∧ x ≤ 9223372036854775807) ∧ 0 ≤ i' := by
 unfold spec_l01Number.f
 obtain ⟨x, i1, h1, e, _, _, _, i0⟩ := l01Below_tot l hl i h 4 h0
 rw [e]; simp only [Option.bind_some]
 by_cases c1 : x = 0
 ·rw [if_pos c1]
  obtain ⟨y, i2, h2, e, hy, i0⟩ := l01PickInt_tot l hl i1 h1 [(-1), 0, 127, 128, 16383, 16384, 1000000000, 1000000001, 9223372036854775807, (-9223372036854775808)] (by decide) i0
  rw [e]; simp only [Option.bind_some]
  refine ⟨_, _, _, rfl, ?_, i0⟩
  simp only [List.mem_cons, List.not_mem_nil, or_false] at hy
  omega
 ·rw [if_neg c1]
  by_cases c2 : x = 1
  ·rw [if_pos c2]
   obtain ⟨y, i2, h2, e, y0, y1, _, i0⟩ := l01Below_tot l hl i1 h1 1000000000 i0
   rw [e]; simp only [Option.bind_some]
   exact ⟨_, _, _, rfl, by have := y1 (by omega); omega, i0⟩
  ·rw [if_neg c2]
   obtain ⟨y, i2, h2, e, y0, y1, _, i0⟩ := l01Below_tot l hl i1 h1 400 i0
   rw [e]; simp only [Option.bind_some]
   exact ⟨_, _, _, rfl, by have := y1 (by omega); omega, i0⟩
theorem tl_loop (bs : ByteArray) (d : Nat) : ∀ (i : Nat) (r : List UInt8), bs.size - i = d → ByteArray.toList.loop bs i r = r.reverse ++ bs.data.toList.drop i := by
 induction d with
 | zero =>
  intro i r h
  rw [ByteArray.toList.loop, if_neg (by omega), List.drop_eq_nil_of_le (by show bs.data.toList.length ≤ i; rw [Array.length_toList]; show bs.size ≤ i; omega)]
  simp
 | succ d ih =>
  intro i r h
  have hi : i < bs.data.toList.length := by rw [Array.length_toList]; show i < bs.size; omega
  rw [ByteArray.toList.loop, if_pos (by omega), ih (i + 1) _ (by omega), List.drop_eq_getElem_cons hi, List.reverse_cons, List.append_assoc]
  congr 1
  show bs.get! i :: _ = _
  congr 1
  have hi2 : i < bs.size := by omega
  show bs.data[i]! = _
  rw [getElem!_pos bs.data i hi2]; simp
theorem tl_data (bs : ByteArray) : bs.toList = bs.data.toList := by
 show ByteArray.toList.loop bs 0 [] = _
 rw [tl_loop bs bs.size 0 [] rfl]; simp
theorem ba_ext {a b : ByteArray} (h : a.data.toList = b.data.toList) : a = b := ByteArray.ext (Array.ext' h)
theorem tl_inj {a b : ByteArray} : a.toList = b.toList ↔ a = b := by
 rw [tl_data, tl_data]
 exact ⟨ba_ext, fun h => by rw [h]⟩
def ofL (l : List UInt8) : ByteArray := ⟨l.toArray⟩
theorem ofL_data (l : List UInt8) : (ofL l).data.toList = l := by simp [ofL]
theorem ofL_of (s : ByteArray) : ofL s.data.toList = s := ba_ext (ofL_data _)
theorem ofL_inj {a b : List UInt8} : ofL a = ofL b ↔ a = b := ⟨fun h => by have := congrArg (fun s : ByteArray => s.data.toList) h; simpa [ofL_data] using this, fun h => by rw [h]⟩
theorem ofL_app (a b : List UInt8) : ofL a ++ ofL b = ofL (a ++ b) := by
 apply ba_ext
 rw [ByteArray.data_append]
 simp [ofL]
theorem ofL_size (a : List UInt8) : (ofL a).size = a.length := by
 show (ofL a).data.size = _
 simp [ofL]
theorem bt_ofL (l : List UInt8) (i : Nat) (h : i < l.length) : bt (ofL l) (i : Int) = ((l[i]).toNat : Int) := by
 have hs : i < (ofL l).size := by rw [ofL_size]; exact h
 unfold bt
 rw [dif_pos (by simpa using hs)]
 show (((ofL l).data[i]'hs).toNat : Int) = _
 simp [ofL]
def hor (a : Nat) (l : List UInt8) : Nat := l.foldl (fun a c => 10 * a + (c.toNat - 48)) a
def isDig (c : UInt8) : Bool := decide (48 ≤ c.toNat) && decide (c.toNat ≤ 57)
theorem dig_ok (d : Nat) (h : d < 10) : (UInt8.ofNat (48 + d)).toNat = 48 + d ∧ isDig (UInt8.ofNat (48 + d)) = true := by
 have : ∀ q : Fin 10, (UInt8.ofNat (48 + q.val)).toNat = 48 + q.val ∧ isDig (UInt8.ofNat (48 + q.val)) = true := by decide +kernel
 exact this ⟨d, h⟩
theorem dd_big {u : Nat} (h : ¬ u < 10) : Lib.decDigits u = Lib.decDigits (u / 10) ++ [UInt8.ofNat (48 + u % 10)] := by rw [Lib.decDigits, dif_neg h]
theorem hor_dd (u : Nat) : hor 0 (Lib.decDigits u) = u := by
 induction u using Nat.strongRecOn with
 | _ u ih =>
  by_cases h : u < 10
  ·rw [Lib.decDigits_one h]
   show 10 * 0 + ((UInt8.ofNat (48 + u)).toNat - 48) = u
   rw [(dig_ok u h).1]; omega
  ·rw [dd_big h]
   unfold hor
   rw [List.foldl_append]
   show 10 * (hor 0 (Lib.decDigits (u / 10))) + ((UInt8.ofNat (48 + u % 10)).toNat - 48) = u
   rw [ih (u / 10) (by omega), (dig_ok (u % 10) (by omega)).1]; omega
theorem dd_dig (u : Nat) : (Lib.decDigits u).all isDig = true := by
 induction u using Nat.strongRecOn with
 | _ u ih =>
  by_cases h : u < 10
  ·rw [Lib.decDigits_one h, List.all_cons, (dig_ok u h).2]; rfl
  ·rw [dd_big h, List.all_append, ih (u / 10) (by omega), List.all_cons, (dig_ok (u % 10) (by omega)).2]; rfl
theorem dd_pos (u : Nat) : 0 < (Lib.decDigits u).length := by
 by_cases h : u < 10
 ·rw [Lib.decDigits_one h]; simp
 ·rw [dd_big h]; simp
theorem dd_len (k : Nat) : ∀ u, u < 10 ^ (k + 1) → (Lib.decDigits u).length ≤ k + 1 := by
 induction k with
 | zero => intro u h; rw [Lib.decDigits_one (by omega)]; simp
 | succ k ih =>
  intro u h
  by_cases h1 : u < 10
  ·rw [Lib.decDigits_one h1]; simp
  ·rw [dd_big h1, List.length_append]
   have : u / 10 < 10 ^ (k + 1) := by rw [Nat.pow_succ] at h; omega
   have := ih _ this
   simp; omega
def fmtV (n : Int) : ByteArray := ofL (Lib.itoa n)
theorem itoa_len {n : Int} (h0 : -9223372036854775808 ≤ n) (h1 : n ≤ 9223372036854775807) : (Lib.itoa n).length ≤ 21 ∧ 0 < (Lib.itoa n).length := by
 unfold Lib.itoa
 split
 ·have := dd_len 19 n.natAbs (by omega)
  have := dd_pos n.natAbs
  simp; omega
 ·have := dd_len 19 n.toNat (by omega)
  have := dd_pos n.toNat
  omega
theorem fmtV_size {n : Int} (h0 : -9223372036854775808 ≤ n) (h1 : n ≤ 9223372036854775807) : (fmtV n).size ≤ 21 ∧ 0 < (fmtV n).size := by
 unfold fmtV; rw [ofL_size]; exact itoa_len h0 h1
theorem head_dig {u : Nat} {c : UInt8} {r : List UInt8} (h : Lib.decDigits u = c :: r) : 48 ≤ c.toNat ∧ c.toNat ≤ 57 := by
 have := dd_dig u
 rw [h] at this
 simp [isDig] at this
 exact this.1
theorem itoa_inj {a b : Int} (h : Lib.itoa a = Lib.itoa b) : a = b := by
 have key : ∀ u v : Nat, (45 : UInt8) :: Lib.decDigits u ≠ Lib.decDigits v := fun u v e => by
  have := head_dig e.symm
  have : (45 : UInt8).toNat = 45 := by decide
  omega
 unfold Lib.itoa at h
 split at h <;> split at h
 ·have := congrArg (hor 0) (List.cons.inj h).2
  rw [hor_dd, hor_dd] at this; omega
 ·exact absurd h (key _ _)
 ·exact absurd h.symm (key _ _)
 ·have := congrArg (hor 0) h
  rw [hor_dd, hor_dd] at this; omega
theorem fmtV_inj {a b : Int} (h : fmtV a = fmtV b) : a = b := itoa_inj (ofL_inj.1 h)
theorem impl_FormatInt_eq {n : Int} (h0 : -9223372036854775808 ≤ n) (h1 : n ≤ 9223372036854775807) : impl_FormatInt.f n = some (fmtV n) := by
 unfold impl_FormatInt.f strconv_Itoa_37.f
 rw [if_pos ⟨h0, h1⟩]; rfl
theorem pu_app {c : UInt8} : ∀ (l : List UInt8) (a v : Nat), Lib.parseUint10 a l = .ok v → Lib.parseUint10 a (l ++ [c]) = Lib.parseUint10 v [c]
 | [], a, v, h => by
  have : a = v := by simpa [Lib.parseUint10] using h
  rw [this]; rfl
 | x :: r, a, v, h => by
  rw [List.cons_append, Lib.parseUint10]
  rw [Lib.parseUint10] at h
  by_cases h1 : 48 ≤ x.toNat ∧ x.toNat ≤ 57
  ·rw [if_pos h1] at h ⊢
   by_cases h2 : 1844674407370955162 ≤ a
   ·rw [if_pos h2] at h; cases h
   ·rw [if_neg h2] at h ⊢
    by_cases h3 : 18446744073709551616 ≤ a * 10 + (x.toNat - 48)
    ·rw [if_pos h3] at h; cases h
    ·rw [if_neg h3] at h ⊢
     exact pu_app r _ v h
  ·rw [if_neg h1] at h; cases h
theorem pu_one {d v : Nat} (hd : d < 10) (hv : v < 1000000000000000000) : Lib.parseUint10 v [UInt8.ofNat (48 + d)] = .ok (v * 10 + d) := by
 have h1 := (dig_ok d hd).1
 rw [Lib.parseUint10, h1, if_pos (by omega), if_neg (by omega), if_neg (by omega), Lib.parseUint10, show 48 + d - 48 = d by omega]
theorem pu_dd (u : Nat) : u < 1000000000000000000 → Lib.parseUint10 0 (Lib.decDigits u) = .ok u := by
 induction u using Nat.strongRecOn with
 | _ u ih =>
  intro hu
  by_cases h : u < 10
  ·rw [Lib.decDigits_one h, pu_one h (by omega)]; simp
  ·rw [dd_big h, pu_app _ _ _ (ih (u / 10) (by omega) (by omega)), pu_one (by omega) (by omega)]
   congr 1; omega
theorem atoi_dd {v : Int} (h0 : 0 ≤ v) (h1 : v ≤ 1000000000) : Lib.atoiAll (Lib.itoa v) = .ok v := by
 obtain ⟨u, rfl⟩ := Int.eq_ofNat_of_zero_le h0
 have e : Lib.itoa (u : Int) = Lib.decDigits u := by unfold Lib.itoa; rw [if_neg (by omega), Int.toNat_natCast]
 have hp := pu_dd u (by omega)
 rw [e]
 obtain ⟨c, r, hc⟩ : ∃ c r, Lib.decDigits u = c :: r := by
  have := dd_pos u
  cases h : Lib.decDigits u with
  | nil => rw [h] at this; simp at this
  | cons c r => exact ⟨c, r, rfl⟩
 have hd := head_dig hc
 rw [hc] at hp ⊢
 have hm : Lib.parseMag (c :: r) = .ok u := by unfold Lib.parseMag; rw [if_neg (by simp)]; exact hp
 unfold Lib.atoiAll
 simp only []
 rw [if_neg (show ¬ (c.toNat = 43 ∨ c.toNat = 45) by omega), hm]
 simp only []
 rw [if_neg (by omega), if_neg (by omega), if_neg (by omega)]
def puV (s : ByteArray) : Int × Bool := match Lib.atoiAll s.data.toList with
 | .ok v => if v < 0 then (0, false) else if 1000000000 < v then (0, false) else if (fmtV v).toList = s.toList then (v, true) else (0, false)
 | _ => (0, false)
theorem impl_ParseUint_eq (s : ByteArray) (hs : s.size ≤ 140737488351232) : impl_ParseUint.f s = some (puV s) := by
 unfold impl_ParseUint.f impl_signed.f puV
 rw [if_pos (by omega)]
 cases h : Lib.atoiAll s.data.toList with
 | ok v =>
  simp only []
  by_cases h1 : v < 0
  ·rw [if_pos h1, if_pos h1]; rfl
  ·rw [if_neg h1, if_neg h1]
   by_cases h2 : 1000000000 < v
   ·rw [if_pos h2, if_pos h2]; rfl
   ·rw [if_neg h2, if_neg h2, impl_FormatInt_eq (by omega) (by omega)]
    simp only [Option.bind_some]
    by_cases h3 : (fmtV v).toList = s.toList
    ·rw [if_pos h3, if_pos h3]; rfl
    ·rw [if_neg h3, if_neg h3]; rfl
 | _ => rfl
theorem puV_fmt {v : Int} (h0 : 0 ≤ v) (h1 : v ≤ 1000000000) : puV (fmtV v) = (v, true) := by
 unfold puV
 have : (fmtV v).data.toList = Lib.itoa v := ofL_data _
 rw [this, atoi_dd h0 h1]
 simp only []
 rw [if_neg (by omega), if_neg (by omega), if_pos trivial]
theorem puV_cases (s : ByteArray) : puV s = (0, false) ∨ ∃ v, (0 ≤ v ∧ v ≤ 1000000000) ∧ s = fmtV v ∧ puV s = (v, true) := by
 unfold puV
 cases h : Lib.atoiAll s.data.toList with
 | ok v =>
  simp only []
  by_cases h1 : v < 0
  ·rw [if_pos h1]; exact .inl rfl
  ·rw [if_neg h1]
   by_cases h2 : 1000000000 < v
   ·rw [if_pos h2]; exact .inl rfl
   ·rw [if_neg h2]
    by_cases h3 : (fmtV v).toList = s.toList
    ·rw [if_pos h3]; exact .inr ⟨v, ⟨by omega, by omega⟩, (tl_inj.1 h3).symm, rfl⟩
    ·rw [if_neg h3]; exact .inl rfl
 | _ => exact .inl rfl
theorem puV_bd (s : ByteArray) : 0 ≤ (puV s).1 ∧ (puV s).1 ≤ 1000000000 := by
 rcases puV_cases s with h | ⟨v, hv, _, h⟩
 ·rw [h]; exact ⟨by decide, by decide⟩
 ·rw [h]; exact hv
theorem DrawFormatInt_tot (l : List Int) (hl : l.length ≤ 140737488351232) (k : Nat) (hk : l.length < k) : ∃ n, spec_DrawFormatInt.f k l = some n ∧ -9223372036854775808 ≤ n ∧ n ≤ 9223372036854775807 := by
 unfold spec_DrawFormatInt.f
 obtain ⟨h0, e⟩ := l01New_eq l hl k hk
 rw [e]; simp only [Option.bind_some]
 obtain ⟨b, i1, h1, e, i0⟩ := l01Once_tot l hl 0 h0 3 (by omega)
 rw [e]; simp only [Option.bind_some]
 by_cases c : b = true
 ·rw [if_pos c]
  obtain ⟨x, i2, h2, e, x0, x1, _, i0⟩ := l01Below_tot l hl i1 h1 1000000 i0
  rw [e]; simp only [Option.bind_some]
  obtain ⟨y, i3, h3, e, y0, y1, _, i0⟩ := l01Below_tot l hl i2 h2 2000000 i0
  rw [e]; simp only [Option.bind_some]
  refine ⟨_, rfl, ?_⟩
  unfold wrap64
  generalize x * _ = q
  omega
 ·rw [if_neg c]
  obtain ⟨x, i2, h2, e, hx, i0⟩ := l01Number_tot l hl i1 h1 i0
  rw [e]; simp only [Option.bind_some]
  exact ⟨x, rfl, hx⟩
theorem puV_out {n : Int} (h : ¬ (0 ≤ n ∧ n ≤ 1000000000)) : puV (fmtV n) = (0, false) := by
 rcases puV_cases (fmtV n) with e | ⟨v, hv, e, _⟩
 ·exact e
 ·exact absurd hv (by rw [fmtV_inj e] at h; exact h)
theorem fmt_ne {n : Int} (h0 : -9223372036854775808 ≤ n) (h1 : n ≤ 9223372036854775807) : ¬ (fmtV n).toList = ([] : List UInt8) := fun e => by
 have := (fmtV_size h0 h1).2
 rw [tl_data] at e
 unfold fmtV at this e
 rw [ofL_data] at e
 rw [ofL_size, e] at this
 simp at this
theorem FnNumbers : laws_FnNumbers.Pure := by
 intro l _ hl _
 refine ⟨l.length + 1, ?_⟩
 unfold laws_FnNumbers.f laws_big.f
 simp only [Option.bind_some]
 by_cases hb : decide ((l.length : Int) > 1048576) = true
 ·rw [if_pos hb]
 ·rw [if_neg hb]
  obtain ⟨n, e, n0, n1⟩ := DrawFormatInt_tot l (by omega) (l.length + 1) (by omega)
  have hs := fmtV_size n0 n1
  rw [e]; simp only [Option.bind_some]
  rw [impl_FormatInt_eq n0 n1]; simp only [Option.bind_some]
  rw [impl_ParseUint_eq _ (by omega)]; simp only [Option.bind_some]
  rw [if_neg (fmt_ne n0 n1), if_neg (fmt_ne n0 n1)]
  by_cases c : 0 ≤ n
  ·rw [if_pos c]
   by_cases c2 : n ≤ 1000000000
   ·rw [puV_fmt c c2]; simp [c2]
   ·rw [puV_out (fun q => c2 q.2)]; simp [c2]
  ·rw [if_neg c, puV_out (fun q => c q.1)]; simp

end Go.Proofs.YtcocebkmfmiaeaaDoor.Q.P
namespace Go.Proofs.YtcocebkmfmiaeaaDoor.Pure
theorem FnNumbers : Go.Proofs.YtcocebkmfmiaeaaDoor.Q.laws_FnNumbers.Pure := Go.Proofs.YtcocebkmfmiaeaaDoor.Q.P.FnNumbers
end Go.Proofs.YtcocebkmfmiaeaaDoor.Pure
