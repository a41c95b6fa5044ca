/- The plain law FnExactParseUint: for every input that its Go types allow, the printed functions of the program and of the reference answer so that the law's own function says true. No further condition. -/
import Derived.Test.YtcocebkmfmiaeaaDoorQx0
import Derived.Test.YtcocebkmfmiaeaaDoorQx2
import Derived.Test.YtcocebkmfmiaeaaDoorQx3
import Derived.Test.YtcocebkmfmiaeaaDoorQx5
import Derived.Test.YtcocebkmfmiaeaaDoorQx6
import Derived.Test.YtcocebkmfmiaeaaDoorQx7
namespace Go.Proofs.YtcocebkmfmiaeaaDoor.Q.P
open Go.RowKit Go.Proofs.YtcocebkmfmiaeaaDoor.Q Go.Proofs.YtcocebkmfmiaeaaDoorW.PrintWords Go.Proofs.YtcocebkmfmiaeaaDoorW.PrintLast
set_option linter.unusedVariables false
set_option linter.unusedSimpArgs false

theorem w64_id {x : Int} (h0 : -9223372036854775808 ≤ x) (h1 : x ≤ 9223372036854775807) : wrap64 x = x := by
 unfold wrap64; omega
theorem tl_loop (bs : ByteArray) (d : Nat) : ∀ (i : Nat) (r : List UInt8), bs.size - i = d → ByteArray.toList.loop bs i r = r.reverse ++ bs.data.toList.drop i := by
 induction d with
 | zero =>
  intro i r h
  rw [ByteArray.toList.loop, if_neg (by omega), List.drop_eq_nil_of_le (by show bs.data.toList.length ≤ i; rw [Array.length_toList]; show bs.size ≤ i; omega)]
  simp
 | succ d ih =>
  intro i r h
  have hi : i < bs.data.toList.length := by rw [Array.length_toList]; show i < bs.size; omega
  rw [ByteArray.toList.loop, if_pos (by omega), ih (i + 1) _ (by omega), List.drop_eq_getElem_cons hi, List.reverse_cons, List.append_assoc]
  congr 1
  show bs.get! i :: _ = _
  congr 1
  have hi2 : i < bs.size := by omega
  show bs.data[i]! = _
  rw [getElem!_pos bs.data i hi2]; simp
theorem tl_data (bs : ByteArray) : bs.toList = bs.data.toList := by
 show ByteArray.toList.loop bs 0 [] = _
 rw [tl_loop bs bs.size 0 [] rfl]; simp
theorem ba_ext {a b : ByteArray} (h : a.data.toList = b.data.toList) : a = b := ByteArray.ext (Array.ext' h)
theorem tl_inj {a b : ByteArray} : a.toList = b.toList ↔ a = b := by
 rw [tl_data, tl_data]
 exact ⟨ba_ext, fun h => by rw [h]⟩
def ofL (l : List UInt8) : ByteArray := ⟨l.toArray⟩
theorem ofL_data (l : List UInt8) : (ofL l).data.toList = l := by simp [ofL]
theorem ofL_of (s : ByteArray) : ofL s.data.toList = s := ba_ext (ofL_data _)
theorem ofL_inj {a b : List UInt8} : ofL a = ofL b ↔ a = b := ⟨fun h => by have := congrArg (fun s : ByteArray => s.data.toList) h; simpa [ofL_data] using this, fun h => by rw [h]⟩
theorem ofL_app (a b : List UInt8) : ofL a ++ ofL b = ofL (a ++ b) := by
 apply ba_ext
 rw [ByteArray.data_append]
 simp [ofL]
theorem ofL_size (a : List UInt8) : (ofL a).size = a.length := by
 show (ofL a).data.size = _
 simp [ofL]
theorem bt_ofL (l : List UInt8) (i : Nat) (h : i < l.length) : bt (ofL l) (i : Int) = ((l[i]).toNat : Int) := by
 have hs : i < (ofL l).size := by rw [ofL_size]; exact h
 unfold bt
 rw [dif_pos (by simpa using hs)]
 show (((ofL l).data[i]'hs).toNat : Int) = _
 simp [ofL]
def hor (a : Nat) (l : List UInt8) : Nat := l.foldl (fun a c => 10 * a + (c.toNat - 48)) a
def isDig (c : UInt8) : Bool := decide (48 ≤ c.toNat) && decide (c.toNat ≤ 57)
theorem dig_ok (d : Nat) (h : d < 10) : (UInt8.ofNat (48 + d)).toNat = 48 + d ∧ isDig (UInt8.ofNat (48 + d)) = true := by
 have : ∀ q : Fin 10, (UInt8.ofNat (48 + q.val)).toNat = 48 + q.val ∧ isDig (UInt8.ofNat (48 + q.val)) = true := by decide +kernel
 exact this ⟨d, h⟩
theorem dd_big {u : Nat} (h : ¬ u < 10) : Lib.decDigits u = Lib.decDigits (u / 10) ++ [UInt8.ofNat (48 + u % 10)] := by rw [Lib.decDigits, dif_neg h]
theorem hor_dd (u : Nat) : hor 0 (Lib.decDigits u) = u := by
 induction u using Nat.strongRecOn with
 | _ u ih =>
  by_cases h : u < 10
  ·rw [Lib.decDigits_one h]
   show 10 * 0 + ((UInt8.ofNat (48 + u)).toNat - 48) = u
   rw [(dig_ok u h).1]; omega
  ·rw [dd_big h]
   unfold hor
   rw [List.foldl_append]
   show 10 * (hor 0 (Lib.decDigits (u / 10))) + ((UInt8.ofNat (48 + u % 10)).toNat - 48) = u
   rw [ih (u / 10) (by omega), (dig_ok (u % 10) (by omega)).1]; omega
theorem dd_dig (u : Nat) : (Lib.decDigits u).all isDig = true := by
 induction u using Nat.strongRecOn with
 | _ u ih =>
  by_cases h : u < 10
  ·rw [Lib.decDigits_one h, List.all_cons, (dig_ok u h).2]; rfl
  ·rw [dd_big h, List.all_append, ih (u / 10) (by omega), List.all_cons, (dig_ok (u % 10) (by omega)).2]; rfl
theorem dd_pos (u : Nat) : 0 < (Lib.decDigits u).length := by
 by_cases h : u < 10
 ·rw [Lib.decDigits_one h]; simp
 ·rw [dd_big h]; simp
theorem dd_len (k : Nat) : ∀ u, u < 10 ^ (k + 1) → (Lib.decDigits u).length ≤ k + 1 := by
 induction k with
 | zero => intro u h; rw [Lib.decDigits_one (by omega)]; simp
 | succ k ih =>
  intro u h
  by_cases h1 : u < 10
  ·rw [Lib.decDigits_one h1]; simp
  ·rw [dd_big h1, List.length_append]
   have : u / 10 < 10 ^ (k + 1) := by rw [Nat.pow_succ] at h; omega
   have := ih _ this
   simp; omega
def fmtV (n : Int) : ByteArray := ofL (Lib.itoa n)
theorem itoa_len {n : Int} (h0 : -9223372036854775808 ≤ n) (h1 : n ≤ 9223372036854775807) : (Lib.itoa n).length ≤ 21 ∧ 0 < (Lib.itoa n).length := by
 unfold Lib.itoa
 split
 ·have := dd_len 19 n.natAbs (by omega)
  have := dd_pos n.natAbs
  simp; omega
 ·have := dd_len 19 n.toNat (by omega)
  have := dd_pos n.toNat
  omega
theorem fmtV_size {n : Int} (h0 : -9223372036854775808 ≤ n) (h1 : n ≤ 9223372036854775807) : (fmtV n).size ≤ 21 ∧ 0 < (fmtV n).size := by
 unfold fmtV; rw [ofL_size]; exact itoa_len h0 h1
theorem head_dig {u : Nat} {c : UInt8} {r : List UInt8} (h : Lib.decDigits u = c :: r) : 48 ≤ c.toNat ∧ c.toNat ≤ 57 := by
 have := dd_dig u
 rw [h] at this
 simp [isDig] at this
 exact this.1
theorem itoa_inj {a b : Int} (h : Lib.itoa a = Lib.itoa b) : a = b := by
 have key : ∀ u v : Nat, (45 : UInt8) :: Lib.decDigits u ≠ Lib.decDigits v := fun u v e => by
  have := head_dig e.symm
  have : (45 : UInt8).toNat = 45 := by decide
  omega
 unfold Lib.itoa at h
 split at h <;> split at h
 ·have := congrArg (hor 0) (List.cons.inj h).2
  rw [hor_dd, hor_dd] at this; omega
 ·exact absurd h (key _ _)
 ·exact absurd h.symm (key _ _)
 ·have := congrArg (hor 0) h
  rw [hor_dd, hor_dd] at this; omega
theorem fmtV_inj {a b : Int} (h : fmtV a = fmtV b) : a = b := itoa_inj (ofL_inj.1 h)
theorem impl_FormatInt_eq {n : Int} (h0 : -9223372036854775808 ≤ n) (h1 : n ≤ 9223372036854775807) : impl_FormatInt.f n = some (fmtV n) := by
 unfold impl_FormatInt.f strconv_Itoa_37.f
 rw [if_pos ⟨h0, h1⟩]; rfl
def digs (u : Nat) : List UInt8 := if u = 0 then [] else Lib.decDigits u
theorem digs_step {u : Nat} (h : u ≠ 0) : digs u = digs (u / 10) ++ [UInt8.ofNat (48 + u % 10)] := by
 unfold digs
 rw [if_neg h]
 by_cases h1 : u < 10
 ·rw [if_pos (by omega), Lib.decDigits_one h1, show u % 10 = u by omega]; rfl
 ·rw [if_neg (by omega), dd_big h1]
theorem one_num (d : Int) (h0 : 0 ≤ d) (h1 : d < 10) : spec_l01Figure.f d = some (48 + d) ∧ strOfNums [48 + d] = ofL [UInt8.ofNat (48 + d.toNat)] := by
 obtain ⟨q, rfl⟩ := Int.eq_ofNat_of_zero_le h0
 have : ∀ q : Fin 10, spec_l01Figure.f (q.val : Int) = some (48 + (q.val : Int)) ∧ strOfNums [48 + (q.val : Int)] = ofL [UInt8.ofNat (48 + (q.val : Int).toNat)] := by decide +kernel
 exact this ⟨q, by omega⟩
theorem spec_Fmt_loop (b : Bool) (d : Nat) : ∀ (u : Nat) (x : Int) (acc : List UInt8) (k : Nat), u < 10 ^ d → x.natAbs = u → (x < 0 → b = true) → -9223372036854775808 ≤ x → x ≤ 9223372036854775807 → d + 1 ≤ k → acc.length + d ≤ 100 → spec_FormatInt.l0 k x b (ofL acc) = some (if b = true then ofL (45 :: (digs u ++ acc)) else ofL (digs u ++ acc)) := by
 have minus : (⟨#[45]⟩ : ByteArray) = ofL [45] := rfl
 induction d with
 | zero =>
  intro u x acc k hu hx hb x0 x1 hk hl
  obtain ⟨k, rfl⟩ : ∃ m, k = m + 1 := ⟨k - 1, by omega⟩
  obtain rfl : u = 0 := by simpa using hu
  obtain rfl : x = 0 := by omega
  rw [spec_FormatInt.l0, if_pos rfl]
  cases b with
  | true => rw [if_pos rfl, ofL_size, if_pos (by omega), minus, ofL_app]; rfl
  | false => rfl
 | succ d ih =>
  intro u x acc k hu hx hb x0 x1 hk hl
  obtain ⟨k, rfl⟩ : ∃ m, k = m + 1 := ⟨k - 1, by omega⟩
  by_cases h0 : x = 0
  ·subst h0
   obtain rfl : u = 0 := by simpa using hx.symm
   rw [spec_FormatInt.l0, if_pos rfl]
   cases b with
   | true => rw [if_pos rfl, ofL_size, if_pos (by omega), minus, ofL_app]; rfl
   | false => rfl
  ·have hu10 : u / 10 < 10 ^ d := by rw [Nat.pow_succ] at hu; omega
   have hu0 : u ≠ 0 := by omega
   have tm : Int.tmod x 10 = if x < 0 then -((u % 10 : Nat) : Int) else ((u % 10 : Nat) : Int) := by
    by_cases hn : x < 0
    ·rw [if_pos hn, show x = -(u : Int) by omega, Int.neg_tmod, Int.tmod_eq_emod_of_nonneg (by omega)]; omega
    ·rw [if_neg hn, Int.tmod_eq_emod_of_nonneg (by omega)]; omega
   have td : Int.tdiv x 10 = if x < 0 then -((u / 10 : Nat) : Int) else ((u / 10 : Nat) : Int) := by
    by_cases hn : x < 0
    ·rw [if_pos hn, show x = -(u : Int) by omega, Int.neg_tdiv, Int.tdiv_eq_ediv_of_nonneg (by omega)]; omega
    ·rw [if_neg hn, Int.tdiv_eq_ediv_of_nonneg (by omega)]; omega
   have hb2 : Int.tdiv x 10 < 0 → b = true := fun h => hb (by rw [td] at h; split at h <;> omega)
   have ha : (Int.tdiv x 10).natAbs = u / 10 := by rw [td]; split <;> omega
   obtain ⟨o1, o2⟩ := one_num ((u % 10 : Nat) : Int) (by omega) (by omega)
   rw [Int.toNat_natCast] at o2
   have go := ih (u / 10) (Int.tdiv x 10) (UInt8.ofNat (48 + u % 10) :: acc) k hu10 ha hb2 (by rw [td]; split <;> omega) (by rw [td]; split <;> omega) (by omega) (by simp; omega)
   have e1 : digs (u / 10) ++ (UInt8.ofNat (48 + u % 10) :: acc) = digs u ++ acc := by rw [digs_step hu0, List.append_assoc]; rfl
   rw [e1] at go
   have hw : wrap64 (Int.tdiv x 10) = Int.tdiv x 10 := w64_id (by rw [td]; split <;> omega) (by rw [td]; split <;> omega)
   have fin : ((spec_l01Figure.f ((u % 10 : Nat) : Int)).bind fun t => ((some (([t] : List Int) : List Int)).bind fun y => (if (strOfNums y).size + (ofL acc).size ≤ 9223372036854775807 then (spec_FormatInt.l0 k (wrap64 (Int.tdiv x 10)) b ((strOfNums y) ++ (ofL acc))) else (none)))) = some (if b = true then ofL (45 :: (digs u ++ acc)) else ofL (digs u ++ acc)) := by
    rw [o1]
    simp only [Option.bind_some]
    rw [o2, ofL_size, ofL_size, if_pos (by simp; omega), ofL_app, hw]
    exact go
   rw [spec_FormatInt.l0, if_neg h0]
   by_cases ht : Int.tmod x 10 < 0
   ·rw [if_pos ht]
    have e : wrap64 (-(Int.tmod x 10)) = ((u % 10 : Nat) : Int) := by
     rw [w64_id (by rw [tm]; split <;> omega) (by rw [tm]; split <;> omega)]
     rw [tm] at ht ⊢
     by_cases hn : x < 0
     ·rw [if_pos hn]; omega
     ·rw [if_neg hn] at ht; omega
    rw [e]; exact fin
   ·rw [if_neg ht]
    have e : Int.tmod x 10 = ((u % 10 : Nat) : Int) := by
     rw [tm] at ht ⊢
     by_cases hn : x < 0
     ·rw [if_pos hn] at ht ⊢; omega
     ·rw [if_neg hn]
    rw [e]; exact fin
theorem spec_FormatInt_eq {n : Int} (h0 : -9223372036854775808 ≤ n) (h1 : n ≤ 9223372036854775807) (k : Nat) (hk : 25 ≤ k) : spec_FormatInt.f k n = some (fmtV n) := by
 unfold spec_FormatInt.f
 by_cases hz : n = 0
 ·rw [if_pos hz]; subst hz; decide +kernel
 ·rw [if_neg hz]
  have := spec_Fmt_loop (decide (n < 0)) 20 n.natAbs n [] k (by omega) rfl (fun h => decide_eq_true h) h0 h1 (by omega) (by simp)
  have hd : digs n.natAbs = Lib.decDigits n.natAbs := by unfold digs; rw [if_neg (by omega)]
  rw [show (⟨#[]⟩ : ByteArray) = ofL [] from rfl, this, hd, List.append_nil]
  unfold fmtV Lib.itoa
  by_cases hn : n < 0
  ·rw [if_pos (decide_eq_true hn), if_pos hn]
  ·rw [if_neg (by simpa using hn), if_neg hn, show n.toNat = n.natAbs by omega]
theorem pu_app {c : UInt8} : ∀ (l : List UInt8) (a v : Nat), Lib.parseUint10 a l = .ok v → Lib.parseUint10 a (l ++ [c]) = Lib.parseUint10 v [c]
 | [], a, v, h => by
  have : a = v := by simpa [Lib.parseUint10] using h
  rw [this]; rfl
 | x :: r, a, v, h => by
  rw [List.cons_append, Lib.parseUint10]
  rw [Lib.parseUint10] at h
  by_cases h1 : 48 ≤ x.toNat ∧ x.toNat ≤ 57
  ·rw [if_pos h1] at h ⊢
   by_cases h2 : 1844674407370955162 ≤ a
   ·rw [if_pos h2] at h; cases h
   ·rw [if_neg h2] at h ⊢
    by_cases h3 : 18446744073709551616 ≤ a * 10 + (x.toNat - 48)
    ·rw [if_pos h3] at h; cases h
    ·rw [if_neg h3] at h ⊢
     exact pu_app r _ v h
  ·rw [if_neg h1] at h; cases h
theorem pu_one {d v : Nat} (hd : d < 10) (hv : v < 1000000000000000000) : Lib.parseUint10 v [UInt8.ofNat (48 + d)] = .ok (v * 10 + d) := by
 have h1 := (dig_ok d hd).1
 rw [Lib.parseUint10, h1, if_pos (by omega), if_neg (by omega), if_neg (by omega), Lib.parseUint10, show 48 + d - 48 = d by omega]
theorem pu_dd (u : Nat) : u < 1000000000000000000 → Lib.parseUint10 0 (Lib.decDigits u) = .ok u := by
 induction u using Nat.strongRecOn with
 | _ u ih =>
  intro hu
  by_cases h : u < 10
  ·rw [Lib.decDigits_one h, pu_one h (by omega)]; simp
  ·rw [dd_big h, pu_app _ _ _ (ih (u / 10) (by omega) (by omega)), pu_one (by omega) (by omega)]
   congr 1; omega
theorem atoi_dd {v : Int} (h0 : 0 ≤ v) (h1 : v ≤ 1000000000) : Lib.atoiAll (Lib.itoa v) = .ok v := by
 obtain ⟨u, rfl⟩ := Int.eq_ofNat_of_zero_le h0
 have e : Lib.itoa (u : Int) = Lib.decDigits u := by unfold Lib.itoa; rw [if_neg (by omega), Int.toNat_natCast]
 have hp := pu_dd u (by omega)
 rw [e]
 obtain ⟨c, r, hc⟩ : ∃ c r, Lib.decDigits u = c :: r := by
  have := dd_pos u
  cases h : Lib.decDigits u with
  | nil => rw [h] at this; simp at this
  | cons c r => exact ⟨c, r, rfl⟩
 have hd := head_dig hc
 rw [hc] at hp ⊢
 have hm : Lib.parseMag (c :: r) = .ok u := by unfold Lib.parseMag; rw [if_neg (by simp)]; exact hp
 unfold Lib.atoiAll
 simp only []
 rw [if_neg (show ¬ (c.toNat = 43 ∨ c.toNat = 45) by omega), hm]
 simp only []
 rw [if_neg (by omega), if_neg (by omega), if_neg (by omega)]
def puV (s : ByteArray) : Int × Bool := match Lib.atoiAll s.data.toList with
 | .ok v => if v < 0 then (0, false) else if 1000000000 < v then (0, false) else if (fmtV v).toList = s.toList then (v, true) else (0, false)
 | _ => (0, false)
theorem impl_ParseUint_eq (s : ByteArray) (hs : s.size ≤ 140737488351232) : impl_ParseUint.f s = some (puV s) := by
 unfold impl_ParseUint.f impl_signed.f puV
 rw [if_pos (by omega)]
 cases h : Lib.atoiAll s.data.toList with
 | ok v =>
  simp only []
  by_cases h1 : v < 0
  ·rw [if_pos h1, if_pos h1]; rfl
  ·rw [if_neg h1, if_neg h1]
   by_cases h2 : 1000000000 < v
   ·rw [if_pos h2, if_pos h2]; rfl
   ·rw [if_neg h2, if_neg h2, impl_FormatInt_eq (by omega) (by omega)]
    simp only [Option.bind_some]
    by_cases h3 : (fmtV v).toList = s.toList
    ·rw [if_pos h3, if_pos h3]; rfl
    ·rw [if_neg h3, if_neg h3]; rfl
 | _ => rfl
theorem puV_fmt {v : Int} (h0 : 0 ≤ v) (h1 : v ≤ 1000000000) : puV (fmtV v) = (v, true) := by
 unfold puV
 have : (fmtV v).data.toList = Lib.itoa v := ofL_data _
 rw [this, atoi_dd h0 h1]
 simp only []
 rw [if_neg (by omega), if_neg (by omega), if_pos trivial]
theorem puV_cases (s : ByteArray) : puV s = (0, false) ∨ ∃ v, (0 ≤ v ∧ v ≤ 1000000000) ∧ s = fmtV v ∧ puV s = (v, true) := by
 unfold puV
 cases h : Lib.atoiAll s.data.toList with
 | ok v =>
  simp only []
  by_cases h1 : v < 0
  ·rw [if_pos h1]; exact .inl rfl
  ·rw [if_neg h1]
   by_cases h2 : 1000000000 < v
   ·rw [if_pos h2]; exact .inl rfl
   ·rw [if_neg h2]
    by_cases h3 : (fmtV v).toList = s.toList
    ·rw [if_pos h3]; exact .inr ⟨v, ⟨by omega, by omega⟩, (tl_inj.1 h3).symm, rfl⟩
    ·rw [if_neg h3]; exact .inl rfl
 | _ => exact .inl rfl
theorem puV_bd (s : ByteArray) : 0 ≤ (puV s).1 ∧ (puV s).1 ≤ 1000000000 := by
 rcases puV_cases s with h | ⟨v, hv, _, h⟩
 ·rw [h]; exact ⟨by decide, by decide⟩
 ·rw [h]; exact hv
def puEnd (L : List UInt8) (m : Nat) : Int × Bool := if (m : Int) > 1000000000 then (0, false) else if fmtV m = ofL L then ((m : Int), true) else (0, false)
theorem spec_PU_loop (L : List UInt8) (hL : L.length ≤ 10) (d : Nat) : ∀ (i n k : Nat), i + d = L.length → n < 10 ^ i → d + 30 ≤ k → spec_ParseUint.l0 k (ofL L) (n : Int) (i : Int) = some (if (L.drop i).all isDig = true then puEnd L (hor n (L.drop i)) else (0, false)) := by
 induction d with
 | zero =>
  intro i n k hi hn hk
  obtain ⟨k, rfl⟩ : ∃ m, k = m + 1 := ⟨k - 1, by omega⟩
  have hn2 : n < 10000000000 := Nat.lt_of_lt_of_le hn (Nat.le_trans (Nat.pow_le_pow_right (by decide) (show i ≤ 10 by omega)) (by decide))
  rw [spec_ParseUint.l0, ofL_size, if_neg (by omega), List.drop_eq_nil_of_le (by omega)]
  rw [if_pos (show ([] : List UInt8).all isDig = true from rfl)]
  show _ = some (puEnd L n)
  unfold puEnd
  by_cases h1 : (n : Int) > 1000000000
  ·rw [if_pos h1, if_pos h1]
  ·rw [if_neg h1, if_neg h1, spec_FormatInt_eq (by omega) (by omega) k (by omega)]
   simp only [Option.bind_some]
   by_cases h2 : fmtV n = ofL L
   ·rw [if_pos (by rw [h2]), if_pos h2]
   ·rw [if_neg (fun e => h2 (tl_inj.1 e)), if_neg h2]
 | succ d ih =>
  intro i n k hi hn hk
  obtain ⟨k, rfl⟩ : ∃ m, k = m + 1 := ⟨k - 1, by omega⟩
  have hn2 : n < 10000000000 := Nat.lt_of_lt_of_le hn (Nat.le_trans (Nat.pow_le_pow_right (by decide) (show i ≤ 10 by omega)) (by decide))
  have hlt : i < L.length := by omega
  have hb := bt_ofL L i hlt
  have hd : L.drop i = L[i] :: L.drop (i + 1) := List.drop_eq_getElem_cons hlt
  rw [spec_ParseUint.l0, ofL_size, if_pos (by omega), if_pos (by omega), hb, hd, List.all_cons]
  by_cases h1 : ((L[i].toNat : Nat) : Int) < 48
  ·rw [if_pos h1, show isDig L[i] = false from by unfold isDig; simp; omega]; rfl
  ·rw [if_neg h1]
   by_cases h2 : ((L[i].toNat : Nat) : Int) > 57
   ·rw [if_pos h2, show isDig L[i] = false from by unfold isDig; simp; omega]; rfl
   ·have hdg : isDig L[i] = true := by unfold isDig; simp; omega
    rw [if_neg h2, hdg, Bool.true_and, show hor n (L[i] :: L.drop (i + 1)) = hor (10 * n + (L[i].toNat - 48)) (L.drop (i + 1)) from rfl]
    generalize L[i].toNat = c at h1 h2
    have e : wrap64 ((wrap64 ((wrap64 (10 * (n : Int))) + (wrap64 (c : Int)))) - 48) = ((10 * n + (c - 48) : Nat) : Int) := by
     rw [w64_id (x := 10 * (n : Int)) (by omega) (by omega), w64_id (x := (c : Int)) (by omega) (by omega), w64_id (x := 10 * (n : Int) + (c : Int)) (by omega) (by omega), w64_id (by omega) (by omega)]
     omega
    rw [e, w64_id (x := (i : Int) + 1) (by omega) (by omega), show (i : Int) + 1 = ((i + 1 : Nat) : Int) by omega]
    exact ih (i + 1) (10 * n + (c - 48)) k (by omega) (by rw [Nat.pow_succ]; omega) (by omega)
theorem spec_ParseUint_eq (s : ByteArray) (k : Nat) (hk : 60 ≤ k) : spec_ParseUint.f k s = some (puV s) := by
 unfold spec_ParseUint.f
 obtain ⟨L, rfl⟩ : ∃ L, s = ofL L := ⟨s.data.toList, (ofL_of s).symm⟩
 rw [ofL_size]
 by_cases h : (L.length : Int) > 10
 ·rw [if_pos h]
  rcases puV_cases (ofL L) with e | ⟨v, hv, e, _⟩
  ·rw [e]
  ·exfalso
   have e2 : L = Lib.itoa v := ofL_inj.1 e
   have : (Lib.itoa v).length ≤ 10 := by
    unfold Lib.itoa; rw [if_neg (by omega)]
    exact dd_len 9 v.toNat (by omega)
   rw [e2] at h; omega
 ·rw [if_neg h]
  have := spec_PU_loop L (by omega) L.length 0 0 k (by omega) (by decide) (by omega)
  rw [show ((0 : Nat) : Int) = 0 from rfl] at this
  rw [this, List.drop_zero]
  congr 1
  rcases puV_cases (ofL L) with e | ⟨v, hv, e, e2⟩
  ·rw [e]
   split
   ·unfold puEnd
    split
    ·rfl
    ·split
     ·rename_i h1 h2 h3
      rw [← h3, puV_fmt (by omega) (by omega)] at e; exact absurd (congrArg Prod.snd e) (by simp)
     ·rfl
   ·rfl
  ·rw [e2]
   have el : L = Lib.itoa v := ofL_inj.1 e
   have ei : Lib.itoa v = Lib.decDigits v.toNat := by unfold Lib.itoa; rw [if_neg (by omega)]
   rw [el, ei, if_pos (dd_dig _), hor_dd]
   unfold puEnd
   rw [if_neg (by omega), show ((v.toNat : Nat) : Int) = v by omega, if_pos (by unfold fmtV; rw [ei])]
theorem FnExactParseUint : laws_FnExactParseUint.Pure := by
 intro s hs
 refine ⟨60, ?_⟩
 unfold laws_FnExactParseUint.f
 by_cases h : (s.size : Int) > 1048576
 ·rw [if_pos h]
 ·rw [if_neg h, spec_ParseUint_eq s 60 (by omega), impl_ParseUint_eq s hs]
  simp

end Go.Proofs.YtcocebkmfmiaeaaDoor.Q.P
namespace Go.Proofs.YtcocebkmfmiaeaaDoor.Pure
theorem FnExactParseUint : Go.Proofs.YtcocebkmfmiaeaaDoor.Q.laws_FnExactParseUint.Pure := Go.Proofs.YtcocebkmfmiaeaaDoor.Q.P.FnExactParseUint
end Go.Proofs.YtcocebkmfmiaeaaDoor.Pure
