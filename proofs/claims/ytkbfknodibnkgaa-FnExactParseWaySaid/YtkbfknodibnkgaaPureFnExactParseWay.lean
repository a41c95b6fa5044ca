/- The plain law FnExactParseWay: for every input that its Go types allow, the printed functions of the program and of the reference answer so that the law's own function says true. No further condition. -/
import Derived.Test.YtkbfknodibnkgaaQx0
import Derived.Test.YtkbfknodibnkgaaQx17
import Derived.Test.YtkbfknodibnkgaaQx24
import Derived.Test.YtkbfknodibnkgaaQx34
import Derived.Test.YtkbfknodibnkgaaQx35
import Derived.Test.YtkbfknodibnkgaaQx36
namespace Go.Proofs.Ytkbfknodibnkgaa.Q.P
open Go.RowKit Go.Proofs.Ytkbfknodibnkgaa.Q Go.Proofs.YtkbfknodibnkgaaW.PrintWords Go.Proofs.YtkbfknodibnkgaaW.PrintLast
set_option linter.unusedVariables false
set_option linter.unusedSimpArgs false

theorem w64_id {x : Int} (h0 : -9223372036854775808 ≤ x) (h1 : x ≤ 9223372036854775807) : wrap64 x = x := by
 unfold wrap64; omega
theorem eqIntS_tot (l : List Int) (hl : l.length ≤ 1000000000000) (d : Nat) : ∀ (k : Nat) (i : Int), 0 ≤ i → (l.length : Int) - i ≤ d → d < k → laws_eqIntS.l0 k l l i = some true := by
 induction d with
 | zero =>
  intro k i h0 hd hk
  obtain ⟨k, rfl⟩ : ∃ m, k = m + 1 := ⟨k - 1, by omega⟩
  simp only [laws_eqIntS.l0]; rw [if_neg (by omega)]
 | succ d ih =>
  intro k i h0 hd hk
  obtain ⟨k, rfl⟩ : ∃ m, k = m + 1 := ⟨k - 1, by omega⟩
  simp only [laws_eqIntS.l0]
  by_cases h1 : i < (l.length : Int)
  ·rw [if_pos h1, if_pos h0, if_pos h1, if_pos trivial, w64_id (x := i + 1) (by omega) (by omega)]
   exact ih _ _ (by omega) (by omega) (by omega)
  ·rw [if_neg h1]
theorem eqIntS_self (l : List Int) (hl : l.length ≤ 1000000000000) (k : Nat) (hk : l.length < k) : laws_eqIntS.f k l l = some true := by
 unfold laws_eqIntS.f
 rw [if_pos rfl]
 exact eqIntS_tot l hl l.length k 0 (by omega) (by omega) hk
theorem markIntS_tot (n : Nat) (hn : n ≤ 1000000000000) (d : Nat) : ∀ (k : Nat) (l : List Int) (i : Nat), l.length = n → n - i ≤ d → d < k → i ≤ n → (∀ j, j < i → rd l j = (j : Int) + 1) →
  ∃ l', laws_markIntS.l0 k l ((i : Int) + 1) i = some ((n : Int) + 1, l') ∧ l'.length = n ∧ ∀ j : Nat, j < n → rd l' j = (j : Int) + 1 := by
 induction d with
 | zero =>
  intro k l i hl hd hk hi hr
  obtain ⟨k, rfl⟩ : ∃ m, k = m + 1 := ⟨k - 1, by omega⟩
  obtain rfl : i = n := by omega
  simp only [laws_markIntS.l0]; rw [if_neg (by omega)]
  exact ⟨l, rfl, hl, hr⟩
 | succ d ih =>
  intro k l i hl hd hk hi hr
  obtain ⟨k, rfl⟩ : ∃ m, k = m + 1 := ⟨k - 1, by omega⟩
  simp only [laws_markIntS.l0]
  by_cases h1 : (i : Int) < (l.length : Int)
  ·rw [if_pos h1, if_pos (by omega), w64_id (x := (i : Int) + 1 + 1) (by omega) (by omega), w64_id (x := (i : Int) + 1) (by omega) (by omega)]
   have := ih k (l.set (i : Int).toNat ((i : Int) + 1)) (i + 1) (by simpa using hl) (by omega) (by omega) (by omega) (fun j hj => by
    unfold rd
    simp only [Int.toNat_natCast]
    by_cases e : j = i
    ·subst e; rw [List.getD_eq_getElem?_getD, List.getElem?_set_self (by omega)]; rfl
    ·have := hr j (by omega)
     unfold rd at this
     rw [List.getD_eq_getElem?_getD, List.getElem?_set_ne (by omega), ← List.getD_eq_getElem?_getD]
     simpa using this)
   simpa using this
  ·rw [if_neg h1]
   obtain rfl : i = n := by omega
   exact ⟨l, rfl, hl, hr⟩
theorem heldIntS_tot (l : List Int) (hl : l.length ≤ 1000000000000) (hr : ∀ j : Nat, j < l.length → rd l j = (j : Int) + 1) (d : Nat) : ∀ (k : Nat) (i : Nat), l.length - i ≤ d → d < k → i ≤ l.length → laws_heldIntS.l0 k l ((i : Int) + 1) i = some ((l.length : Int) + 1) := by
 induction d with
 | zero =>
  intro k i hd hk hi
  obtain ⟨k, rfl⟩ : ∃ m, k = m + 1 := ⟨k - 1, by omega⟩
  obtain rfl : i = l.length := by omega
  simp only [laws_heldIntS.l0]; rw [if_neg (by omega)]
 | succ d ih =>
  intro k i hd hk hi
  obtain ⟨k, rfl⟩ : ∃ m, k = m + 1 := ⟨k - 1, by omega⟩
  simp only [laws_heldIntS.l0]
  by_cases h1 : (i : Int) < (l.length : Int)
  ·rw [if_pos h1, if_pos (by omega), if_pos (hr i (by omega)), w64_id (x := (i : Int) + 1 + 1) (by omega) (by omega), w64_id (x := (i : Int) + 1) (by omega) (by omega)]
   have := ih k (i + 1) (by omega) (by omega) (by omega)
   simpa using this
  ·rw [if_neg h1]
   obtain rfl : i = l.length := by omega
   rfl
theorem mark_held (l : List Int) (hl : l.length ≤ 1000000000000) (k : Nat) (hk : l.length < k) : ∃ l', laws_markIntS.f k l 1 = some ((l.length : Int) + 1, l') ∧ laws_heldIntS.f k l' 1 = some ((l.length : Int) + 1) := by
 unfold laws_markIntS.f laws_heldIntS.f
 obtain ⟨l', e, hn, hr⟩ := markIntS_tot l.length hl l.length k l 0 rfl (by omega) hk (by omega) (fun j hj => by omega)
 refine ⟨l', by simpa using e, ?_⟩
 have := heldIntS_tot l' (by omega) (fun j hj => hr j (by omega)) l.length k 0 (by omega) hk (by omega)
 rw [hn] at this
 simpa using this
theorem held_again (l : List Int) (hl : l.length ≤ 1000000000000) (k : Nat) (hk : l.length < k) (K : Nat) (hK : l.length < K) {l' : List Int} (hm : laws_markIntS.f K l 1 = some ((l.length : Int) + 1, l')) : laws_heldIntS.f k l' 1 = some ((l.length : Int) + 1) := by
 unfold laws_markIntS.f at hm
 unfold laws_heldIntS.f
 obtain ⟨l2, e, hn, hr⟩ := markIntS_tot l.length hl l.length K l 0 rfl (by omega) hK (by omega) (fun j hj => by omega)
 have e' : laws_markIntS.l0 K l 1 0 = some ((l.length : Int) + 1, l2) := by simpa using e
 rw [e'] at hm
 have el : l2 = l' := (Prod.mk.inj (Option.some.inj hm)).2
 subst el
 have := heldIntS_tot l2 (by omega) (fun j hj => hr j (by omega)) l.length k 0 (by omega) hk (by omega)
 rw [hn] at this
 simpa using this
def dirOf (c : Int) : Int := if c = 78 then 0 else if c = 69 then 1 else if c = 83 then 2 else if c = 87 then 3 else -1
theorem index_dirOf (k : Nat) (c : Int) : slices_Index_byte_byte.f (k + 5) [78, 69, 83, 87] c = some (dirOf c) := by
 unfold slices_Index_byte_byte.f dirOf
 rw [show k + 5 = k + 1 + 1 + 1 + 1 + 1 by omega]
 have w1 : wrap64 (0 + 1) = 1 := (by first | decide | (unfold wrap64; omega))
 have w2 : wrap64 (1 + 1) = 2 := (by first | decide | (unfold wrap64; omega))
 have w3 : wrap64 (2 + 1) = 3 := (by first | decide | (unfold wrap64; omega))
 have w4 : wrap64 (3 + 1) = 4 := (by first | decide | (unfold wrap64; omega))
 have r0 : rd [78, 69, 83, 87] 0 = 78 := rfl
 have r1 : rd [78, 69, 83, 87] 1 = 69 := rfl
 have r2 : rd [78, 69, 83, 87] 2 = 83 := rfl
 have r3 : rd [78, 69, 83, 87] 3 = 87 := rfl
 simp only [slices_Index_byte_byte.l0, w1, w2, w3, w4, r0, r1, r2, r3, List.length_cons, List.length_nil]
 by_cases h0 : c = 78
 ·subst h0; simp
 ·by_cases h1 : c = 69
  ·subst h1; simp
  ·by_cases h2 : c = 83
   ·subst h2; simp
   ·by_cases h3 : c = 87
    ·subst h3; simp
    ·simp [h0, h1, h2, h3]
theorem spec_letter (s : ByteArray) (acc : List Int) (i : Int) (i0 : 0 ≤ i) (i1 : i < s.size) (hs : s.size ≤ 2000000) (ha : acc.length ≤ 2000000) (k : Nat) : spec_ParseWay.l1 (k + 5) s acc i (-1) 0 = if dirOf (bt s i) < 0 then some ([], false) else spec_ParseWay.l0 k s (acc ++ [dirOf (bt s i)]) (i + 1) := by
 rw [show k + 5 = k + 1 + 1 + 1 + 1 + 1 by omega]
 have w1 : wrap64 (0 + 1) = 1 := by decide +kernel
 have w2 : wrap64 (1 + 1) = 2 := by decide +kernel
 have w3 : wrap64 (2 + 1) = 3 := by decide +kernel
 have w4 : wrap64 (3 + 1) = 4 := by decide +kernel
 have r0 : bt (⟨#[78, 69, 83, 87]⟩ : ByteArray) 0 = 78 := by decide
 have r1 : bt (⟨#[78, 69, 83, 87]⟩ : ByteArray) 1 = 69 := by decide
 have r2 : bt (⟨#[78, 69, 83, 87]⟩ : ByteArray) 2 = 83 := by decide
 have r3 : bt (⟨#[78, 69, 83, 87]⟩ : ByteArray) 3 = 87 := by decide
 have wi : wrap64 (i + 1) = i + 1 := w64_id (by omega) (by omega)
 simp only [spec_ParseWay.l1, w1, w2, w3, w4, r0, r1, r2, r3, i0, i1, if_true, wi, show acc.length < 17592186044416 by omega]
 unfold dirOf
 generalize bt s i = c
 by_cases h0 : c = 78
 ·subst h0; simp
 ·by_cases h1 : c = 69
  ·subst h1; simp
  ·by_cases h2 : c = 83
   ·subst h2; simp
   ·by_cases h3 : c = 87
    ·subst h3; simp
    ·simp [h0, h1, h2, h3, Ne.symm h0, Ne.symm h1, Ne.symm h2, Ne.symm h3, eq_comm]
theorem parse_both (s : ByteArray) (hs : s.size ≤ 1048576) (d : Nat) : ∀ (i : Nat) (acc : List Int), i + d = s.size → acc.length + d ≤ 1100000 → ∃ r t, (∀ k, 6 * d + 10 ≤ k → spec_ParseWay.l0 k s acc i = some (r, t)) ∧ (∀ k, 6 * d + 10 ≤ k → impl_ParseWay.l0 k s acc i = some (r, t)) ∧ r.length ≤ acc.length + d := by
 induction d with
 | zero =>
  intro i acc hi ha
  refine ⟨acc, true, fun k hk => ?_, fun k hk => ?_, by omega⟩
  ·obtain ⟨k, rfl⟩ : ∃ m, k = m + 1 := ⟨k - 1, by omega⟩
   simp only [spec_ParseWay.l0]; rw [if_neg (by omega)]
  ·obtain ⟨k, rfl⟩ : ∃ m, k = m + 1 := ⟨k - 1, by omega⟩
   simp only [impl_ParseWay.l0]; rw [if_neg (by omega)]
 | succ d ih =>
  intro i acc hi ha
  have hS : ∀ k, 6 * (d + 1) + 10 ≤ k → spec_ParseWay.l0 k s acc i = if dirOf (bt s i) < 0 then some ([], false) else spec_ParseWay.l0 (k - 6) s (acc ++ [dirOf (bt s i)]) ((i : Int) + 1) := fun k hk => by
   obtain ⟨k, rfl⟩ : ∃ m, k = m + 6 := ⟨k - 6, by omega⟩
   have hl := spec_letter s acc i (by omega) (by omega) (by omega) (by omega) k
   rw [show k + 6 - 6 = k by omega, show k + 6 = (k + 5) + 1 by omega]
   generalize k + 5 = m at hl ⊢
   simp only [spec_ParseWay.l0]
   rw [if_pos (by omega), hl]
  have hI : ∀ k, 6 * (d + 1) + 10 ≤ k → impl_ParseWay.l0 k s acc i = if dirOf (bt s i) < 0 then some ([], false) else impl_ParseWay.l0 (k - 1) s (acc ++ [dirOf (bt s i)]) ((i : Int) + 1) := fun k hk => by
   obtain ⟨k, rfl⟩ : ∃ m, k = m + 5 + 1 := ⟨k - 6, by omega⟩
   have hx := index_dirOf k (bt s i)
   rw [show k + 5 + 1 - 1 = k + 5 by omega]
   generalize k + 5 = m at hx ⊢
   simp only [impl_ParseWay.l0]
   rw [if_pos (by omega), if_pos (by omega), hx, w64_id (x := (i : Int) + 1) (by omega) (by omega)]
   simp only [Option.bind_some]
   rw [if_pos (show acc.length < 17592186044416 by omega)]
  by_cases hn : dirOf (bt s i) < 0
  ·exact ⟨[], false, fun k hk => by rw [hS k hk, if_pos hn], fun k hk => by rw [hI k hk, if_pos hn], by simp⟩
  ·obtain ⟨r, t, r1, r2, r3⟩ := ih (i + 1) (acc ++ [dirOf (bt s i)]) (by omega) (by simp; omega)
   refine ⟨r, t, fun k hk => ?_, fun k hk => ?_, by simp at r3; omega⟩
   ·rw [hS k hk, if_neg hn]; exact r1 _ (by omega)
   ·rw [hI k hk, if_neg hn]; exact r2 _ (by omega)
theorem FnExactParseWay : laws_FnExactParseWay.Pure := by
 intro s _
 obtain ⟨K, hK⟩ : ∃ K, K = 6 * s.size + 20 := ⟨_, rfl⟩
 refine ⟨K + 1 + 1, ?_⟩
 unfold laws_FnExactParseWay.f
 by_cases hb : (s.size : Int) > 1048576
 ·rw [if_pos hb]
 ·rw [if_neg hb]
  obtain ⟨r, t, r1, r2, hr⟩ := parse_both s (by omega) s.size 0 [] (by omega) (by simp; omega)
  have hr' : r.length ≤ s.size := by simpa using hr
  have s0 : spec_ParseWay.f (K + 1 + 1) s = some (r, t) := r1 (K + 1 + 1) (by omega)
  have i0 : impl_ParseWay.f (K + 1 + 1) s = some (r, t) := r2 (K + 1 + 1) (by omega)
  have i1 : impl_ParseWay.f (K + 1) s = some (r, t) := r2 (K + 1) (by omega)
  have e0 := eqIntS_self r (by omega) (K + 1 + 1) (by omega)
  have e1 := eqIntS_self r (by omega) (K + 1) (by omega)
  obtain ⟨l', m1, m2⟩ := mark_held r (by omega) (K + 1) (by omega)
  have hh : laws_heldIntS.f K l' 1 = some ((r.length : Int) + 1) := held_again r (by omega) K (by omega) (K + 1) (by omega) m1
  simp only [s0, i0, e0, Option.bind_some, if_true, bne_self_eq_false, laws_FnExactParseWay.j0, laws_FnExactParseWay.j1, i1, e1, m1, m2, hh, show ¬ ((r.length : Int) + 1 < 0) by omega, if_false, Bool.false_eq_true]

end Go.Proofs.Ytkbfknodibnkgaa.Q.P
namespace Go.Proofs.Ytkbfknodibnkgaa.Pure
theorem FnExactParseWay : Go.Proofs.Ytkbfknodibnkgaa.Q.laws_FnExactParseWay.Pure := Go.Proofs.Ytkbfknodibnkgaa.Q.P.FnExactParseWay
end Go.Proofs.Ytkbfknodibnkgaa.Pure
