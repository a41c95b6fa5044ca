/- The plain law FnExactSplitFields: for every input that its Go types allow, the printed functions of the program and of the reference answer so that the law's own function says true. No further condition. -/
import Derived.Test.YthhpdehpancdaaaQx0
import Derived.Test.YthhpdehpancdaaaQx11
import Derived.Test.YthhpdehpancdaaaQx12
import Derived.Test.YthhpdehpancdaaaQx13
import Derived.Test.YthhpdehpancdaaaQx14
import Derived.Test.YthhpdehpancdaaaQx15
namespace Go.Proofs.Ythhpdehpancdaaa.Pure
open Go.RowKit Go.Proofs.Ythhpdehpancdaaa.Q Go.Proofs.YthhpdehpancdaaaW.PrintWords Go.Proofs.YthhpdehpancdaaaW.PrintLast Go.Proofs.YthhpdehpancdaaaW.PrintMore
set_option linter.unusedVariables false
set_option linter.unusedSimpArgs false

theorem w64_id {x : Int} (h0 : -9223372036854775808 ≤ x) (h1 : x ≤ 9223372036854775807) : wrap64 x = x := by
 unfold wrap64; omega
theorem split_same (k : Nat) : (∀ x0 x4 x5 x6, spec_SplitFields.l0 k x0 x4 x5 x6 = impl_SplitFields.l0 k x0 x4 x5 x6) ∧ (∀ x0 x4 x5 x6 b, spec_SplitFields.j1 k x0 x4 x5 x6 b = impl_SplitFields.j1 k x0 x4 x5 x6 b) ∧ (∀ x0 x4 x5 x6 b, spec_SplitFields.j2 k x0 x4 x5 x6 b = impl_SplitFields.j2 k x0 x4 x5 x6 b) := by
 induction k with
 | zero => exact ⟨fun _ _ _ _ => rfl, fun _ _ _ _ _ => rfl, fun _ _ _ _ _ => rfl⟩
 | succ k ih =>
  obtain ⟨h0, h1, h2⟩ := ih
  refine ⟨fun x0 x4 x5 x6 => ?_, fun x0 x4 x5 x6 b => ?_, fun x0 x4 x5 x6 b => ?_⟩
  ·simp only [spec_SplitFields.l0, impl_SplitFields.l0, h1]
  ·simp only [spec_SplitFields.j1, impl_SplitFields.j1, h2]
  ·simp only [spec_SplitFields.j2, impl_SplitFields.j2, h0, gt_iff_lt]
theorem split_tot (s : ByteArray) (hs : s.size ≤ 600) (d : Nat) : ∀ (i a : Nat) (acc : List ByteArray), i + d = s.size + 1 → a ≤ i → acc.length + d ≤ 1000 → ∃ r t, (∀ k, 3 * d + 1 ≤ k → impl_SplitFields.l0 k s acc a i = some (r, t)) ∧ r.length ≤ 24 := by
 induction d with
 | zero =>
  intro i a acc hi ha hl
  by_cases h24 : (acc.length : Int) > 24
  ·refine ⟨[], false, fun k hk => ?_, by simp⟩
   obtain ⟨k, rfl⟩ : ∃ m, k = m + 1 := ⟨k - 1, by omega⟩
   simp only [impl_SplitFields.l0]; rw [if_neg (by omega), if_pos h24]
  ·refine ⟨acc, true, fun k hk => ?_, by omega⟩
   obtain ⟨k, rfl⟩ : ∃ m, k = m + 1 := ⟨k - 1, by omega⟩
   simp only [impl_SplitFields.l0]; rw [if_neg (by omega), if_neg h24]
 | succ d ih =>
  intro i a acc hi ha hl
  have hJ2 : ∀ b : Bool, ∃ r t, (∀ k, 3 * d + 2 ≤ k → impl_SplitFields.j2 k s acc a i b = some (r, t)) ∧ r.length ≤ 24 := fun b => by
   have hw : wrap64 ((i : Int) + 1) = ((i + 1 : Nat) : Int) := by rw [w64_id (by omega) (by omega)]; omega
   cases b with
   | true =>
    obtain ⟨r, t, r1, r2⟩ := ih (i + 1) a acc (by omega) (by omega) (by omega)
    refine ⟨r, t, fun k hk => ?_, r2⟩
    obtain ⟨k, rfl⟩ : ∃ m, k = m + 1 := ⟨k - 1, by omega⟩
    simp only [impl_SplitFields.j2]
    rw [if_pos trivial, hw]
    exact r1 k (by omega)
   | false =>
    by_cases hlt : a < i
    ·obtain ⟨r, t, r1, r2⟩ := ih (i + 1) (i + 1) (acc ++ [s.extract (a : Int).toNat (i : Int).toNat]) (by omega) (by omega) (by simp; omega)
     refine ⟨r, t, fun k hk => ?_, r2⟩
     obtain ⟨k, rfl⟩ : ∃ m, k = m + 1 := ⟨k - 1, by omega⟩
     simp only [impl_SplitFields.j2]
     rw [if_neg (by decide), hw, if_pos (by omega), if_pos (by omega), if_pos (by omega), if_pos (by omega), if_pos (by omega)]
     exact r1 k (by omega)
    ·obtain ⟨r, t, r1, r2⟩ := ih (i + 1) (i + 1) acc (by omega) (by omega) (by omega)
     refine ⟨r, t, fun k hk => ?_, r2⟩
     obtain ⟨k, rfl⟩ : ∃ m, k = m + 1 := ⟨k - 1, by omega⟩
     simp only [impl_SplitFields.j2]
     rw [if_neg (by decide), hw, if_neg (by omega)]
     exact r1 k (by omega)
  have hJ1 : ∀ b : Bool, ∃ r t, (∀ k, 3 * d + 3 ≤ k → impl_SplitFields.j1 k s acc a i b = some (r, t)) ∧ r.length ≤ 24 := fun b => by
   cases b with
   | true =>
    refine ⟨[], false, fun k hk => ?_, by simp⟩
    obtain ⟨k, rfl⟩ : ∃ m, k = m + 1 := ⟨k - 1, by omega⟩
    simp only [impl_SplitFields.j1]; rw [if_pos trivial]
   | false =>
    obtain ⟨r, t, r1, r2⟩ := hJ2 (if (i : Int) < (s.size : Int) then (bt s i) != 32 else false)
    refine ⟨r, t, fun k hk => ?_, r2⟩
    obtain ⟨k, rfl⟩ : ∃ m, k = m + 1 := ⟨k - 1, by omega⟩
    have := r1 k (by omega)
    simp only [impl_SplitFields.j1]
    rw [if_neg (by decide)]
    by_cases h1 : (i : Int) < (s.size : Int)
    ·rw [if_pos h1] at this
     rw [if_pos h1, if_pos (by omega)]; exact this
    ·rw [if_neg h1] at this
     rw [if_neg h1]; exact this
  obtain ⟨r, t, r1, r2⟩ := hJ1 (if (i : Int) < (s.size : Int) then (if (bt s i) < 32 then true else decide ((bt s i) > 126)) else false)
  refine ⟨r, t, fun k hk => ?_, r2⟩
  obtain ⟨k, rfl⟩ : ∃ m, k = m + 1 := ⟨k - 1, by omega⟩
  have := r1 k (by omega)
  simp only [impl_SplitFields.l0]
  rw [if_pos (by omega)]
  by_cases h1 : (i : Int) < (s.size : Int)
  ·rw [if_pos h1] at this
   rw [if_pos h1, if_pos (by omega)]
   by_cases h2 : (bt s i) < 32
   ·rw [if_pos h2] at this ⊢; exact this
   ·rw [if_neg h2] at this ⊢; exact this
  ·rw [if_neg h1] at this
   rw [if_neg h1]; exact this
theorem eqStringS_tot (l : List ByteArray) (hl : l.length ≤ 1000000000000) (d : Nat) : ∀ (k : Nat) (i : Int), 0 ≤ i → (l.length : Int) - i ≤ d → d < k → laws_eqStringS.l0 k l l i = some true := by
 induction d with
 | zero =>
  intro k i h0 hd hk
  obtain ⟨k, rfl⟩ : ∃ m, k = m + 1 := ⟨k - 1, by omega⟩
  simp only [laws_eqStringS.l0]; rw [if_neg (by omega)]
 | succ d ih =>
  intro k i h0 hd hk
  obtain ⟨k, rfl⟩ : ∃ m, k = m + 1 := ⟨k - 1, by omega⟩
  simp only [laws_eqStringS.l0]
  by_cases h1 : i < (l.length : Int)
  ·rw [if_pos h1, if_pos h0, if_pos h1, if_pos trivial, w64_id (x := i + 1) (by omega) (by omega)]
   exact ih _ _ (by omega) (by omega) (by omega)
  ·rw [if_neg h1]
theorem eqStringS_self (l : List ByteArray) (hl : l.length ≤ 1000000000000) (k : Nat) (hk : l.length < k) : laws_eqStringS.f k l l = some true := by
 unfold laws_eqStringS.f
 rw [if_pos rfl]
 exact eqStringS_tot l hl l.length k 0 (by omega) (by omega) hk
def mtx (x : Int) : ByteArray := (laws_markText.f 5 x).getD ByteArray.empty
theorem markText_tot (k : Nat) : ∀ (x : Int) (t : ByteArray), 0 ≤ x → x < 10 ^ k → k ≤ 10 → t.size + k ≤ 1000 → ∃ v, laws_markText.l0 (k + 1) x t = some v := by
 induction k with
 | zero =>
  intro x t h0 h1 _ ht
  simp only [laws_markText.l0]
  rw [if_neg (by omega), if_pos (by omega)]
  exact ⟨_, rfl⟩
 | succ k ih =>
  intro x t h0 h1 hk ht
  have hp : (10 : Int) ^ (k + 1) ≤ 10 ^ 10 := by
   have := Nat.pow_le_pow_right (show 0 < 10 by decide) hk
   exact_mod_cast this
  have hdv : wrap64 (Int.tdiv x 10) = x / 10 := by
   rw [Int.tdiv_eq_ediv_of_nonneg h0]; exact w64_id (by omega) (by omega)
  have hlt : x / 10 < 10 ^ k := by
   rw [Int.pow_succ] at h1; omega
  generalize hm : k + 1 = m
  simp only [laws_markText.l0]
  by_cases hx : x > 0
  ·rw [if_pos hx]
   simp only [Option.bind_some]
   have hs1 : ∀ y : Int, (strOfNums [y]).size = 1 := fun y => by show (strOfNums [y]).data.size = 1; simp [strOfNums]
   rw [if_pos (by rw [hs1]; omega), hdv, ← hm]
   refine ih _ _ (by omega) hlt (by omega) ?_
   rw [ByteArray.size_append, hs1]; omega
  ·rw [if_neg hx, if_pos (by omega)]
   exact ⟨_, rfl⟩
theorem mtx_some (x : Nat) (hx : x < 60) : ∃ v, laws_markText.f 5 (x : Int) = some v := by
 unfold laws_markText.f
 by_cases h0 : (x : Int) ≤ 0
 ·rw [if_pos h0]; exact ⟨_, rfl⟩
 ·rw [if_neg h0]
  exact markText_tot 4 x _ (by omega) (by omega) (by omega) (by decide)
theorem markText_eq5 (x : Nat) (hx : x < 60) (k : Nat) (hk : 5 ≤ k) : laws_markText.f k (x : Int) = some (mtx x) := by
 obtain ⟨v, hv⟩ := mtx_some x hx
 have hm : mtx x = v := by unfold mtx; rw [hv]; rfl
 rw [hm]
 clear hm
 induction hk with
 | refl => exact hv
 | step _ ih => exact laws_markText.mono _ _ _ ih
theorem rdOf_set (D : List ByteArray) (i j : Nat) (v : ByteArray) (h1 : i < D.length) : rdOf ByteArray.empty (D.set i v) (j : Int) = if j = i then v else rdOf ByteArray.empty D (j : Int) := by
 unfold rdOf
 simp only [Int.toNat_natCast]
 by_cases e : j = i
 ·subst e; rw [if_pos rfl, List.getD_eq_getElem?_getD, List.getElem?_set_self h1]; rfl
 ·rw [if_neg e, List.getD_eq_getElem?_getD, List.getElem?_set_ne (by omega), ← List.getD_eq_getElem?_getD]
theorem markStringS_tot (M : Nat → ByteArray) (hM : ∀ x : Nat, x < 60 → ∀ k, 5 ≤ k → laws_markText.f k (x : Int) = some (M x)) (n : Nat) (hn : n ≤ 50) (d : Nat) : ∀ (k : Nat) (l : List ByteArray) (i : Nat), l.length = n → n - i ≤ d → d + 6 < k → i ≤ n → (∀ j : Nat, j < i → rdOf ByteArray.empty l (j : Int) = M (j + 1)) →
  ∃ l', laws_markStringS.l0 k l ((i : Int) + 1) i = some ((n : Int) + 1, l') ∧ l'.length = n ∧ ∀ j : Nat, j < n → rdOf ByteArray.empty l' (j : Int) = M (j + 1) := by
 induction d with
 | zero =>
  intro k l i hl hd hk hi hr
  obtain ⟨k, rfl⟩ : ∃ m, k = m + 1 := ⟨k - 1, by omega⟩
  obtain rfl : i = n := by omega
  simp only [laws_markStringS.l0]; rw [if_neg (by omega)]
  exact ⟨l, rfl, hl, hr⟩
 | succ d ih =>
  intro k l i hl hd hk hi hr
  obtain ⟨k, rfl⟩ : ∃ m, k = m + 1 := ⟨k - 1, by omega⟩
  have hmt := hM (i + 1) (by omega) k (by omega)
  by_cases h1 : (i : Int) < (l.length : Int)
  ·have := ih k (l.set (i : Int).toNat (M (i + 1))) (i + 1) (by simpa using hl) (by omega) (by omega) (by omega) (fun j hj => by
    rw [Int.toNat_natCast, rdOf_set l i j _ (by omega)]
    by_cases e : j = i
    ·subst e; rw [if_pos rfl]
    ·rw [if_neg e]; exact hr j (by omega))
   simp only [laws_markStringS.l0]
   rw [if_pos h1, show (i : Int) + 1 = ((i + 1 : Nat) : Int) by omega, hmt]
   simp only [Option.bind_some]
   rw [if_pos (by omega), w64_id (x := ((i + 1 : Nat) : Int) + 1) (by omega) (by omega), w64_id (x := ((i + 1 : Nat) : Int)) (by omega) (by omega)]
   simpa using this
  ·simp only [laws_markStringS.l0]
   rw [if_neg h1]
   obtain rfl : i = n := by omega
   exact ⟨l, rfl, hl, hr⟩
theorem heldStringS_tot (M : Nat → ByteArray) (hM : ∀ x : Nat, x < 60 → ∀ k, 5 ≤ k → laws_markText.f k (x : Int) = some (M x)) (l : List ByteArray) (hl : l.length ≤ 50) (hr : ∀ j : Nat, j < l.length → rdOf ByteArray.empty l (j : Int) = M (j + 1)) (d : Nat) : ∀ (k : Nat) (i : Nat), l.length - i ≤ d → d + 6 < k → i ≤ l.length → laws_heldStringS.l0 k l ((i : Int) + 1) i = some ((l.length : Int) + 1) := by
 induction d with
 | zero =>
  intro k i hd hk hi
  obtain ⟨k, rfl⟩ : ∃ m, k = m + 1 := ⟨k - 1, by omega⟩
  obtain rfl : i = l.length := by omega
  simp only [laws_heldStringS.l0]; rw [if_neg (by omega)]
 | succ d ih =>
  intro k i hd hk hi
  obtain ⟨k, rfl⟩ : ∃ m, k = m + 1 := ⟨k - 1, by omega⟩
  have hmt := hM (i + 1) (by omega) k (by omega)
  by_cases h1 : (i : Int) < (l.length : Int)
  ·have := ih k (i + 1) (by omega) (by omega) (by omega)
   have hri := hr i (by omega)
   simp only [laws_heldStringS.l0]
   rw [if_pos h1, if_pos (by omega), hri, show (i : Int) + 1 = ((i + 1 : Nat) : Int) by omega, hmt]
   simp only [Option.bind_some]
   rw [if_pos trivial, w64_id (x := ((i + 1 : Nat) : Int) + 1) (by omega) (by omega), w64_id (x := ((i + 1 : Nat) : Int)) (by omega) (by omega)]
   simpa using this
  ·simp only [laws_heldStringS.l0]
   rw [if_neg h1]
   obtain rfl : i = l.length := by omega
   rfl
theorem mark_heldS (l : List ByteArray) (hl : l.length ≤ 50) (k : Nat) (hk : l.length + 6 < k) : ∃ l', laws_markStringS.f k l 1 = some ((l.length : Int) + 1, l') ∧ ∀ k', l.length + 6 < k' → laws_heldStringS.f k' l' 1 = some ((l.length : Int) + 1) := by
 unfold laws_markStringS.f laws_heldStringS.f
 obtain ⟨l', e, hn, hr⟩ := markStringS_tot (fun x => mtx x) (fun x hx k hk => markText_eq5 x hx k hk) l.length hl l.length k l 0 rfl (by omega) hk (by omega) (fun j hj => by omega)
 refine ⟨l', by simpa using e, fun k' hk' => ?_⟩
 have := heldStringS_tot (fun x => mtx x) (fun x hx k hk => markText_eq5 x hx k hk) l' (by omega) (fun j hj => hr j (by omega)) l.length k' 0 (by omega) hk' (by omega)
 rw [hn] at this
 simpa using this
theorem FnExactSplitFields : laws_FnExactSplitFields.Pure := by
 intro s _
 obtain ⟨K, hK⟩ : ∃ K, K = 3000 := ⟨_, rfl⟩
 refine ⟨K + 1 + 1, ?_⟩
 have hb : ∃ r t, (∀ k, 2000 ≤ k → spec_SplitFields.f k s = some (r, t)) ∧ (∀ k, 2000 ≤ k → impl_SplitFields.f k s = some (r, t)) ∧ r.length ≤ 24 := by
  unfold spec_SplitFields.f impl_SplitFields.f
  simp only [Option.bind_some]
  by_cases h6 : (s.size : Int) > 600
  ·refine ⟨[], false, fun k _ => by rw [if_pos h6], fun k _ => by rw [if_pos h6], by simp⟩
  ·obtain ⟨r, t, r1, r2⟩ := split_tot s (by omega) (s.size + 1) 0 0 [] (by omega) (by omega) (by simp; omega)
   refine ⟨r, t, fun k hk => ?_, fun k hk => ?_, r2⟩
   ·rw [if_neg h6, (split_same k).1]; exact r1 k (by omega)
   ·rw [if_neg h6]; exact r1 k (by omega)
 obtain ⟨r, t, r1, r2, hr⟩ := hb
 unfold laws_FnExactSplitFields.f
 by_cases hb : (s.size : Int) > 1048576
 ·rw [if_pos hb]
 ·rw [if_neg hb]
  have s0 := r1 (K + 1 + 1) (by omega)
  have i0 := r2 (K + 1 + 1) (by omega)
  have i1 := r2 (K + 1) (by omega)
  have e0 := eqStringS_self r (by omega) (K + 1 + 1) (by omega)
  have e1 := eqStringS_self r (by omega) (K + 1) (by omega)
  obtain ⟨l', m1, m2⟩ := mark_heldS r (by omega) (K + 1) (by omega)
  have h1 := m2 (K + 1) (by omega)
  have h2 := m2 K (by omega)
  simp only [s0, i0, e0, Option.bind_some, if_true, bne_self_eq_false, laws_FnExactSplitFields.j0, laws_FnExactSplitFields.j1, i1, e1, m1, h1, h2, show ¬ ((r.length : Int) + 1 < 0) by omega, if_false, Bool.false_eq_true]

end Go.Proofs.Ythhpdehpancdaaa.Pure
