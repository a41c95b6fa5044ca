/- The plain law FnExactReverseWay: for every input that its Go types allow, the printed functions of the program and of the reference answer so that the law's own function says true. No further condition. -/
import Derived.Test.YtcdpbbkgeeianaaQx0
import Derived.Test.YtcdpbbkgeeianaaQx1
import Derived.Test.YtcdpbbkgeeianaaQx16
import Derived.Test.YtcdpbbkgeeianaaQx17
import Derived.Test.YtcdpbbkgeeianaaQx20
import Derived.Test.YtcdpbbkgeeianaaQx40
import Derived.Test.YtcdpbbkgeeianaaQx42
import Derived.Test.YtcdpbbkgeeianaaQx43
namespace Go.Proofs.Ytcdpbbkgeeianaa.Pure
open Go.RowKit Go.Proofs.Ytcdpbbkgeeianaa.Q Go.Proofs.YtcdpbbkgeeianaaW.PrintWords Go.Proofs.YtcdpbbkgeeianaaW.PrintLast Go.Proofs.YtcdpbbkgeeianaaW.PrintMore
set_option linter.unusedVariables false
set_option linter.unusedSimpArgs false

theorem w64_id {x : Int} (h0 : -9223372036854775808 ≤ x) (h1 : x ≤ 9223372036854775807) : wrap64 x = x := by
  unfold wrap64; omega
theorem l01In_eq (a b c : Int) : spec_l01In.f a b c = some (decide (b ≤ a) && decide (a ≤ c)) := by
  unfold spec_l01In.f
  by_cases h : a ≥ b
  · rw [if_pos h]; simp [show b ≤ a from h]
  · rw [if_neg h]; simp [show ¬ b ≤ a from h]
theorem eqIntS_tot (l : List Int) (hl : l.length ≤ 1000000000000) (d : Nat) : ∀ (k : Nat) (i : Int), 0 ≤ i → (l.length : Int) - i ≤ d → d < k → laws_eqIntS.l0 k l l i = some true := by
  induction d with
  | zero =>
    intro k i h0 hd hk
    obtain ⟨k, rfl⟩ : ∃ m, k = m + 1 := ⟨k - 1, by omega⟩
    simp only [laws_eqIntS.l0]; rw [if_neg (by omega)]
  | succ d ih =>
    intro k i h0 hd hk
    obtain ⟨k, rfl⟩ : ∃ m, k = m + 1 := ⟨k - 1, by omega⟩
    simp only [laws_eqIntS.l0]
    by_cases h1 : i < (l.length : Int)
    · rw [if_pos h1, if_pos h0, if_pos h1, if_pos trivial, w64_id (x := i + 1) (by omega) (by omega)]
      exact ih _ _ (by omega) (by omega) (by omega)
    · rw [if_neg h1]
theorem eqIntS_self (l : List Int) (hl : l.length ≤ 1000000000000) (k : Nat) (hk : l.length < k) : laws_eqIntS.f k l l = some true := by
  unfold laws_eqIntS.f
  rw [if_pos rfl]
  exact eqIntS_tot l hl l.length k 0 (by omega) (by omega) hk
theorem markIntS_tot (n : Nat) (hn : n ≤ 1000000000000) (d : Nat) : ∀ (k : Nat) (l : List Int) (i : Nat), l.length = n → n - i ≤ d → d < k → i ≤ n → (∀ j, j < i → rd l j = (j : Int) + 1) →
    ∃ l', laws_markIntS.l0 k l ((i : Int) + 1) i = some ((n : Int) + 1, l') ∧ l'.length = n ∧ ∀ j : Nat, j < n → rd l' j = (j : Int) + 1 := by
  induction d with
  | zero =>
    intro k l i hl hd hk hi hr
    obtain ⟨k, rfl⟩ : ∃ m, k = m + 1 := ⟨k - 1, by omega⟩
    obtain rfl : i = n := by omega
    simp only [laws_markIntS.l0]; rw [if_neg (by omega)]
    exact ⟨l, rfl, hl, hr⟩
  | succ d ih =>
    intro k l i hl hd hk hi hr
    obtain ⟨k, rfl⟩ : ∃ m, k = m + 1 := ⟨k - 1, by omega⟩
    simp only [laws_markIntS.l0]
    by_cases h1 : (i : Int) < (l.length : Int)
    · rw [if_pos h1, if_pos (by omega), w64_id (x := (i : Int) + 1 + 1) (by omega) (by omega), w64_id (x := (i : Int) + 1) (by omega) (by omega)]
      have := ih k (l.set (i : Int).toNat ((i : Int) + 1)) (i + 1) (by simpa using hl) (by omega) (by omega) (by omega) (fun j hj => by
        unfold rd
        simp only [Int.toNat_natCast]
        by_cases e : j = i
        · subst e; rw [List.getD_eq_getElem?_getD, List.getElem?_set_self (by omega)]; rfl
        · have := hr j (by omega)
          unfold rd at this
          rw [List.getD_eq_getElem?_getD, List.getElem?_set_ne (by omega), ← List.getD_eq_getElem?_getD]
          simpa using this)
      simpa using this
    · rw [if_neg h1]
      obtain rfl : i = n := by omega
      exact ⟨l, rfl, hl, hr⟩
theorem heldIntS_tot (l : List Int) (hl : l.length ≤ 1000000000000) (hr : ∀ j : Nat, j < l.length → rd l j = (j : Int) + 1) (d : Nat) : ∀ (k : Nat) (i : Nat), l.length - i ≤ d → d < k → i ≤ l.length → laws_heldIntS.l0 k l ((i : Int) + 1) i = some ((l.length : Int) + 1) := by
  induction d with
  | zero =>
    intro k i hd hk hi
    obtain ⟨k, rfl⟩ : ∃ m, k = m + 1 := ⟨k - 1, by omega⟩
    obtain rfl : i = l.length := by omega
    simp only [laws_heldIntS.l0]; rw [if_neg (by omega)]
  | succ d ih =>
    intro k i hd hk hi
    obtain ⟨k, rfl⟩ : ∃ m, k = m + 1 := ⟨k - 1, by omega⟩
    simp only [laws_heldIntS.l0]
    by_cases h1 : (i : Int) < (l.length : Int)
    · rw [if_pos h1, if_pos (by omega), if_pos (hr i (by omega)), w64_id (x := (i : Int) + 1 + 1) (by omega) (by omega), w64_id (x := (i : Int) + 1) (by omega) (by omega)]
      have := ih k (i + 1) (by omega) (by omega) (by omega)
      simpa using this
    · rw [if_neg h1]
      obtain rfl : i = l.length := by omega
      rfl
theorem mark_held (l : List Int) (hl : l.length ≤ 1000000000000) (k : Nat) (hk : l.length < k) : ∃ l', laws_markIntS.f k l 1 = some ((l.length : Int) + 1, l') ∧ laws_heldIntS.f k l' 1 = some ((l.length : Int) + 1) := by
  unfold laws_markIntS.f laws_heldIntS.f
  obtain ⟨l', e, hn, hr⟩ := markIntS_tot l.length hl l.length k l 0 rfl (by omega) hk (by omega) (fun j hj => by omega)
  refine ⟨l', by simpa using e, ?_⟩
  have := heldIntS_tot l' (by omega) (fun j hj => hr j (by omega)) l.length k 0 (by omega) hk (by omega)
  rw [hn] at this
  simpa using this
def dirIn (c : Int) : Bool := decide (0 ≤ c) && decide (c ≤ 3)
theorem dirB_eq (c : Int) : dirB c = dirIn c := by
  unfold dirB impl_isDirection.f dirIn
  by_cases h : c ≥ 0
  · rw [if_pos h]; simp [show (0 : Int) ≤ c from h]
  · rw [if_neg h]; simp [show ¬ (0 : Int) ≤ c from h]
theorem areDirections_eq (l : List Int) : impl_areDirections.f l = some (l.all dirIn) := by
  unfold impl_areDirections.f
  rw [show (fun c => !dirB c) = fun c => !dirIn c from funext fun c => by rw [dirB_eq]]
  simp [List.all_eq_not_any_not]
theorem rd_mem (l : List Int) (i : Nat) (h1 : i < l.length) : rd l i = l[i] := by
  unfold rd; simp [List.getD_eq_getElem?_getD, h1]
theorem way_tot (l : List Int) (hl : l.length ≤ 1000000000000) (d : Nat) : ∀ (k : Nat) (i : Nat), l.length - i ≤ d → d < k → i ≤ l.length → spec_l06Way.l0 k l i = some ((l.drop i).all dirIn) := by
  induction d with
  | zero =>
    intro k i hd hk hi
    obtain ⟨k, rfl⟩ : ∃ m, k = m + 1 := ⟨k - 1, by omega⟩
    obtain rfl : i = l.length := by omega
    simp only [spec_l06Way.l0]; rw [if_neg (by omega)]; simp
  | succ d ih =>
    intro k i hd hk hi
    obtain ⟨k, rfl⟩ : ∃ m, k = m + 1 := ⟨k - 1, by omega⟩
    simp only [spec_l06Way.l0]
    by_cases h1 : (i : Int) < (l.length : Int)
    · rw [if_pos h1, if_pos (by omega), l01In_eq, w64_id (x := (i : Int) + 1) (by omega) (by omega)]
      have := ih k (i + 1) (by omega) (by omega) (by omega)
      have hi' : i < l.length := by omega
      have e : (l.drop i).all dirIn = (dirIn l[i] && (l.drop (i + 1)).all dirIn) := by
        rw [List.drop_eq_getElem_cons hi', List.all_cons]
      rw [e, rd_mem l i hi']
      simp only [Option.bind_some]
      have e2 : (decide (0 ≤ l[i]) && decide (l[i] ≤ 3)) = dirIn l[i] := rfl
      rw [e2]
      by_cases hq : dirIn l[i] = true
      · rw [if_pos hq, hq]; simpa using this
      · rw [if_neg hq, Bool.eq_false_iff.2 hq]; simp
    · rw [if_neg h1]
      obtain rfl : i = l.length := by omega
      simp
theorem way_eq (l : List Int) (hl : l.length ≤ 1000000000000) (k : Nat) (hk : l.length < k) : spec_l06Way.f k l = some (l.all dirIn) := by
  unfold spec_l06Way.f
  have := way_tot l hl l.length k 0 (by omega) hk (by omega)
  simpa using this
theorem toIntS_tot (l : List Int) (hl : l.length ≤ 1000000000000) (d : Nat) : ∀ (k : Nat) (i : Nat), l.length - i ≤ d → d < k → i ≤ l.length → laws_toIntS.l0 k l (l.take i ++ List.replicate (l.length - i) 0) i = some l := by
  induction d with
  | zero =>
    intro k i hd hk hi
    obtain ⟨k, rfl⟩ : ∃ m, k = m + 1 := ⟨k - 1, by omega⟩
    obtain rfl : i = l.length := by omega
    simp only [laws_toIntS.l0]; rw [if_neg (by omega)]; simp
  | succ d ih =>
    intro k i hd hk hi
    obtain ⟨k, rfl⟩ : ∃ m, k = m + 1 := ⟨k - 1, by omega⟩
    simp only [laws_toIntS.l0]
    by_cases h1 : (i : Int) < (l.length : Int)
    · have hi' : i < l.length := by omega
      rw [if_pos h1, if_pos (by omega), if_pos (by simp; omega), w64_id (x := (i : Int) + 1) (by omega) (by omega), rd_mem l i hi']
      have := ih k (i + 1) (by omega) (by omega) (by omega)
      have e : (l.take i ++ List.replicate (l.length - i) 0).set (i : Int).toNat l[i] = l.take (i + 1) ++ List.replicate (l.length - (i + 1)) 0 := by
        rw [show l.length - i = (l.length - (i + 1)) + 1 by omega, List.replicate_succ]
        have e3 : (l.take i ++ (0 : Int) :: List.replicate (l.length - (i + 1)) 0).set (i : Int).toNat l[i] = l.take i ++ l[i] :: List.replicate (l.length - (i + 1)) 0 := by
          simp [List.set_append, Nat.min_eq_left hi]
        rw [e3, List.take_succ_eq_append_getElem hi', List.append_assoc]; rfl
      rw [e]; simpa using this
    · rw [if_neg h1]
      obtain rfl : i = l.length := by omega
      simp
theorem toIntS_eq (l : List Int) (hl : l.length ≤ 1000000000000) (k : Nat) (hk : l.length < k) : laws_toIntS.f k l = some l := by
  unfold laws_toIntS.f
  rw [if_pos (by omega), if_pos (by simp; omega)]
  have := toIntS_tot l hl l.length k 0 (by omega) hk (by omega)
  simpa using this
def revL (l : List Int) : Nat → List Int → List Int
  | 0, acc => acc
  | i + 1, acc => revL l i (acc ++ [Int.tmod (wrap64 (rd l i + 2)) 4])
theorem revL_len (l : List Int) (i : Nat) : ∀ acc, (revL l i acc).length = acc.length + i := by
  induction i with
  | zero => intro acc; rfl
  | succ i ih => intro acc; simp only [revL]; rw [ih]; simp; omega
theorem impl_rev (l : List Int) (hl : l.length ≤ 1000000000000) (i : Nat) : ∀ (k : Nat) (acc : List Int), i < k → i ≤ l.length → acc.length + i ≤ 1000000000000 → impl_ReverseWay.l0 k l acc ((i : Int) - 1) = some (revL l i acc) := by
  induction i with
  | zero =>
    intro k acc hk hi ha
    obtain ⟨k, rfl⟩ : ∃ m, k = m + 1 := ⟨k - 1, by omega⟩
    simp only [impl_ReverseWay.l0]; rw [if_neg (by omega)]; rfl
  | succ i ih =>
    intro k acc hk hi ha
    obtain ⟨k, rfl⟩ : ∃ m, k = m + 1 := ⟨k - 1, by omega⟩
    simp only [impl_ReverseWay.l0]
    rw [show ((i + 1 : Nat) : Int) - 1 = (i : Int) by omega, if_pos (by omega), if_pos (by omega), if_pos (by omega), if_pos (by omega), w64_id (x := (i : Int) - 1) (by omega) (by omega)]
    exact ih k _ (by omega) (by omega) (by simp; omega)
theorem spec_rev (l : List Int) (hl : l.length ≤ 1000000000000) (hw : l.all dirIn = true) (i : Nat) : ∀ (k : Nat) (acc : List Int), l.length + i + 1 < k → i ≤ l.length → acc.length + i ≤ 1000000000000 → spec_ReverseWay.l0 k l acc ((i : Int) - 1) = some (revL l i acc) := by
  induction i with
  | zero =>
    intro k acc hk hi ha
    obtain ⟨k, rfl⟩ : ∃ m, k = m + 1 := ⟨k - 1, by omega⟩
    simp only [spec_ReverseWay.l0]; rw [if_neg (by omega)]; rfl
  | succ i ih =>
    intro k acc hk hi ha
    obtain ⟨k, rfl⟩ : ∃ m, k = m + 1 := ⟨k - 1, by omega⟩
    simp only [spec_ReverseWay.l0]
    rw [show ((i + 1 : Nat) : Int) - 1 = (i : Int) by omega, if_pos (by omega), way_eq l hl k (by omega)]
    simp only [Option.bind_some]
    rw [if_pos hw, if_pos (by omega), if_pos (by omega), if_pos (by omega), w64_id (x := (i : Int) - 1) (by omega) (by omega)]
    exact ih k _ (by omega) (by omega) (by simp; omega)
def revW (l : List Int) : List Int := if l.all dirIn = true then revL l l.length [] else []
theorem revW_len (l : List Int) : (revW l).length ≤ l.length := by
  unfold revW; split
  · rw [revL_len]; simp
  · simp
theorem spec_ReverseWay_eq (l : List Int) (hl : l.length ≤ 1000000000) (k : Nat) (hk : 2 * l.length + 2 < k) : spec_ReverseWay.f k l = some (revW l) := by
  unfold spec_ReverseWay.f revW
  rw [w64_id (x := (l.length : Int) - 1) (by omega) (by omega)]
  by_cases hw : l.all dirIn = true
  · rw [if_pos hw]; exact spec_rev l (by omega) hw l.length k [] (by omega) (by omega) (by simp; omega)
  · rw [if_neg hw]
    obtain ⟨k, rfl⟩ : ∃ m, k = m + 1 := ⟨k - 1, by omega⟩
    simp only [spec_ReverseWay.l0]
    rw [way_eq l (by omega) k (by omega)]
    simp only [Option.bind_some]
    rw [if_neg hw]
    split <;> rfl
theorem impl_ReverseWay_eq (l : List Int) (hl : l.length ≤ 1000000000) (k : Nat) (hk : l.length < k) : impl_ReverseWay.f k l = some (revW l) := by
  unfold impl_ReverseWay.f revW
  rw [areDirections_eq, w64_id (x := (l.length : Int) - 1) (by omega) (by omega)]
  simp only [Option.bind_some]
  by_cases hw : l.all dirIn = true
  · rw [if_pos hw, if_pos hw]; exact impl_rev l (by omega) l.length k [] (by omega) (by omega) (by simp; omega)
  · rw [if_neg hw, if_neg hw]
theorem FnExactReverseWay : laws_FnExactReverseWay.Pure := by
  intro l _ _ _
  obtain ⟨K, hK⟩ : ∃ K, K = 2 * l.length + 3 := ⟨_, rfl⟩
  refine ⟨K + 1, ?_⟩
  unfold laws_FnExactReverseWay.f
  by_cases hb : (l.length : Int) > 1048576
  · rw [if_pos hb]
  · rw [if_neg hb]
    have hr := revW_len l
    have t0 := toIntS_eq l (by omega) (K + 1) (by omega)
    have t1 := toIntS_eq l (by omega) K (by omega)
    have s0 := spec_ReverseWay_eq l (by omega) (K + 1) (by omega)
    have i0 := impl_ReverseWay_eq l (by omega) (K + 1) (by omega)
    have i1 := impl_ReverseWay_eq l (by omega) K (by omega)
    have e0 := eqIntS_self (revW l) (by omega) (K + 1) (by omega)
    have e1 := eqIntS_self (revW l) (by omega) K (by omega)
    have e2 := eqIntS_self l (by omega) (K + 1) (by omega)
    obtain ⟨l', m1, m2⟩ := mark_held (revW l) (by omega) K (by omega)
    obtain ⟨l'', m3, m4⟩ := mark_held l (by omega) (K + 1) (by omega)
    simp only [t0, s0, i0, e0, e2, m3, Option.bind_some, if_true, show ¬ ((l.length : Int) + 1 < 0) by omega, if_false, Bool.not_true, laws_FnExactReverseWay.j0, t1, i1, e1, m1, m2, show ¬ (((revW l).length : Int) + 1 < 0) by omega, Bool.false_eq_true]

end Go.Proofs.Ytcdpbbkgeeianaa.Pure
