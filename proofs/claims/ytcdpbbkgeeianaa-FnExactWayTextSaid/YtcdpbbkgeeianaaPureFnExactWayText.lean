/- The plain law FnExactWayText: for every input that its Go types allow, the printed functions of the program and of the reference answer so that the law's own function says true. No further condition. -/
import Derived.Test.YtcdpbbkgeeianaaQx0
import Derived.Test.YtcdpbbkgeeianaaQx1
import Derived.Test.YtcdpbbkgeeianaaQx16
import Derived.Test.YtcdpbbkgeeianaaQx17
import Derived.Test.YtcdpbbkgeeianaaQx40
import Derived.Test.YtcdpbbkgeeianaaQx41
namespace Go.Proofs.Ytcdpbbkgeeianaa.Pure
open Go.RowKit Go.Proofs.Ytcdpbbkgeeianaa.Q Go.Proofs.YtcdpbbkgeeianaaW.PrintWords Go.Proofs.YtcdpbbkgeeianaaW.PrintLast Go.Proofs.YtcdpbbkgeeianaaW.PrintMore
set_option linter.unusedVariables false
set_option linter.unusedSimpArgs false

theorem w64_id {x : Int} (h0 : -9223372036854775808 ≤ x) (h1 : x ≤ 9223372036854775807) : wrap64 x = x := by
  unfold wrap64; omega
theorem l01In_eq (a b c : Int) : spec_l01In.f a b c = some (decide (b ≤ a) && decide (a ≤ c)) := by
  unfold spec_l01In.f
  by_cases h : a ≥ b
  · rw [if_pos h]; simp [show b ≤ a from h]
  · rw [if_neg h]; simp [show ¬ b ≤ a from h]
theorem eqIntS_tot (l : List Int) (hl : l.length ≤ 1000000000000) (d : Nat) : ∀ (k : Nat) (i : Int), 0 ≤ i → (l.length : Int) - i ≤ d → d < k → laws_eqIntS.l0 k l l i = some true := by
  induction d with
  | zero =>
    intro k i h0 hd hk
    obtain ⟨k, rfl⟩ : ∃ m, k = m + 1 := ⟨k - 1, by omega⟩
    simp only [laws_eqIntS.l0]; rw [if_neg (by omega)]
  | succ d ih =>
    intro k i h0 hd hk
    obtain ⟨k, rfl⟩ : ∃ m, k = m + 1 := ⟨k - 1, by omega⟩
    simp only [laws_eqIntS.l0]
    by_cases h1 : i < (l.length : Int)
    · rw [if_pos h1, if_pos h0, if_pos h1, if_pos trivial, w64_id (x := i + 1) (by omega) (by omega)]
      exact ih _ _ (by omega) (by omega) (by omega)
    · rw [if_neg h1]
theorem eqIntS_self (l : List Int) (hl : l.length ≤ 1000000000000) (k : Nat) (hk : l.length < k) : laws_eqIntS.f k l l = some true := by
  unfold laws_eqIntS.f
  rw [if_pos rfl]
  exact eqIntS_tot l hl l.length k 0 (by omega) (by omega) hk
def dirIn (c : Int) : Bool := decide (0 ≤ c) && decide (c ≤ 3)
theorem dirB_eq (c : Int) : dirB c = dirIn c := by
  unfold dirB impl_isDirection.f dirIn
  by_cases h : c ≥ 0
  · rw [if_pos h]; simp [show (0 : Int) ≤ c from h]
  · rw [if_neg h]; simp [show ¬ (0 : Int) ≤ c from h]
theorem areDirections_eq (l : List Int) : impl_areDirections.f l = some (l.all dirIn) := by
  unfold impl_areDirections.f
  rw [show (fun c => !dirB c) = fun c => !dirIn c from funext fun c => by rw [dirB_eq]]
  simp [List.all_eq_not_any_not]
theorem rd_mem (l : List Int) (i : Nat) (h1 : i < l.length) : rd l i = l[i] := by
  unfold rd; simp [List.getD_eq_getElem?_getD, h1]
theorem way_tot (l : List Int) (hl : l.length ≤ 1000000000000) (d : Nat) : ∀ (k : Nat) (i : Nat), l.length - i ≤ d → d < k → i ≤ l.length → spec_l06Way.l0 k l i = some ((l.drop i).all dirIn) := by
  induction d with
  | zero =>
    intro k i hd hk hi
    obtain ⟨k, rfl⟩ : ∃ m, k = m + 1 := ⟨k - 1, by omega⟩
    obtain rfl : i = l.length := by omega
    simp only [spec_l06Way.l0]; rw [if_neg (by omega)]; simp
  | succ d ih =>
    intro k i hd hk hi
    obtain ⟨k, rfl⟩ : ∃ m, k = m + 1 := ⟨k - 1, by omega⟩
    simp only [spec_l06Way.l0]
    by_cases h1 : (i : Int) < (l.length : Int)
    · rw [if_pos h1, if_pos (by omega), l01In_eq, w64_id (x := (i : Int) + 1) (by omega) (by omega)]
      have := ih k (i + 1) (by omega) (by omega) (by omega)
      have hi' : i < l.length := by omega
      have e : (l.drop i).all dirIn = (dirIn l[i] && (l.drop (i + 1)).all dirIn) := by
        rw [List.drop_eq_getElem_cons hi', List.all_cons]
      rw [e, rd_mem l i hi']
      simp only [Option.bind_some]
      have e2 : (decide (0 ≤ l[i]) && decide (l[i] ≤ 3)) = dirIn l[i] := rfl
      rw [e2]
      by_cases hq : dirIn l[i] = true
      · rw [if_pos hq, hq]; simpa using this
      · rw [if_neg hq, Bool.eq_false_iff.2 hq]; simp
    · rw [if_neg h1]
      obtain rfl : i = l.length := by omega
      simp
theorem way_eq (l : List Int) (hl : l.length ≤ 1000000000000) (k : Nat) (hk : l.length < k) : spec_l06Way.f k l = some (l.all dirIn) := by
  unfold spec_l06Way.f
  have := way_tot l hl l.length k 0 (by omega) hk (by omega)
  simpa using this
theorem toIntS_tot (l : List Int) (hl : l.length ≤ 1000000000000) (d : Nat) : ∀ (k : Nat) (i : Nat), l.length - i ≤ d → d < k → i ≤ l.length → laws_toIntS.l0 k l (l.take i ++ List.replicate (l.length - i) 0) i = some l := by
  induction d with
  | zero =>
    intro k i hd hk hi
    obtain ⟨k, rfl⟩ : ∃ m, k = m + 1 := ⟨k - 1, by omega⟩
    obtain rfl : i = l.length := by omega
    simp only [laws_toIntS.l0]; rw [if_neg (by omega)]; simp
  | succ d ih =>
    intro k i hd hk hi
    obtain ⟨k, rfl⟩ : ∃ m, k = m + 1 := ⟨k - 1, by omega⟩
    simp only [laws_toIntS.l0]
    by_cases h1 : (i : Int) < (l.length : Int)
    · have hi' : i < l.length := by omega
      rw [if_pos h1, if_pos (by omega), if_pos (by simp; omega), w64_id (x := (i : Int) + 1) (by omega) (by omega), rd_mem l i hi']
      have := ih k (i + 1) (by omega) (by omega) (by omega)
      have e : (l.take i ++ List.replicate (l.length - i) 0).set (i : Int).toNat l[i] = l.take (i + 1) ++ List.replicate (l.length - (i + 1)) 0 := by
        rw [show l.length - i = (l.length - (i + 1)) + 1 by omega, List.replicate_succ]
        have e3 : (l.take i ++ (0 : Int) :: List.replicate (l.length - (i + 1)) 0).set (i : Int).toNat l[i] = l.take i ++ l[i] :: List.replicate (l.length - (i + 1)) 0 := by
          simp [List.set_append, Nat.min_eq_left hi]
        rw [e3, List.take_succ_eq_append_getElem hi', List.append_assoc]; rfl
      rw [e]; simpa using this
    · rw [if_neg h1]
      obtain rfl : i = l.length := by omega
      simp
theorem toIntS_eq (l : List Int) (hl : l.length ≤ 1000000000000) (k : Nat) (hk : l.length < k) : laws_toIntS.f k l = some l := by
  unfold laws_toIntS.f
  rw [if_pos (by omega), if_pos (by simp; omega)]
  have := toIntS_tot l hl l.length k 0 (by omega) hk (by omega)
  simpa using this
def nesw : ByteArray := ⟨#[78, 69, 83, 87]⟩
def wtxt (l : List Int) : Nat → List Int → List Int
  | 0, acc => acc
  | i + 1, acc => wtxt l i (acc ++ [bt nesw (rd l ((l.length : Int) - ((i + 1 : Nat) : Int)))])
theorem nesw_at (d : Int) (h0 : 0 ≤ d) (h1 : d < 4) : nesw.extract d.toNat (wrap64 (d + 1)).toNat = strOfNums [bt nesw d] ∧ wrap64 (d + 1) = d + 1 := by
  have : d = 0 ∨ d = 1 ∨ d = 2 ∨ d = 3 := by omega
  rcases this with rfl | rfl | rfl | rfl <;> decide +kernel
theorem strOfNums_app (a b : List Int) : strOfNums a ++ strOfNums b = strOfNums (a ++ b) := by
  apply ByteArray.ext
  apply Array.ext'
  rw [ByteArray.data_append]
  simp [strOfNums]
theorem strOfNums_size (a : List Int) : (strOfNums a).size = a.length := by
  show (strOfNums a).data.size = _
  simp [strOfNums]
theorem wayText_two (l : List Int) (hl : l.length ≤ 1000000000) (hw : l.all dirIn = true) (d : Nat) : ∀ (k : Nat) (acc : List Int), d ≤ l.length → l.length + d + 1 < k → acc.length + d ≤ 1000000000 →
    spec_WayText.l0 k l (strOfNums acc) ((l.length : Int) - d) = some (strOfNums (wtxt l d acc)) ∧ impl_WayText.l0 k acc l (l.length : Int) ((l.length : Int) - d) = some (strOfNums (wtxt l d acc)) := by
  induction d with
  | zero =>
    intro k acc hi hk ha
    obtain ⟨k, rfl⟩ : ∃ m, k = m + 1 := ⟨k - 1, by omega⟩
    refine ⟨?_, ?_⟩
    · simp only [spec_WayText.l0]; rw [if_neg (by omega)]; rfl
    · simp only [impl_WayText.l0]; rw [if_neg (by omega)]; rfl
  | succ d ih =>
    intro k acc hi hk ha
    obtain ⟨k, rfl⟩ : ∃ m, k = m + 1 := ⟨k - 1, by omega⟩
    obtain ⟨i, hi'⟩ : ∃ i : Nat, (l.length : Int) - ((d + 1 : Nat) : Int) = (i : Int) := ⟨l.length - (d + 1), by omega⟩
    have hil : i < l.length := by omega
    have hd : 0 ≤ rd l i ∧ rd l i < 4 := by
      rw [rd_mem l i hil]
      have := List.all_eq_true.1 hw _ (List.getElem_mem hil)
      unfold dirIn at this
      simp at this; omega
    obtain ⟨n1, n2⟩ := nesw_at (rd l i) hd.1 hd.2
    have hg := ih k (acc ++ [bt nesw (rd l i)]) (by omega) (by omega) (by simp; omega)
    rw [show (l.length : Int) - (d : Int) = (i : Int) + 1 by omega] at hg
    have hsz := strOfNums_size acc
    simp only [wtxt]
    rw [hi']
    refine ⟨?_, ?_⟩
    · simp only [spec_WayText.l0]
      rw [if_pos (by omega), way_eq l (by omega) k (by omega)]
      simp only [Option.bind_some]
      rw [if_pos hw, if_pos (by omega), if_pos hd.1, if_pos (by omega), if_pos (by omega), show (⟨#[78, 69, 83, 87]⟩ : ByteArray) = nesw from rfl, n1, strOfNums_app, if_pos (by simp only [strOfNums_size]; simp; omega), w64_id (x := (i : Int) + 1) (by omega) (by omega)]
      exact hg.1
    · simp only [impl_WayText.l0]
      rw [if_pos (by omega), if_pos (by omega), if_pos (by omega), if_pos hd.1, if_pos hd.2, if_pos (by omega), show (⟨#[78, 69, 83, 87]⟩ : ByteArray) = nesw from rfl, w64_id (x := (i : Int) + 1) (by omega) (by omega)]
      exact hg.2
theorem FnExactWayText : laws_FnExactWayText.Pure := by
  intro l _ _ _
  obtain ⟨K, hK⟩ : ∃ K, K = 2 * l.length + 3 := ⟨_, rfl⟩
  refine ⟨K, ?_⟩
  unfold laws_FnExactWayText.f
  by_cases hb : (l.length : Int) > 1048576
  · rw [if_pos hb]
  · rw [if_neg hb]
    have t0 := toIntS_eq l (by omega) K (by omega)
    have e2 := eqIntS_self l (by omega) K (by omega)
    have h : ∃ r, spec_WayText.f K l = some r ∧ impl_WayText.f K l = some r := by
      unfold spec_WayText.f impl_WayText.f
      rw [areDirections_eq]
      simp only [Option.bind_some]
      by_cases hw : l.all dirIn = true
      · rw [if_pos hw]
        have := wayText_two l (by omega) hw l.length K [] (by omega) (by omega) (by simp; omega)
        rw [show (l.length : Int) - (l.length : Int) = 0 by omega, show strOfNums [] = (⟨#[]⟩ : ByteArray) from rfl] at this
        exact ⟨_, this.1, this.2⟩
      · rw [if_neg hw]
        refine ⟨_, ?_, rfl⟩
        obtain ⟨K, rfl⟩ : ∃ m, K = m + 1 := ⟨K - 1, by omega⟩
        simp only [spec_WayText.l0]
        rw [way_eq l (by omega) K (by omega)]
        simp only [Option.bind_some]
        rw [if_neg hw]
        split <;> rfl
    obtain ⟨r, r1, r2⟩ := h
    simp only [t0, r1, r2, e2, Option.bind_some, if_true]

end Go.Proofs.Ytcdpbbkgeeianaa.Pure
