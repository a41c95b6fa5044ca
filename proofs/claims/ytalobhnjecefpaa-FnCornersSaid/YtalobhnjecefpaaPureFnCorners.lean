/- The plain law FnCorners: for every input that its Go types allow, the printed functions of the program and of the reference answer so that the law's own function says true. No further condition. -/
import Derived.Test.YtalobhnjecefpaaQx0
import Derived.Test.YtalobhnjecefpaaQx23
import Derived.Test.YtalobhnjecefpaaQx25
import Derived.Test.YtalobhnjecefpaaQx26
namespace Go.Proofs.Ytalobhnjecefpaa.Pure
open Go.RowKit Go.Proofs.Ytalobhnjecefpaa.Q Go.Proofs.YtalobhnjecefpaaW.PrintWords Go.Proofs.YtalobhnjecefpaaW.PrintLast Go.Proofs.YtalobhnjecefpaaW.PrintMore
set_option linter.unusedVariables false
set_option linter.unusedSimpArgs false

theorem w64_id {x : Int} (h0 : -9223372036854775808 ≤ x) (h1 : x ≤ 9223372036854775807) : wrap64 x = x := by
  unfold wrap64; omega
theorem bits_and_255 (y : Int) : 0 ≤ Go.bits .and .i64 y 255 ∧ Go.bits .and .i64 y 255 ≤ 255 := by
  have e : Go.bits .and .i64 y 255 = (((BitVec.ofInt 64 y) &&& (BitVec.ofInt 64 255)).toNat : Int) := by
    show IntKind.i64.wrap (((BitVec.ofInt 64 y) &&& (BitVec.ofInt 64 255)).toNat : Int) = _
    rw [i64_w]
    have h1 : ((BitVec.ofInt 64 y) &&& (BitVec.ofInt 64 255)).toNat ≤ 255 := by rw [BitVec.toNat_and]; exact Nat.and_le_right
    exact w64_id (by omega) (by omega)
  have h1 : ((BitVec.ofInt 64 y) &&& (BitVec.ofInt 64 255)).toNat ≤ 255 := by rw [BitVec.toNat_and]; exact Nat.and_le_right
  omega
def gOk (w h : Int) : Bool := decide (1 ≤ w) && decide (w ≤ 4) && decide (1 ≤ h) && decide (h ≤ 4)
theorem gOk_iff {w h : Int} : gOk w h = true ↔ 1 ≤ w ∧ w ≤ 4 ∧ 1 ≤ h ∧ h ≤ 4 := by
  unfold gOk; simp only [Bool.and_eq_true, decide_eq_true_eq]; omega
theorem gOk_cases {w h : Int} (hg : gOk w h = true) : (w = 1 ∨ w = 2 ∨ w = 3 ∨ w = 4) ∧ (h = 1 ∨ h = 2 ∨ h = 3 ∨ h = 4) := by
  have := gOk_iff.1 hg; omega
theorem l01New_tot (l : List Int) (hl : l.length ≤ 140737488351232) (d : Nat) : ∀ (k : Nat) (h i : Int), 0 ≤ i → (l.length : Int) - i ≤ d → d < k → ∃ h', spec_l01New.l0 k l h i = some (l, 0, h') := by
  induction d with
  | zero =>
    intro k h i h0 hd hk
    obtain ⟨k, rfl⟩ : ∃ m, k = m + 1 := ⟨k - 1, by omega⟩
    simp only [spec_l01New.l0]; rw [if_neg (by omega)]; exact ⟨_, rfl⟩
  | succ d ih =>
    intro k h i h0 hd hk
    obtain ⟨k, rfl⟩ : ∃ m, k = m + 1 := ⟨k - 1, by omega⟩
    simp only [spec_l01New.l0]
    by_cases h1 : i < (l.length : Int)
    · rw [if_pos h1]
      by_cases h2 : i < 4000
      · rw [if_pos h2, if_pos h0, w64_id (x := i + 1) (by omega) (by omega)]
        exact ih _ _ _ (by omega) (by omega) (by omega)
      · rw [if_neg h2]; exact ⟨_, rfl⟩
    · rw [if_neg h1]; exact ⟨_, rfl⟩
theorem l01New_eq (l : List Int) (hl : l.length ≤ 140737488351232) (k : Nat) (hk : l.length < k) : ∃ h', spec_l01New.f k l = some (l, 0, h') := by
  unfold spec_l01New.f
  exact l01New_tot l hl l.length k _ _ (by omega) (by omega) hk
theorem l01Byte_tot (l : List Int) (hl : l.length ≤ 140737488351232) (i h : Int) (h0 : 0 ≤ i) : ∃ x i' h', spec_l01Byte.f l i h = some (x, i', h') ∧ 0 ≤ x ∧ x ≤ 255 ∧ 0 ≤ i' := by
  unfold spec_l01Byte.f
  by_cases h1 : i < (l.length : Int)
  · rw [if_pos h1, if_pos h0, w64_id (x := i + 1) (by omega) (by omega)]
    exact ⟨_, _, _, rfl, (bits_and_255 _).1, (bits_and_255 _).2, by omega⟩
  · rw [if_neg h1]
    exact ⟨_, _, _, rfl, (bits_and_255 _).1, (bits_and_255 _).2, h0⟩
theorem l01Below_tot (l : List Int) (hl : l.length ≤ 140737488351232) (i h n : Int) (h0 : 0 ≤ i) : ∃ x i' h', spec_l01Below.f l i h n = some (x, i', h') ∧ 0 ≤ x ∧ (0 < n → x < n) ∧ (n ≤ 0 → x = 0) ∧ 0 ≤ i' := by
  unfold spec_l01Below.f
  by_cases h1 : n ≤ 0
  · rw [if_pos h1]; exact ⟨_, _, _, rfl, by omega, by omega, fun _ => rfl, h0⟩
  · rw [if_neg h1]
    by_cases h2 : n ≤ 256
    · rw [if_pos h2]
      obtain ⟨x, i', h', e, x0, x1, i0⟩ := l01Byte_tot l hl i h h0
      rw [e]; simp only [Option.bind_some]
      rw [if_neg (by omega), Int.tmod_eq_emod_of_nonneg x0]
      exact ⟨_, _, _, rfl, Int.emod_nonneg _ (by omega), fun _ => Int.emod_lt_of_pos _ (by omega), fun hh => by omega, i0⟩
    · rw [if_neg h2]
      obtain ⟨x, i1, h1', e, x0, x1, i0⟩ := l01Byte_tot l hl i h h0
      rw [e]; simp only [Option.bind_some]
      obtain ⟨y, i2, h2', e, y0, y1, i0⟩ := l01Byte_tot l hl i1 h1' i0
      rw [e]; simp only [Option.bind_some]
      obtain ⟨z, i3, h3', e, z0, z1, i0⟩ := l01Byte_tot l hl i2 h2' i0
      rw [e]; simp only [Option.bind_some]
      obtain ⟨u, i4, h4', e, u0, u1, i0⟩ := l01Byte_tot l hl i3 h3' i0
      rw [e]; simp only [Option.bind_some]
      rw [if_neg (by omega), w64_id (x := x * 16777216) (by omega) (by omega), w64_id (x := y * 65536) (by omega) (by omega), w64_id (x := z * 256) (by omega) (by omega), w64_id (x := x * 16777216 + y * 65536) (by omega) (by omega), w64_id (x := x * 16777216 + y * 65536 + z * 256) (by omega) (by omega), w64_id (by omega) (by omega), Int.tmod_eq_emod_of_nonneg (by omega)]
      exact ⟨_, _, _, rfl, Int.emod_nonneg _ (by omega), fun _ => Int.emod_lt_of_pos _ (by omega), fun hh => by omega, i0⟩
theorem l01PickInt_tot (l : List Int) (hl : l.length ≤ 140737488351232) (i h : Int) (xs : List Int) (hx : 0 < xs.length) (h0 : 0 ≤ i) : ∃ x i' h', spec_l01PickInt.f l i h xs = some (x, i', h') ∧ x ∈ xs ∧ 0 ≤ i' := by
  unfold spec_l01PickInt.f
  obtain ⟨x, i', h', e, x0, x1, _, i0⟩ := l01Below_tot l hl i h xs.length h0
  rw [e]; simp only [Option.bind_some]
  have hlt := x1 (by omega)
  rw [if_pos x0, if_pos hlt]
  refine ⟨_, _, _, rfl, ?_, i0⟩
  unfold rd
  rw [List.getD_eq_getElem?_getD, List.getElem?_eq_getElem (by omega)]
  exact List.getElem_mem _
theorem l02Grid_tot (l : List Int) (hl : l.length ≤ 140737488351232) (i h : Int) (h0 : 0 ≤ i) : ∃ x y i' h', spec_l02Grid.f l i h = some (x, y, i', h') ∧ gOk x y = true ∧ 0 ≤ i' := by
  unfold spec_l02Grid.f
  obtain ⟨x, i1, h1, e, hx, i0⟩ := l01PickInt_tot l hl i h [1, 2, 3, 3, 4] (by decide) h0
  rw [e]; simp only [Option.bind_some]
  obtain ⟨y, i2, h2, e, hy, i0⟩ := l01PickInt_tot l hl i1 h1 [1, 2, 3, 3, 4] (by decide) i0
  rw [e]; simp only [Option.bind_some]
  refine ⟨_, _, _, _, rfl, ?_, i0⟩
  simp only [List.mem_cons, List.not_mem_nil, or_false] at hx hy
  rw [gOk_iff]; omega
theorem DrawGrid_tot (l : List Int) (hl : l.length ≤ 140737488351232) (k : Nat) (hk : l.length < k) : ∃ x y, spec_DrawGrid.f k l = some (x, y) ∧ gOk x y = true := by
  unfold spec_DrawGrid.f
  obtain ⟨h', e⟩ := l01New_eq l hl k hk
  rw [e]; simp only [Option.bind_some]
  obtain ⟨x, y, i', h2, e, hg, _⟩ := l02Grid_tot l hl 0 h' (by omega)
  rw [e]; simp only [Option.bind_some]
  exact ⟨_, _, rfl, hg⟩
theorem FnCorners : laws_FnCorners.Pure := by
  intro l _ hl _
  refine ⟨l.length + 100, ?_⟩
  unfold laws_FnCorners.f laws_big.f
  simp only [Option.bind_some]
  by_cases hb : decide ((l.length : Int) > 1048576) = true
  · rw [if_pos hb]
  · rw [if_neg hb]
    obtain ⟨w, h, e, hg⟩ := DrawGrid_tot l (by omega) (l.length + 100) (by omega)
    rw [e]; simp only [Option.bind_some]
    have key : laws_FnCorners.l0 100 0 0 w h = some true := by
      rcases gOk_cases hg with ⟨rfl | rfl | rfl | rfl, rfl | rfl | rfl | rfl⟩ <;> decide +kernel
    exact at_rounds (g := fun k => laws_FnCorners.l0 k 0 0 w h) (fun k => (laws_FnCorners.mono_l k).1 _ _ _ _) (by omega) key

end Go.Proofs.Ytalobhnjecefpaa.Pure
