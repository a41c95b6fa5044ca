/- The plain law FnExactEncodeHex: for every input that its Go types allow, the printed functions of the program and of the reference answer so that the law's own function says true. No further condition. -/
import Derived.Test.YtalobhnjecefpaaQx0
import Derived.Test.YtalobhnjecefpaaQx28
namespace Go.Proofs.Ytalobhnjecefpaa.Pure
open Go.RowKit Go.Proofs.Ytalobhnjecefpaa.Q Go.Proofs.YtalobhnjecefpaaW.PrintWords Go.Proofs.YtalobhnjecefpaaW.PrintLast Go.Proofs.YtalobhnjecefpaaW.PrintMore
set_option linter.unusedVariables false
set_option linter.unusedSimpArgs false

theorem w64_id {x : Int} (h0 : -9223372036854775808 ≤ x) (h1 : x ≤ 9223372036854775807) : wrap64 x = x := by
  unfold wrap64; omega
theorem below256 {P : Int → Prop} (h : ∀ n : Fin 256, P (n.val : Int)) (c : Int) (h0 : 0 ≤ c) (h1 : c ≤ 255) : P c := by
  have := h ⟨c.toNat, by omega⟩
  simpa [Int.toNat_of_nonneg h0] using this
theorem fig_eq (c : Int) (h0 : 0 ≤ c) (h1 : c ≤ 255) : spec_l01Figure.f (wrap64 (Int.tdiv (wrap64 c) 16)) = some (bt (⟨#[48, 49, 50, 51, 52, 53, 54, 55, 56, 57, 97, 98, 99, 100, 101, 102]⟩ : ByteArray) (c / 16)) ∧ spec_l01Figure.f (Int.tmod (wrap64 c) 16) = some (bt (⟨#[48, 49, 50, 51, 52, 53, 54, 55, 56, 57, 97, 98, 99, 100, 101, 102]⟩ : ByteArray) (Go.bits .and .u8 c 15)) ∧ 0 ≤ Go.bits .and .u8 c 15 ∧ Go.bits .and .u8 c 15 < 16 :=
  below256 (P := fun c => spec_l01Figure.f (wrap64 (Int.tdiv (wrap64 c) 16)) = some (bt (⟨#[48, 49, 50, 51, 52, 53, 54, 55, 56, 57, 97, 98, 99, 100, 101, 102]⟩ : ByteArray) (c / 16)) ∧ spec_l01Figure.f (Int.tmod (wrap64 c) 16) = some (bt (⟨#[48, 49, 50, 51, 52, 53, 54, 55, 56, 57, 97, 98, 99, 100, 101, 102]⟩ : ByteArray) (Go.bits .and .u8 c 15)) ∧ 0 ≤ Go.bits .and .u8 c 15 ∧ Go.bits .and .u8 c 15 < 16) (by decide +kernel) c h0 h1
def hexPair (c : Int) : List Int := [bt (⟨#[48, 49, 50, 51, 52, 53, 54, 55, 56, 57, 97, 98, 99, 100, 101, 102]⟩ : ByteArray) (c / 16), bt (⟨#[48, 49, 50, 51, 52, 53, 54, 55, 56, 57, 97, 98, 99, 100, 101, 102]⟩ : ByteArray) (Go.bits .and .u8 c 15)]
theorem EncodeHex_step (s : ByteArray) (hs : s.size ≤ 20000) (d : Nat) : ∀ (k : Nat) (acc : List Int) (i : Int), 0 ≤ i → (s.size : Int) - i ≤ d → d < k → (acc.length : Int) + 2 * ((s.size : Int) - i) ≤ 1000000 → acc.length ≤ 1000000 →
    ∃ r, spec_EncodeHex.l0 k s acc i = some (strOfNums r, true) ∧ impl_EncodeHex.l0 k s acc i = some (strOfNums r, true) := by
  induction d with
  | zero =>
    intro k acc i h0 hd hk ha hb
    obtain ⟨k, rfl⟩ : ∃ m, k = m + 1 := ⟨k - 1, by omega⟩
    refine ⟨acc, ?_, ?_⟩
    · simp only [spec_EncodeHex.l0]; rw [if_neg (by omega)]
    · simp only [impl_EncodeHex.l0]; rw [if_neg (by omega)]
  | succ d ih =>
    intro k acc i h0 hd hk ha hb
    obtain ⟨k, rfl⟩ : ∃ m, k = m + 1 := ⟨k - 1, by omega⟩
    by_cases h1 : i < (s.size : Int)
    · have hr := bt_range s i
      obtain ⟨e1, e2, b0, b1⟩ := fig_eq (bt s i) hr.1 hr.2
      obtain ⟨r, r1, r2⟩ := ih k (acc ++ hexPair (bt s i)) (i + 1) (by omega) (by omega) (by omega) (by simp [hexPair]; omega) (by simp [hexPair]; omega)
      refine ⟨r, ?_, ?_⟩
      · simp only [spec_EncodeHex.l0]
        rw [if_pos h1, if_pos h0, e1, e2, w64_id (x := i + 1) (by omega) (by omega)]
        simp only [Option.bind_some]
        rw [if_pos (by simp; omega)]; exact r1
      · simp only [impl_EncodeHex.l0]
        rw [if_pos h1, if_pos h0, if_pos (by omega), if_pos (by omega), if_pos b0, if_pos b1, w64_id (x := i + 1) (by omega) (by omega)]
        simp only [Option.bind_some]
        rw [if_pos (by simp; omega)]; exact r2
    · refine ⟨acc, ?_, ?_⟩
      · simp only [spec_EncodeHex.l0]; rw [if_neg h1]
      · simp only [impl_EncodeHex.l0]; rw [if_neg h1]
theorem FnExactEncodeHex : laws_FnExactEncodeHex.Pure := by
  intro s hs
  obtain ⟨K, hK⟩ : ∃ K, K = s.size + 1 := ⟨_, rfl⟩
  refine ⟨K, ?_⟩
  unfold laws_FnExactEncodeHex.f
  by_cases hb : (s.size : Int) > 1048576
  · rw [if_pos hb]
  · rw [if_neg hb]
    unfold spec_EncodeHex.f impl_EncodeHex.f
    by_cases hc : (s.size : Int) > 20000
    · rw [if_pos hc, if_pos hc]; simp
    · rw [if_neg hc, if_neg hc]
      obtain ⟨r, r1, r2⟩ := EncodeHex_step s (by omega) s.size K [] 0 (by omega) (by omega) (by omega) (by simp; omega) (by simp)
      rw [r1, r2]; simp

end Go.Proofs.Ytalobhnjecefpaa.Pure
