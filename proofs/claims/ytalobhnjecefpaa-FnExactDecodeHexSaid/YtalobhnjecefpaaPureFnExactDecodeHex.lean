/- The plain law FnExactDecodeHex: for every input that its Go types allow, the printed functions of the program and of the reference answer so that the law's own function says true. No further condition. -/
import Derived.Test.YtalobhnjecefpaaQx0
import Derived.Test.YtalobhnjecefpaaQx29
namespace Go.Proofs.Ytalobhnjecefpaa.Pure
open Go.RowKit Go.Proofs.Ytalobhnjecefpaa.Q Go.Proofs.YtalobhnjecefpaaW.PrintWords Go.Proofs.YtalobhnjecefpaaW.PrintLast Go.Proofs.YtalobhnjecefpaaW.PrintMore
set_option linter.unusedVariables false
set_option linter.unusedSimpArgs false

theorem w64_id {x : Int} (h0 : -9223372036854775808 ≤ x) (h1 : x ≤ 9223372036854775807) : wrap64 x = x := by
  unfold wrap64; omega
theorem digit_val (k : Nat) (c : Int) (h0 : 0 ≤ c) (h1 : c ≤ 255) : ∃ v, spec_l01Value.f (k + 20) c = some v ∧ impl_digit.f (k + 20) c = some v ∧ -1 ≤ v ∧ v ≤ 15 := by
  have key : ∀ n : Fin 256, spec_l01Value.f 20 (n.val : Int) = impl_digit.f 20 (n.val : Int) ∧ ((impl_digit.f 20 (n.val : Int)).bind fun v => some (decide (-1 ≤ v) && decide (v ≤ 15))) = some true := by decide +kernel
  obtain ⟨e1, e2⟩ := key ⟨c.toNat, by omega⟩
  simp only [Int.toNat_of_nonneg h0] at e1 e2
  obtain ⟨v, ev, e2⟩ := Option.bind_eq_some_iff.1 e2
  have e2 := Option.some.inj e2
  simp only [Bool.and_eq_true, decide_eq_true_eq] at e2
  refine ⟨v, ?_, ?_, e2.1, e2.2⟩
  · exact at_rounds (g := fun k => spec_l01Value.f k c) (fun k => spec_l01Value.mono _ k) (show 20 ≤ k + 20 by omega) (e1.trans ev)
  · exact at_rounds (g := fun k => impl_digit.f k c) (fun k => impl_digit.mono _ k) (show 20 ≤ k + 20 by omega) ev
theorem DecodeHex_step (s : ByteArray) (hs : s.size ≤ 40000) (he : s.size % 2 = 0) (d : Nat) : ∀ (k : Nat) (acc : List Int) (i : Nat), i % 2 = 0 → s.size - i ≤ d → d < k → acc.length + (s.size - i) ≤ 100000 →
    ∃ r b, spec_DecodeHex.l0 (k + 20) s acc i = some (r, b) ∧ impl_DecodeHex.l0 (k + 20) s acc i = some (r, b) := by
  induction d with
  | zero =>
    intro k acc i h0 hd hk ha
    obtain ⟨k, rfl⟩ : ∃ m, k = m + 1 := ⟨k - 1, by omega⟩
    obtain ⟨m, hm⟩ : ∃ m, m = k + 20 := ⟨_, rfl⟩
    rw [show k + 1 + 20 = m + 1 by omega]
    refine ⟨strOfNums acc, true, ?_, ?_⟩
    · simp only [spec_DecodeHex.l0]; rw [if_neg (by omega)]
    · simp only [impl_DecodeHex.l0]; rw [if_neg (by omega)]
  | succ d ih =>
    intro k acc i h0 hd hk ha
    obtain ⟨k, rfl⟩ : ∃ m, k = m + 1 := ⟨k - 1, by omega⟩
    obtain ⟨m, hm⟩ : ∃ m, m = k + 20 := ⟨_, rfl⟩
    rw [show k + 1 + 20 = m + 1 by omega]
    by_cases h1 : (i : Int) < (s.size : Int)
    · have hr := bt_range s i
      have hr2 := bt_range s ((i : Int) + 1)
      obtain ⟨u, u1, u2, u3, u4⟩ := digit_val k _ hr.1 hr.2
      obtain ⟨v, v1, v2, v3, v4⟩ := digit_val k _ hr2.1 hr2.2
      simp only [spec_DecodeHex.l0, impl_DecodeHex.l0]
      subst hm
      have p0 : (0 : Int) ≤ i := by omega
      have p2 : (0 : Int) ≤ (i : Int) + 1 := by omega
      have p3 : (i : Int) + 1 < (s.size : Int) := by omega
      have p4 : acc.length < 140737488355328 := by omega
      have this := ih k (acc ++ [(wrap64 ((wrap64 (16 * u)) + v)) % 256]) (i + 2) (by omega) (by omega) (by omega) (by simp; omega)
      rw [w64_id (x := (i : Int) + 1) (by omega) (by omega), w64_id (x := (i : Int) + 2) (by omega) (by omega)]
      simp only [h1, p0, p2, p3, p4, u1, u2, v1, v2, Option.bind_some, ↓reduceIte]
      by_cases z1 : u < 0
      · simp only [z1, ↓reduceIte]; exact ⟨_, _, rfl, rfl⟩
      · simp only [z1, ↓reduceIte]
        by_cases z2 : v < 0
        · simp only [z2, ↓reduceIte]; exact ⟨_, _, rfl, rfl⟩
        · simp only [z2, ↓reduceIte]
          rw [Int.natCast_add] at this
          exact this
    · refine ⟨strOfNums acc, true, ?_, ?_⟩
      · simp only [spec_DecodeHex.l0]; rw [if_neg h1]
      · simp only [impl_DecodeHex.l0]; rw [if_neg h1]
theorem FnExactDecodeHex : laws_FnExactDecodeHex.Pure := by
  intro s hs
  obtain ⟨K, hK⟩ : ∃ K, K = s.size + 1 := ⟨_, rfl⟩
  obtain ⟨m, hm⟩ : ∃ m, m = K + 20 := ⟨_, rfl⟩
  refine ⟨m + 1, ?_⟩
  unfold laws_FnExactDecodeHex.f
  by_cases hb : (s.size : Int) > 1048576
  · rw [if_pos hb]
  · rw [if_neg hb]
    unfold spec_DecodeHex.f impl_DecodeHex.f
    simp only [spec_DecodeHex.j0, impl_DecodeHex.j0]
    by_cases hc : (s.size : Int) > 40000
    · rw [if_pos hc, if_pos trivial]
      by_cases h2 : ((s.size : Int) % 2) = 0
      · rw [if_pos h2, if_pos (by simpa using hc)]; simp
      · rw [if_neg h2, if_pos trivial]; simp
    · rw [if_neg hc]
      by_cases h2 : ((s.size : Int) % 2) = 0
      · rw [if_pos h2, if_neg (by simp [h2]), if_neg (by simpa using hc)]
        obtain ⟨r, b, r1, r2⟩ := DecodeHex_step s (by omega) (by omega) s.size K [] 0 rfl (by omega) (by omega) (by simp; omega)
        rw [← hm] at r1 r2
        simp only [Int.natCast_zero] at r1 r2
        rw [r1, r2]; simp
      · rw [if_neg h2, if_pos (by simp [h2]), if_pos trivial]; simp

end Go.Proofs.Ytalobhnjecefpaa.Pure
