/- Plain Lean functions of Go functions, and for each the proof that its call comes to just that answer. Conditions: in each theorem's statement. -/
import Derived.Test.YtcocebkmfmiaeaaDoorQx0
import Derived.Test.YtcocebkmfmiaeaaDoorQx3
namespace Go.Proofs.YtcocebkmfmiaeaaDoor.Q
open Go.RowKit Go.Proofs.YtcocebkmfmiaeaaDoorW.PrintWords Go.Proofs.YtcocebkmfmiaeaaDoorW.PrintLast
attribute [local go_sem] max2_int min2_int max_two min_two   -- for this text's walks alone
set_option linter.unusedVariables false
set_option linter.unusedSimpArgs false

/-! ### impl_signed: function 38 -/
def impl_signed.f (s : ByteArray) (lo hi : Int) : Option (Int × Bool) := if s.size ≤ 281474976710656 then (match Lib.atoiAll s.data.toList with | .ok v => if v < lo then some (0, false) else if hi < v then some (0, false) else (impl_FormatInt.f v).bind fun t => if t.toList = s.toList then some (v, true) else some (0, false) | _ => some (0, false)) else none
set_option maxHeartbeats 4000000 in
set_option maxRecDepth 100000 in
theorem impl_signed.calls (s : ByteArray) (lo hi : Int) (r1 : Int) (r2 : Bool) (w : World) (HTT : Tabs true w) (h : impl_signed.f s lo hi = some (r1, r2)) :
  Calls Tryd.prog 38 #[.string s, .int .i64 lo, .int .i64 hi] w fun e w' => e = .returned (.tuple #[.int .i64 r1, .bool r2]) ∧ Below w.heap.size w w' := by
 unfold impl_signed.f at h
 by_cases hl : s.size ≤ 281474976710656
 ·rw [if_pos hl] at h
  obtain ⟨tn, pn, hsyn⟩ := HTT.syn rfl
  obtain ⟨tr, pr, hrng⟩ := HTT.rng rfl
  cases ha : Lib.atoiAll s.data.toList with
  | ok v =>
   simp only [ha] at h
   have C := atoi_ok_laid s hl v ha w
   have HT := Aside0.mk HTT
   clear HTT hsyn hrng
   by_cases c1 : v < lo
   ·rw [if_pos c1] at h
    simp only [Option.some.injEq, Prod.mk.injEq] at h
    obtain ⟨rfl, rfl⟩ := h
    have d1 : decide (v < lo) = true := decide_eq_true c1
    clear c1
    go_enter Tryd.func38, Tryd.ntmps38
    go_wp2_with (go_at_call 62; refine C.mono ?_; rintro e w1 ⟨rfl, hb⟩; have HB := Aside0.mk hb; clear hb C)
    go_ret2
    exact ⟨rfl, HB.out⟩
   ·rw [if_neg c1] at h
    have d1 : decide (v < lo) = false := decide_eq_false c1
    clear c1
    by_cases c2 : hi < v
    ·rw [if_pos c2] at h
     simp only [Option.some.injEq, Prod.mk.injEq] at h
     obtain ⟨rfl, rfl⟩ := h
     have d2 : decide (hi < v) = true := decide_eq_true c2
     clear c2
     go_enter Tryd.func38, Tryd.ntmps38
     go_wp2_with (go_at_call 62; refine C.mono ?_; rintro e w1 ⟨rfl, hb⟩; have HB := Aside0.mk hb; clear hb C)
     go_ret2
     exact ⟨rfl, HB.out⟩
    ·rw [if_neg c2] at h
     have d2 : decide (hi < v) = false := decide_eq_false c2
     clear c2
     obtain ⟨t, ht, h⟩ := Option.bind_eq_some_iff.1 h
     have HF := Aside0.mk ht
     clear ht
     by_cases c3 : t.toList = s.toList
     ·rw [if_pos c3] at h
      simp only [Option.some.injEq, Prod.mk.injEq] at h
      obtain ⟨rfl, rfl⟩ := h
      have c3b0 : (t.toList == s.toList) = true := beq_iff_eq.mpr c3
      have c3b1 : (t.toList != s.toList) = false := bne_eq_false_iff_eq.mpr c3
      clear c3
      go_enter Tryd.func38, Tryd.ntmps38
      go_wp2_with (first | (go_at_call 62; refine C.mono ?_; rintro e w1 ⟨rfl, hb⟩; have HB := Aside0.mk hb; clear hb C) | (go_at_call 12; refine (impl_FormatInt.calls v t _ (tabs_on HT.out HB.out) HF.out).mono ?_; rintro e w2 ⟨rfl, hb⟩; have HB2 := Aside0.mk (below_step HB.out hb); clear hb))
      go_ret2
      exact ⟨rfl, HB2.out⟩
     ·rw [if_neg c3] at h
      have c3b0 : (t.toList == s.toList) = false := beq_eq_false_iff_ne.mpr c3
      have c3b1 : (t.toList != s.toList) = true := bne_iff_ne.mpr c3
      clear c3
      simp only [Option.some.injEq, Prod.mk.injEq] at h
      obtain ⟨rfl, rfl⟩ := h
      go_enter Tryd.func38, Tryd.ntmps38
      go_wp2_with (first | (go_at_call 62; refine C.mono ?_; rintro e w1 ⟨rfl, hb⟩; have HB := Aside0.mk hb; clear hb C) | (go_at_call 12; refine (impl_FormatInt.calls v t _ (tabs_on HT.out HB.out) HF.out).mono ?_; rintro e w2 ⟨rfl, hb⟩; have HB2 := Aside0.mk (below_step HB.out hb); clear hb))
      go_ret2
      exact ⟨rfl, HB2.out⟩
  | range =>
   simp only [ha, Option.some.injEq, Prod.mk.injEq] at h
   obtain ⟨rfl, rfl⟩ := h
   have C := atoi_range_laid s hl ha tr pr w hrng
   go_enter Tryd.func38, Tryd.ntmps38
   go_wp2_with (go_at_call 62; refine C.mono ?_; rintro e w1 ⟨n, N, rfl, hb⟩; have HB := Aside0.mk hb; clear hb C)
   go_ret2
   exact ⟨rfl, HB.out⟩
  | _ =>
   simp only [ha, Option.some.injEq, Prod.mk.injEq] at h
   obtain ⟨rfl, rfl⟩ := h
   have C := atoi_bad_laid s hl (fun v e => by rw [ha] at e; cases e) (fun e => by rw [ha] at e; cases e) tn pn w hsyn
   go_enter Tryd.func38, Tryd.ntmps38
   go_wp2_with (go_at_call 62; refine C.mono ?_; rintro e w1 ⟨N, rfl, hb⟩; have HB := Aside0.mk hb; clear hb C)
   go_ret2
   exact ⟨rfl, HB.out⟩
 ·rw [if_neg hl] at h; cases h

/-! ### impl_ParseUint: function 14 -/
def impl_ParseUint.f (a0 : ByteArray) : Option (Int × Bool) := (impl_signed.f a0 0 1000000000).bind fun bt113 => (some (bt113.1, bt113.2))
set_option maxHeartbeats 8000000 in
set_option maxRecDepth 100000 in
theorem impl_ParseUint.calls (a0 : ByteArray) (r1 : Int) (r2 : Bool) (w : World) (HTT : Tabs true w) (h : impl_ParseUint.f a0 = some (r1, r2)) :
  Calls Tryd.prog 14 #[.string a0] w fun e w' => e = .returned (.tuple #[.int .i64 r1, .bool r2]) ∧ Below w.heap.size w w' := by
 have HT := Aside0.mk HTT
 clear HTT
 have HB := Aside0.mk (Below.refl w.heap.size w)
 have H : ((impl_signed.f a0 0 1000000000).bind fun bt113 => (some (bt113.1, bt113.2))) = some (r1, r2) := h
 clear h
 replace H := Option.bind_eq_some_iff.mp H
 obtain ⟨⟨t113, t114⟩, A20, H⟩ := H
 replace H : (some (t113, t114)) = some (r1, r2) := H
 have A2 := Aside0.mk A20
 clear A20
 simp only [Option.some.injEq, Prod.mk.injEq] at H
 obtain ⟨rfl, rfl⟩ := H
 go_enter Tryd.func14, Tryd.ntmps14
 go_wp2_with (first | ((with_reducible refine gate_callee (f := 38) rfl ?_); refine goesL_ (some 5) rfl rfl Tryd.func38 (by kernel_rfl) rfl #[.string a0, .int .i64 0, .int .i64 1000000000] rfl mp_ ?_; (with_reducible refine (impl_signed.calls (HTT := tabs_on HT.out hb_) a0 0 1000000000 t113 t114 _ A2.out).mono ?_); rintro e w3 ⟨rfl, hb⟩; refine ⟨_, rfl, ?_⟩; have n0_ := Aside0.mk (below_step hb_ hb); clear HB; have HB := n0_; clear n0_; (try clear hb); (try clear hb2); (try clear hk); (try clear hi)))
 go_ret2
 exact ⟨er_, hb_⟩

end Go.Proofs.YtcocebkmfmiaeaaDoor.Q
