/- Plain Lean functions of Go functions, and for each the proof that its call comes to just that answer. Conditions: in each theorem's statement. -/
import Derived.Test.YtcocebkmfmiaeaaDoorQx0
import Derived.Test.YtcocebkmfmiaeaaDoorQx3
import Derived.Test.YtcocebkmfmiaeaaDoorQx19
import Derived.Test.YtcocebkmfmiaeaaDoorQx23
import Derived.Test.YtcocebkmfmiaeaaDoorQx24
import Derived.Test.YtcocebkmfmiaeaaDoorQx25
namespace Go.Proofs.YtcocebkmfmiaeaaDoor.Q
open Go.RowKit Go.Proofs.YtcocebkmfmiaeaaDoorW.PrintWords Go.Proofs.YtcocebkmfmiaeaaDoorW.PrintLast
attribute [local go_sem] max2_int min2_int max_two min_two   -- for this text's walks alone
set_option linter.unusedVariables false
set_option linter.unusedSimpArgs false

/-! ### laws_FnHexText: function 8 -/
def laws_FnHexText.f (k : Nat) (l0 : List Int) : Option (Bool) := (laws_big.f l0).bind fun t331 => (if t331 = true then (some true) else ((spec_DrawEncodeHex.f k l0).bind fun t332 => ((impl_EncodeHex.f k t332).bind fun bt333 => (if (t332.size : Int) > 20000 then (if bt333.2 = true then (some false) else (if bt333.1.toList = ([] : List UInt8) then ((impl_FormatInt.f 10).bind fun t335 => (some (t335.toList == ([49, 48] : List UInt8)))) else (some false))) else ((impl_DecodeHex.f k bt333.1).bind fun bt336 => (if bt333.2 = true then (if bt336.2 = true then (if bt336.1.toList = t332.toList then (some ((bt333.1.size : Int) == (wrap64 (2 * (t332.size : Int))))) else (some false)) else (some false)) else (some false)))))))
theorem laws_FnHexText.mono : ∀ a0 k, LeO (laws_FnHexText.f k a0) (laws_FnHexText.f (k + 1) a0) := by
 intro a0 k
 unfold laws_FnHexText.f
 repeat' first
   | (with_reducible exact impl_DecodeHex.mono _ _)
   | (with_reducible exact impl_EncodeHex.mono _ _)
   | (with_reducible exact spec_DrawEncodeHex.mono _ _)
   | (with_reducible exact LeO.refl _)
   | (with_reducible exact LeO.none _)
   | (with_reducible refine LeO.ite ?_ ?_)
   | (with_reducible refine LeO.bind ?_ (fun _ => ?_))
   | exact impl_DecodeHex.mono _ _
   | exact impl_EncodeHex.mono _ _
   | exact spec_DrawEncodeHex.mono _ _
   | exact LeO.none _
   | refine LeO.ite ?_ ?_
   | refine LeO.bind ?_ (fun _ => ?_)
set_option maxHeartbeats 8000000 in
set_option maxRecDepth 100000 in
theorem laws_FnHexText.calls (k : Nat) (A0 : Option Addr) (c0 : Nat) (l0 : List Int) (r : Bool) (w : World) {tb_ : Bool} (HTT : Tabs tb_ w) (hr0 : Kd.C (Kd.int .u8) w A0 l0.length l0) (hc0 : l0.length ≤ c0) (HT_ : Aside0 (r = true)) (h : laws_FnHexText.f k l0 = some r) :
  Calls Tryd.prog 8 #[.slice A0 l0.length c0] w fun e w' => e = .returned (.bool r) ∧ Below w.heap.size w w' := by
 have HT := Aside0.mk HTT
 clear HTT
 have HR0 := Aside0.mk hr0
 have HC0 := Aside0.mk hc0
 clear hr0 hc0
 have HB := Aside0.mk (Below.refl w.heap.size w)
 have H : ((laws_big.f l0).bind fun t331 => (if t331 = true then (some true) else ((spec_DrawEncodeHex.f k l0).bind fun t332 => ((impl_EncodeHex.f k t332).bind fun bt333 => (if (t332.size : Int) > 20000 then (if bt333.2 = true then (some false) else (if bt333.1.toList = ([] : List UInt8) then ((impl_FormatInt.f 10).bind fun t335 => (some (t335.toList == ([49, 48] : List UInt8)))) else (some false))) else ((impl_DecodeHex.f k bt333.1).bind fun bt336 => (if bt333.2 = true then (if bt336.2 = true then (if bt336.1.toList = t332.toList then (some ((bt333.1.size : Int) == (wrap64 (2 * (t332.size : Int))))) else (some false)) else (some false)) else (some false)))))))) = some r := h
 clear h
 replace H := Option.bind_eq_some_iff.mp H
 obtain ⟨t331, A20, H⟩ := H
 replace H : (if t331 = true then (some true) else ((spec_DrawEncodeHex.f k l0).bind fun t332 => ((impl_EncodeHex.f k t332).bind fun bt333 => (if (t332.size : Int) > 20000 then (if bt333.2 = true then (some false) else (if bt333.1.toList = ([] : List UInt8) then ((impl_FormatInt.f 10).bind fun t335 => (some (t335.toList == ([49, 48] : List UInt8)))) else (some false))) else ((impl_DecodeHex.f k bt333.1).bind fun bt336 => (if bt333.2 = true then (if bt336.2 = true then (if bt336.1.toList = t332.toList then (some ((bt333.1.size : Int) == (wrap64 (2 * (t332.size : Int))))) else (some false)) else (some false)) else (some false))))))) = some r := H
 have A2 := Aside0.mk A20
 clear A20
 by_cases c3 : t331 = true
 ·subst c3
  have H1 : (some true) = some r := by rw [if_pos rfl] at H; exact H
  clear H
  have H := H1
  clear H1
  obtain rfl := Option.some.inj H
  go_enter Tryd.func8, Tryd.ntmps8
  go_wp2_with (first | ((with_reducible refine gate_callee (f := 21) rfl ?_); refine goesL_ (some 9) rfl rfl Tryd.func21 (by kernel_rfl) rfl #[.slice A0 l0.length c0] rfl mp_ ?_; (with_reducible refine (laws_big.calls _ _ l0 true _ ?side1 ?side2 A2.out).mono ?_); (case side1 => repeat (first | exact HR0.out | (with_reducible refine Kd.C_alloc ?_ _) | (with_reducible refine Kd.C_drewN ?_ _) | (with_reducible refine Kd.C_drew ?_))); (case side2 => exact HC0.out); rintro e w' ⟨rfl, ⟨nd, rfl⟩⟩; refine ⟨_, rfl, ?_⟩))
  go_ret
  exact ⟨er_, hb_⟩
 ·replace c3 := Bool.eq_false_iff.mpr c3
  subst c3
  have H1 : ((spec_DrawEncodeHex.f k l0).bind fun t332 => ((impl_EncodeHex.f k t332).bind fun bt333 => (if (t332.size : Int) > 20000 then (if bt333.2 = true then (some false) else (if bt333.1.toList = ([] : List UInt8) then ((impl_FormatInt.f 10).bind fun t335 => (some (t335.toList == ([49, 48] : List UInt8)))) else (some false))) else ((impl_DecodeHex.f k bt333.1).bind fun bt336 => (if bt333.2 = true then (if bt336.2 = true then (if bt336.1.toList = t332.toList then (some ((bt333.1.size : Int) == (wrap64 (2 * (t332.size : Int))))) else (some false)) else (some false)) else (some false)))))) = some r := by rw [if_neg (show ¬ (false = true) by decide)] at H; exact H
  clear H
  have H := H1
  clear H1
  replace H := Option.bind_eq_some_iff.mp H
  obtain ⟨t332, A40, H⟩ := H
  replace H : ((impl_EncodeHex.f k t332).bind fun bt333 => (if (t332.size : Int) > 20000 then (if bt333.2 = true then (some false) else (if bt333.1.toList = ([] : List UInt8) then ((impl_FormatInt.f 10).bind fun t335 => (some (t335.toList == ([49, 48] : List UInt8)))) else (some false))) else ((impl_DecodeHex.f k bt333.1).bind fun bt336 => (if bt333.2 = true then (if bt336.2 = true then (if bt336.1.toList = t332.toList then (some ((bt333.1.size : Int) == (wrap64 (2 * (t332.size : Int))))) else (some false)) else (some false)) else (some false))))) = some r := H
  have A4 := Aside0.mk A40
  clear A40
  replace H := Option.bind_eq_some_iff.mp H
  obtain ⟨⟨t333, t334⟩, A50, H⟩ := H
  replace H : (if (t332.size : Int) > 20000 then (if t334 = true then (some false) else (if t333.toList = ([] : List UInt8) then ((impl_FormatInt.f 10).bind fun t335 => (some (t335.toList == ([49, 48] : List UInt8)))) else (some false))) else ((impl_DecodeHex.f k t333).bind fun bt336 => (if t334 = true then (if bt336.2 = true then (if bt336.1.toList = t332.toList then (some ((t333.size : Int) == (wrap64 (2 * (t332.size : Int))))) else (some false)) else (some false)) else (some false)))) = some r := H
  have A5 := Aside0.mk A50
  clear A50
  by_cases c6 : (t332.size : Int) > 20000
  ·rw [if_pos c6] at H
   have c6b0 : decide (20000 < (t332.size : Int)) = true := decide_eq_true c6
   have c6b1 : decide (20000 < t332.size) = true := decide_eq_true (by omega)
   clear c6
   by_cases c7 : t334 = true
   ·subst c7
    have H1 : (some false) = some r := by rw [if_pos rfl] at H; exact H
    clear H
    have H := H1
    clear H1
    exact absurd ((Option.some.inj H).trans HT_.out) (by decide)
   ·replace c7 := Bool.eq_false_iff.mpr c7
    subst c7
    have H1 : (if t333.toList = ([] : List UInt8) then ((impl_FormatInt.f 10).bind fun t335 => (some (t335.toList == ([49, 48] : List UInt8)))) else (some false)) = some r := by rw [if_neg (show ¬ (false = true) by decide)] at H; exact H
    clear H
    have H := H1
    clear H1
    by_cases c8 : t333.toList = ([] : List UInt8)
    ·rw [if_pos c8] at H
     have c8b0 : (t333.toList == ([] : List UInt8)) = true := beq_iff_eq.mpr c8
     have c8b1 : (t333.toList != ([] : List UInt8)) = false := bne_eq_false_iff_eq.mpr c8
     clear c8
     replace H := Option.bind_eq_some_iff.mp H
     obtain ⟨t335, A90, H⟩ := H
     replace H : (some (t335.toList == ([49, 48] : List UInt8))) = some r := H
     have A9 := Aside0.mk A90
     clear A90
     obtain rfl := Option.some.inj H
     go_enter Tryd.func8, Tryd.ntmps8
     go_wp2_with (first | ((with_reducible refine gate_callee (f := 21) rfl ?_); refine goesL_ (some 9) rfl rfl Tryd.func21 (by kernel_rfl) rfl #[.slice A0 l0.length c0] rfl mp_ ?_; (with_reducible refine (laws_big.calls _ _ l0 false _ ?side1 ?side2 A2.out).mono ?_); (case side1 => repeat (first | exact HR0.out | (with_reducible refine Kd.C_alloc ?_ _) | (with_reducible refine Kd.C_drewN ?_ _) | (with_reducible refine Kd.C_drew ?_))); (case side2 => exact HC0.out); rintro e w' ⟨rfl, ⟨nd, rfl⟩⟩; refine ⟨_, rfl, ?_⟩) | ((with_reducible refine gate_callee (f := 23) rfl ?_); refine goesL_ (some 11) rfl rfl Tryd.func23 (by kernel_rfl) rfl #[.slice A0 l0.length c0] rfl mp_ ?_; (with_reducible refine (spec_DrawEncodeHex.calls k _ _ l0 t332 _ ?side1 ?side2 A4.out).mono ?_); (case side1 => repeat (first | exact HR0.out | (with_reducible refine Kd.C_alloc ?_ _) | (with_reducible refine Kd.C_drewN ?_ _) | (with_reducible refine Kd.C_drew ?_))); (case side2 => exact HC0.out); rintro e w10 ⟨rfl, hb⟩; refine ⟨_, rfl, ?_⟩; have n0_ := Aside0.mk (below_step hb_ hb); clear HB; have HB := n0_; clear n0_; (try clear hb); (try clear hb2); (try clear hk); (try clear hi)) | ((with_reducible refine gate_callee (f := 24) rfl ?_); refine goesL_ (some 14) rfl rfl Tryd.func24 (by kernel_rfl) rfl #[.string t332] rfl mp_ ?_; (with_reducible refine (impl_EncodeHex.calls k t332 t333 false _ A5.out).mono ?_); rintro e w11 ⟨rfl, hb⟩; refine ⟨_, rfl, ?_⟩; have n0_ := Aside0.mk (below_step hb_ hb); clear HB; have HB := n0_; clear n0_; (try clear hb); (try clear hb2); (try clear hk); (try clear hi)) | (go_at_call 12; (with_reducible refine (impl_FormatInt.calls (HTT := tabs_on HT.out hb_) 10 t335 _ A9.out).mono ?_); rintro e w12 ⟨rfl, hb⟩; have n0_ := Aside0.mk (below_step hb_ hb); clear HB; have HB := n0_; clear n0_; (try clear hb); (try clear hb2); (try clear hk); (try clear hi)))
     go_ret
     exact ⟨er_, hb_⟩
    ·rw [if_neg c8] at H
     have c8b0 : (t333.toList == ([] : List UInt8)) = false := beq_eq_false_iff_ne.mpr c8
     have c8b1 : (t333.toList != ([] : List UInt8)) = true := bne_iff_ne.mpr c8
     exact absurd ((Option.some.inj H).trans HT_.out) (by decide)
  ·rw [if_neg c6] at H
   have c6b0 : decide (20000 < (t332.size : Int)) = false := decide_eq_false c6
   have c6b1 : decide (20000 < t332.size) = false := decide_eq_false (by omega)
   clear c6
   replace H := Option.bind_eq_some_iff.mp H
   obtain ⟨⟨t336, t337⟩, A130, H⟩ := H
   replace H : (if t334 = true then (if t337 = true then (if t336.toList = t332.toList then (some ((t333.size : Int) == (wrap64 (2 * (t332.size : Int))))) else (some false)) else (some false)) else (some false)) = some r := H
   have A13 := Aside0.mk A130
   clear A130
   by_cases c14 : t334 = true
   ·subst c14
    have H1 : (if t337 = true then (if t336.toList = t332.toList then (some ((t333.size : Int) == (wrap64 (2 * (t332.size : Int))))) else (some false)) else (some false)) = some r := by rw [if_pos rfl] at H; exact H
    clear H
    have H := H1
    clear H1
    by_cases c15 : t337 = true
    ·subst c15
     have H1 : (if t336.toList = t332.toList then (some ((t333.size : Int) == (wrap64 (2 * (t332.size : Int))))) else (some false)) = some r := by rw [if_pos rfl] at H; exact H
     clear H
     have H := H1
     clear H1
     by_cases c16 : t336.toList = t332.toList
     ·rw [if_pos c16] at H
      have c16b0 : (t336.toList == t332.toList) = true := beq_iff_eq.mpr c16
      have c16b1 : (t336.toList != t332.toList) = false := bne_eq_false_iff_eq.mpr c16
      clear c16
      obtain rfl := Option.some.inj H
      go_enter Tryd.func8, Tryd.ntmps8
      go_wp2_with (first | ((with_reducible refine gate_callee (f := 21) rfl ?_); refine goesL_ (some 9) rfl rfl Tryd.func21 (by kernel_rfl) rfl #[.slice A0 l0.length c0] rfl mp_ ?_; (with_reducible refine (laws_big.calls _ _ l0 false _ ?side1 ?side2 A2.out).mono ?_); (case side1 => repeat (first | exact HR0.out | (with_reducible refine Kd.C_alloc ?_ _) | (with_reducible refine Kd.C_drewN ?_ _) | (with_reducible refine Kd.C_drew ?_))); (case side2 => exact HC0.out); rintro e w' ⟨rfl, ⟨nd, rfl⟩⟩; refine ⟨_, rfl, ?_⟩) | ((with_reducible refine gate_callee (f := 23) rfl ?_); refine goesL_ (some 11) rfl rfl Tryd.func23 (by kernel_rfl) rfl #[.slice A0 l0.length c0] rfl mp_ ?_; (with_reducible refine (spec_DrawEncodeHex.calls k _ _ l0 t332 _ ?side1 ?side2 A4.out).mono ?_); (case side1 => repeat (first | exact HR0.out | (with_reducible refine Kd.C_alloc ?_ _) | (with_reducible refine Kd.C_drewN ?_ _) | (with_reducible refine Kd.C_drew ?_))); (case side2 => exact HC0.out); rintro e w17 ⟨rfl, hb⟩; refine ⟨_, rfl, ?_⟩; have n0_ := Aside0.mk (below_step hb_ hb); clear HB; have HB := n0_; clear n0_; (try clear hb); (try clear hb2); (try clear hk); (try clear hi)) | ((with_reducible refine gate_callee (f := 24) rfl ?_); refine goesL_ (some 14) rfl rfl Tryd.func24 (by kernel_rfl) rfl #[.string t332] rfl mp_ ?_; (with_reducible refine (impl_EncodeHex.calls k t332 t333 true _ A5.out).mono ?_); rintro e w18 ⟨rfl, hb⟩; refine ⟨_, rfl, ?_⟩; have n0_ := Aside0.mk (below_step hb_ hb); clear HB; have HB := n0_; clear n0_; (try clear hb); (try clear hb2); (try clear hk); (try clear hi)) | ((with_reducible refine gate_callee (f := 25) rfl ?_); refine goesL_ (some 32) rfl rfl Tryd.func25 (by kernel_rfl) rfl #[.string t333] rfl mp_ ?_; (with_reducible refine (impl_DecodeHex.calls k t333 t336 true _ A13.out).mono ?_); rintro e w19 ⟨rfl, hb⟩; refine ⟨_, rfl, ?_⟩; have n0_ := Aside0.mk (below_step hb_ hb); clear HB; have HB := n0_; clear n0_; (try clear hb); (try clear hb2); (try clear hk); (try clear hi)))
      go_ret
      exact ⟨er_, hb_⟩
     ·rw [if_neg c16] at H
      have c16b0 : (t336.toList == t332.toList) = false := beq_eq_false_iff_ne.mpr c16
      have c16b1 : (t336.toList != t332.toList) = true := bne_iff_ne.mpr c16
      exact absurd ((Option.some.inj H).trans HT_.out) (by decide)
    ·replace c15 := Bool.eq_false_iff.mpr c15
     subst c15
     have H1 : (some false) = some r := by rw [if_neg (show ¬ (false = true) by decide)] at H; exact H
     clear H
     have H := H1
     clear H1
     exact absurd ((Option.some.inj H).trans HT_.out) (by decide)
   ·replace c14 := Bool.eq_false_iff.mpr c14
    subst c14
    have H1 : (some false) = some r := by rw [if_neg (show ¬ (false = true) by decide)] at H; exact H
    clear H
    have H := H1
    clear H1
    exact absurd ((Option.some.inj H).trans HT_.out) (by decide)

/-- THE ONE PURE STATEMENT of laws_FnHexText: yours. -/
def laws_FnHexText.Pure : Prop := ∀ (l0 : List Int), l0.length ≤ maxLen → l0.length * 1 ≤ 140737488351232 → (∀ x ∈ l0, (Lit.int .u8 x).wf = true) → ∃ k, laws_FnHexText.f k l0 = some true
theorem laws_FnHexText.walk (P : laws_FnHexText.Pure) (a0 : Option Addr) (len0 cap0 : Nat) (z0 : List Int) (w : World) {tb_ : Bool} (HTT : Tabs tb_ w) (w0 : (a0 = none ∧ len0 = 0 ∧ cap0 = 0 ∧ z0 = []) ∨ ∃ x, a0 = some x ∧ len0 ≤ cap0 ∧ cap0 ≤ maxLen ∧ z0.length = cap0 ∧ (∀ i, i < z0.length → w.cell? (x.add i) = some (.int .u8 (z0.getD i 0))) ∧ ∀ n ∈ z0, (Lit.int .u8 n).wf = true) (y0 : len0 * 1 ≤ 140737488351232) :
  Calls Tryd.prog 8 #[.slice a0 len0 cap0] w fun e w' => e = .returned (.bool true) ∧ Below w.heap.size w w' := by
 obtain ⟨l0, rfl, hr0, hm0, hw0, hc0⟩ := ReadsInt.ofRowC w0
 obtain ⟨k, h⟩ := P l0 hm0 y0 hw0
 refine (laws_FnHexText.calls (HTT := HTT) k _ _ l0 true w (Kd.C_of_reads (d := (0 : Int)) (h1 := fun _ => rfl) hr0) hc0 ⟨rfl⟩ h).mono ?_
 rintro e w' ⟨rfl, hd⟩
 exact ⟨rfl, hd⟩

end Go.Proofs.YtcocebkmfmiaeaaDoor.Q
