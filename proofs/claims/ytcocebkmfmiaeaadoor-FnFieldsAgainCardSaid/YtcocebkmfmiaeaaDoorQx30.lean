/- Plain Lean functions of Go functions, and for each the proof that its call comes to just that answer. Conditions: in each theorem's statement. -/
import Derived.Test.YtcocebkmfmiaeaaDoorQx0
import Derived.Test.YtcocebkmfmiaeaaDoorQx3
import Derived.Test.YtcocebkmfmiaeaaDoorQx14
import Derived.Test.YtcocebkmfmiaeaaDoorQx17
import Derived.Test.YtcocebkmfmiaeaaDoorQx19
import Derived.Test.YtcocebkmfmiaeaaDoorQx28
import Derived.Test.YtcocebkmfmiaeaaDoorQx29
namespace Go.Proofs.YtcocebkmfmiaeaaDoor.Q
open Go.RowKit Go.Proofs.YtcocebkmfmiaeaaDoorW.PrintWords Go.Proofs.YtcocebkmfmiaeaaDoorW.PrintLast
attribute [local go_sem] max2_int min2_int max_two min_two   -- for this text's walks alone
set_option linter.unusedVariables false
set_option linter.unusedSimpArgs false

/-! ### laws_FnFieldsAgain: function 9 -/
def laws_FnFieldsAgain.l0 : Nat → List ByteArray → Bool → ByteArray → Int → Option (Bool)
 | 0, _, _, _, _ => none
 | k + 1, x4, x5, x8, x9 => if x9 < (x4.length : Int) then (if 0 ≤ x9 then (if x8.size + (rdOf ByteArray.empty x4 x9).size ≤ 9223372036854775807 then (if (x8 ++ (rdOf ByteArray.empty x4 x9)).size + 1 ≤ 9223372036854775807 then (laws_FnFieldsAgain.l0 k x4 x5 ((x8 ++ (rdOf ByteArray.empty x4 x9)) ++ (⟨#[32]⟩ : ByteArray)) (wrap64 (x9 + 1))) else (none)) else (none)) else (none)) else ((impl_SplitFields.f k x8).bind fun bt401 => (if x5 = true then (if (x8.size : Int) > 600 then (some true) else (if bt401.2 = true then ((laws_sameTexts.f k x4 bt401.1).bind fun t405 => (some t405)) else (some false))) else (some false)))
def laws_FnFieldsAgain.f (k : Nat) (l0 : List Int) : Option (Bool) := (laws_big.f l0).bind fun t389 => (if t389 = true then (some true) else ((spec_DrawSplitFields.f k l0).bind fun t390 => ((impl_SplitFields.f k t390).bind fun bt391 => ((spec_SplitFields.f k t390).bind fun bt395 => (if bt395.2 = true then (laws_FnFieldsAgain.l0 k bt391.1 bt391.2 (⟨#[]⟩ : ByteArray) 0) else (if bt391.2 = true then (some false) else (if (bt391.1.length : Int) = 0 then ((impl_FormatInt.f (-3)).bind fun t399 => (some (t399.toList == ([45, 51] : List UInt8)))) else (some false))))))))
theorem laws_FnFieldsAgain.mono_l : ∀ k, (∀ y0 y1 y2 y3, LeO (laws_FnFieldsAgain.l0 k y0 y1 y2 y3) (laws_FnFieldsAgain.l0 (k + 1) y0 y1 y2 y3))
 | 0 => fun _ _ _ _ r h => by simp [laws_FnFieldsAgain.l0] at h
 | k + 1 => by
  have ih0 := laws_FnFieldsAgain.mono_l k
  ·intro y0 y1 y2 y3
   unfold laws_FnFieldsAgain.l0
   repeat' first
   | (with_reducible exact ih0 _ _ _ _)
   | (with_reducible exact impl_SplitFields.mono _ _)
   | (with_reducible exact laws_sameTexts.mono _ _ _)
   | (with_reducible exact spec_DrawSplitFields.mono _ _)
   | (with_reducible exact spec_SplitFields.mono _ _)
   | (with_reducible exact LeO.refl _)
   | (with_reducible exact LeO.none _)
   | (with_reducible refine LeO.ite ?_ ?_)
   | (with_reducible refine LeO.bind ?_ (fun _ => ?_))
   | exact ih0 _ _ _ _
   | exact impl_SplitFields.mono _ _
   | exact laws_sameTexts.mono _ _ _
   | exact spec_DrawSplitFields.mono _ _
   | exact spec_SplitFields.mono _ _
   | exact LeO.none _
   | refine LeO.ite ?_ ?_
   | refine LeO.bind ?_ (fun _ => ?_)
theorem laws_FnFieldsAgain.mono : ∀ a0 k, LeO (laws_FnFieldsAgain.f k a0) (laws_FnFieldsAgain.f (k + 1) a0) := by
 intro a0 k
 have ih0 := laws_FnFieldsAgain.mono_l k
 unfold laws_FnFieldsAgain.f
 repeat' first
   | (with_reducible exact ih0 _ _ _ _)
   | (with_reducible exact impl_SplitFields.mono _ _)
   | (with_reducible exact laws_sameTexts.mono _ _ _)
   | (with_reducible exact spec_DrawSplitFields.mono _ _)
   | (with_reducible exact spec_SplitFields.mono _ _)
   | (with_reducible exact LeO.refl _)
   | (with_reducible exact LeO.none _)
   | (with_reducible refine LeO.ite ?_ ?_)
   | (with_reducible refine LeO.bind ?_ (fun _ => ?_))
   | exact ih0 _ _ _ _
   | exact impl_SplitFields.mono _ _
   | exact laws_sameTexts.mono _ _ _
   | exact spec_DrawSplitFields.mono _ _
   | exact spec_SplitFields.mono _ _
   | exact LeO.none _
   | refine LeO.ite ?_ ?_
   | refine LeO.bind ?_ (fun _ => ?_)
set_option maxHeartbeats 8000000 in
set_option maxRecDepth 100000 in
theorem laws_FnFieldsAgain.calls (k : Nat) (A0 : Option Addr) (c0 : Nat) (l0 : List Int) (r : Bool) (w : World) {tb_ : Bool} (HTT : Tabs tb_ w) (hr0 : Kd.C (Kd.int .u8) w A0 l0.length l0) (hc0 : l0.length ≤ c0) (HT_ : Aside0 (r = true)) (h : laws_FnFieldsAgain.f k l0 = some r) :
  Calls Tryd.prog 9 #[.slice A0 l0.length c0] w fun e w' => e = .returned (.bool r) ∧ Below w.heap.size w w' := by
 have HT := Aside0.mk HTT
 clear HTT
 have HR0 := Aside0.mk hr0
 have HC0 := Aside0.mk hc0
 clear hr0 hc0
 have HB := Aside0.mk (Below.refl w.heap.size w)
 have H : ((laws_big.f l0).bind fun t389 => (if t389 = true then (some true) else ((spec_DrawSplitFields.f k l0).bind fun t390 => ((impl_SplitFields.f k t390).bind fun bt391 => ((spec_SplitFields.f k t390).bind fun bt395 => (if bt395.2 = true then (laws_FnFieldsAgain.l0 k bt391.1 bt391.2 (⟨#[]⟩ : ByteArray) 0) else (if bt391.2 = true then (some false) else (if (bt391.1.length : Int) = 0 then ((impl_FormatInt.f (-3)).bind fun t399 => (some (t399.toList == ([45, 51] : List UInt8)))) else (some false))))))))) = some r := h
 clear h
 replace H := Option.bind_eq_some_iff.mp H
 obtain ⟨t389, A20, H⟩ := H
 replace H : (if t389 = true then (some true) else ((spec_DrawSplitFields.f k l0).bind fun t390 => ((impl_SplitFields.f k t390).bind fun bt391 => ((spec_SplitFields.f k t390).bind fun bt395 => (if bt395.2 = true then (laws_FnFieldsAgain.l0 k bt391.1 bt391.2 (⟨#[]⟩ : ByteArray) 0) else (if bt391.2 = true then (some false) else (if (bt391.1.length : Int) = 0 then ((impl_FormatInt.f (-3)).bind fun t399 => (some (t399.toList == ([45, 51] : List UInt8)))) else (some false)))))))) = some r := H
 have A2 := Aside0.mk A20
 clear A20
 by_cases c3 : t389 = true
 ·subst c3
  have H1 : (some true) = some r := by rw [if_pos rfl] at H; exact H
  clear H
  have H := H1
  clear H1
  obtain rfl := Option.some.inj H
  go_enter Tryd.func9, Tryd.ntmps9
  go_wp2_with (first | ((with_reducible refine gate_callee (f := 21) rfl ?_); refine goesL_ (some 13) rfl rfl Tryd.func21 (by kernel_rfl) rfl #[.slice A0 l0.length c0] rfl mp_ ?_; (with_reducible refine (laws_big.calls _ _ l0 true _ ?side1 ?side2 A2.out).mono ?_); (case side1 => repeat (first | exact HR0.out | (with_reducible refine Kd.C_alloc ?_ _) | (with_reducible refine Kd.C_drewN ?_ _) | (with_reducible refine Kd.C_drew ?_))); (case side2 => exact HC0.out); rintro e w' ⟨rfl, ⟨nd, rfl⟩⟩; refine ⟨_, rfl, ?_⟩))
  go_ret
  exact ⟨er_, hb_⟩
 ·replace c3 := Bool.eq_false_iff.mpr c3
  subst c3
  have H1 : ((spec_DrawSplitFields.f k l0).bind fun t390 => ((impl_SplitFields.f k t390).bind fun bt391 => ((spec_SplitFields.f k t390).bind fun bt395 => (if bt395.2 = true then (laws_FnFieldsAgain.l0 k bt391.1 bt391.2 (⟨#[]⟩ : ByteArray) 0) else (if bt391.2 = true then (some false) else (if (bt391.1.length : Int) = 0 then ((impl_FormatInt.f (-3)).bind fun t399 => (some (t399.toList == ([45, 51] : List UInt8)))) else (some false))))))) = some r := by rw [if_neg (show ¬ (false = true) by decide)] at H; exact H
  clear H
  have H := H1
  clear H1
  replace H := Option.bind_eq_some_iff.mp H
  obtain ⟨t390, A40, H⟩ := H
  replace H : ((impl_SplitFields.f k t390).bind fun bt391 => ((spec_SplitFields.f k t390).bind fun bt395 => (if bt395.2 = true then (laws_FnFieldsAgain.l0 k bt391.1 bt391.2 (⟨#[]⟩ : ByteArray) 0) else (if bt391.2 = true then (some false) else (if (bt391.1.length : Int) = 0 then ((impl_FormatInt.f (-3)).bind fun t399 => (some (t399.toList == ([45, 51] : List UInt8)))) else (some false)))))) = some r := H
  have A4 := Aside0.mk A40
  clear A40
  replace H := Option.bind_eq_some_iff.mp H
  obtain ⟨⟨t391, t392⟩, A50, H⟩ := H
  replace H : ((spec_SplitFields.f k t390).bind fun bt395 => (if bt395.2 = true then (laws_FnFieldsAgain.l0 k t391 t392 (⟨#[]⟩ : ByteArray) 0) else (if t392 = true then (some false) else (if (t391.length : Int) = 0 then ((impl_FormatInt.f (-3)).bind fun t399 => (some (t399.toList == ([45, 51] : List UInt8)))) else (some false))))) = some r := H
  have A5 := Aside0.mk A50
  clear A50
  replace H := Option.bind_eq_some_iff.mp H
  obtain ⟨⟨t395, t396⟩, A60, H⟩ := H
  replace H : (if t396 = true then (laws_FnFieldsAgain.l0 k t391 t392 (⟨#[]⟩ : ByteArray) 0) else (if t392 = true then (some false) else (if (t391.length : Int) = 0 then ((impl_FormatInt.f (-3)).bind fun t399 => (some (t399.toList == ([45, 51] : List UInt8)))) else (some false)))) = some r := H
  have A6 := Aside0.mk A60
  clear A60
  by_cases c7 : t396 = true
  ·subst c7
   have H1 : (laws_FnFieldsAgain.l0 k t391 t392 (⟨#[]⟩ : ByteArray) 0) = some r := by rw [if_pos rfl] at H; exact H
   clear H
   have H := H1
   clear H1
   have H' := Aside0.mk H
   clear H
   go_enter Tryd.func9, Tryd.ntmps9
   go_wp2_with (first | ((with_reducible refine gate_callee (f := 21) rfl ?_); refine goesL_ (some 13) rfl rfl Tryd.func21 (by kernel_rfl) rfl #[.slice A0 l0.length c0] rfl mp_ ?_; (with_reducible refine (laws_big.calls _ _ l0 false _ ?side1 ?side2 A2.out).mono ?_); (case side1 => repeat (first | exact HR0.out | (with_reducible refine Kd.C_alloc ?_ _) | (with_reducible refine Kd.C_drewN ?_ _) | (with_reducible refine Kd.C_drew ?_))); (case side2 => exact HC0.out); rintro e w' ⟨rfl, ⟨nd, rfl⟩⟩; refine ⟨_, rfl, ?_⟩) | ((with_reducible refine gate_callee (f := 26) rfl ?_); refine goesL_ (some 15) rfl rfl Tryd.func26 (by kernel_rfl) rfl #[.slice A0 l0.length c0] rfl mp_ ?_; (with_reducible refine (spec_DrawSplitFields.calls k _ _ l0 t390 _ ?side1 ?side2 A4.out).mono ?_); (case side1 => repeat (first | exact HR0.out | (with_reducible refine Kd.C_alloc ?_ _) | (with_reducible refine Kd.C_drewN ?_ _) | (with_reducible refine Kd.C_drew ?_))); (case side2 => exact HC0.out); rintro e w8 ⟨rfl, hb⟩; refine ⟨_, rfl, ?_⟩; have n0_ := Aside0.mk (below_step hb_ hb); clear HB; have HB := n0_; clear n0_; (try clear hb); (try clear hb2); (try clear hk); (try clear hi)) | ((with_reducible refine gate_callee (f := 27) rfl ?_); refine goesL_ (some 18) rfl rfl Tryd.func27 (by kernel_rfl) rfl #[.string t390] rfl mp_ ?_; (with_reducible refine (impl_SplitFields.calls k t390 t391 t392 _ A5.out).mono ?_); rintro e w9 ⟨v393, rfl, ho0, hb⟩; refine ⟨_, rfl, ?_⟩; have n0_ := Aside0.mk (Kd.R_lower ho0 (below_size hb_)); have n1_ := Aside0.mk (below_step hb_ hb); clear HB; have HO394 := n0_; have HB := n1_; clear n0_ n1_; (try clear hb); (try clear hb2); (try clear hk); (try clear hi); (try clear ho0)) | ((with_reducible refine gate_callee (f := 28) rfl ?_); refine goesL_ (some 23) rfl rfl Tryd.func28 (by kernel_rfl) rfl #[.string t390] rfl mp_ ?_; (with_reducible refine (spec_SplitFields.calls k t390 t395 true _ A6.out).mono ?_); rintro e w10 ⟨v397, rfl, ho0, hb⟩; refine ⟨_, rfl, ?_⟩; have n0_ := Aside0.mk (Kd.R_elder' (kr_ HO394.out) (Kd.R_base ho0) hb); have n1_ := Aside0.mk (Kd.R_lower (Kd.R_new' ho0 (Kd.R_lt (kr_ HO394.out))) (below_size hb_)); have n2_ := Aside0.mk (below_step hb_ hb); clear HO394; clear HB; have HO394 := n0_; have HO398 := n1_; have HB := n2_; clear n0_ n1_ n2_; (try clear hb); (try clear hb2); (try clear hk); (try clear hi); (try clear ho0)))
   go_loopg [8, 9] k (fun kq v8 v9 w' => ∃ (x8_1 : ByteArray) (x9_1 : Int), v8 = .string x8_1 ∧ v9 = .int .i64 x9_1 ∧ Aside0 (laws_FnFieldsAgain.l0 kq t391 t392 x8_1 x9_1 = some r) ∧ Aside0 (kq ≤ k) ∧ Aside0 (Kd.R Kd.string 9 w' w.heap.size (fun _ => True) v393 t391) ∧ Aside0 (Below w.heap.size w w'))
   case atStart => exact ⟨((⟨#[]⟩ : ByteArray)), (0), (by first | rfl | (simp; done) | (simp [*]; done)), (by first | rfl | (simp; done) | (simp [*]; done)), H', ⟨Nat.le_refl _⟩, ⟨by (with_reducible repeat (first | apply Kd.R_alloc | apply Kd.R_drewN | apply Kd.R_drew)); exact Kd.R_mono HO394.out (fun _ hk => trivial)⟩, ⟨hb_⟩⟩
   case round =>
    clear H'
    try clear c2
    try clear p2
    try clear c3
    try clear c7
    try clear c9
    obtain ⟨x8_1, x9_1, rfl, rfl, HA, HK1, HO_4, HB⟩ := hrel
    cases gk with
    | zero => exact absurd HA.out (by simp [laws_FnFieldsAgain.l0])
    | succ k1 =>
     have H := HA.out
     clear HA
     simp only [laws_FnFieldsAgain.l0] at H
     by_cases c11 : x9_1 < (t391.length : Int)
     ·rw [if_pos c11] at H
      have c11b0 : decide (x9_1 < (t391.length : Int)) = true := decide_eq_true c11
      clear c11
      by_cases c12 : 0 ≤ x9_1
      ·rw [if_pos c12] at H
       have c12b0 : decide (0 ≤ x9_1) = true := decide_eq_true c12
       clear c12
       by_cases c13 : x8_1.size + (rdOf ByteArray.empty t391 x9_1).size ≤ 9223372036854775807
       ·rw [if_pos c13] at H
        have c13b0 := eq_true c13
        have c13b1 : decide (x8_1.size + (rdOf ByteArray.empty t391 x9_1).size ≤ 9223372036854775807) = true := decide_eq_true c13
        try have c13b2 : (9223372036854775807 < x8_1.size + (rdOf ByteArray.empty t391 x9_1).size) = False := eq_false (Nat.not_lt.2 c13)
        by_cases c14 : (x8_1 ++ (rdOf ByteArray.empty t391 x9_1)).size + 1 ≤ 9223372036854775807
        ·rw [if_pos c14] at H
         have c14b0 := eq_true c14
         have c14b1 : decide ((x8_1 ++ (rdOf ByteArray.empty t391 x9_1)).size + 1 ≤ 9223372036854775807) = true := decide_eq_true c14
         try have c14b2 : (9223372036854775807 < (x8_1 ++ (rdOf ByteArray.empty t391 x9_1)).size + 1) = False := eq_false (Nat.not_lt.2 c14)
         try (have c14b3 := c14b2; simp only [ByteArray.size_append, sz1_] at c14b3)
         have H' := Aside0.mk H
         clear H
         obtain ⟨Ao15, co15, eo15⟩ := Kd.R_slice HO_4.out
         subst eo15
         have p400 : 0 ≤ (x9_1 : Int) := of_decide_eq_true (by first | (with_reducible assumption) | assumption)
         have q400 : x9_1 < (t391.length : Int) := of_decide_eq_true (by first | (with_reducible assumption) | assumption)
         obtain ⟨ad400, e400, hx400_0⟩ := Kd.at_string (Kd.R_reads' HO_4.out).2.2 x9_1 p400 q400
         cases e400
         replace p400 := eq_true p400
         replace q400 := eq_true q400
         go_wp2
         go_roundg k1
         case measure => have := HK1.out; omega
         case rel => exact ⟨((x8_1 ++ (rdOf ByteArray.empty t391 x9_1)) ++ (⟨#[32]⟩ : ByteArray)), (wrap64 (x9_1 + 1)), (by first | rfl | (simp; done) | (simp [*]; done)), (by first | rfl | (simp; done) | (simp [*]; done)), H', ⟨by have := HK1.out; omega⟩, ⟨kr_ HO_4.out⟩, ⟨hb_⟩⟩
        ·rw [if_neg c14] at H
         exact absurd H (by simp)
       ·rw [if_neg c13] at H
        exact absurd H (by simp)
      ·rw [if_neg c12] at H
       exact absurd H (by simp)
     ·rw [if_neg c11] at H
      have c11b0 : decide (x9_1 < (t391.length : Int)) = false := decide_eq_false c11
      clear c11
      replace H := Option.bind_eq_some_iff.mp H
      obtain ⟨⟨t401, t402⟩, A160, H⟩ := H
      replace H : (if t392 = true then (if (x8_1.size : Int) > 600 then (some true) else (if t402 = true then ((laws_sameTexts.f k1 t391 t401).bind fun t405 => (some t405)) else (some false))) else (some false)) = some r := H
      have A16 := Aside0.mk A160
      clear A160
      by_cases c17 : t392 = true
      ·subst c17
       have H1 : (if (x8_1.size : Int) > 600 then (some true) else (if t402 = true then ((laws_sameTexts.f k1 t391 t401).bind fun t405 => (some t405)) else (some false))) = some r := by rw [if_pos rfl] at H; exact H
       clear H
       have H := H1
       clear H1
       by_cases c18 : (x8_1.size : Int) > 600
       ·rw [if_pos c18] at H
        have c18b0 : decide (600 < (x8_1.size : Int)) = true := decide_eq_true c18
        have c18b1 : decide (600 < x8_1.size) = true := decide_eq_true (by omega)
        clear c18
        obtain rfl := Option.some.inj H
        obtain ⟨Ao19, co19, eo19⟩ := Kd.R_slice HO_4.out
        subst eo19
        go_wp2_with (first | ((with_reducible refine gate_callee (f := 27) rfl ?_); refine goesL_ (some 54) rfl rfl Tryd.func27 (by kernel_rfl) rfl #[.string x8_1] rfl mp_ ?_; (with_reducible refine (impl_SplitFields.calls k1 x8_1 t401 t402 _ A16.out).mono ?_); rintro e w20 ⟨v403, rfl, ho0, hb⟩; refine ⟨_, rfl, ?_⟩; have n0_ := Aside0.mk (Kd.R_elder' (kr_ HO_4.out) (Kd.R_base ho0) hb); have n1_ := Aside0.mk (Kd.R_lower (Kd.R_new' ho0 (Kd.R_lt (kr_ HO_4.out))) (below_size hb_)); have n2_ := Aside0.mk (below_step hb_ hb); clear HO_4; clear HB; have HO_4 := n0_; have HO404 := n1_; have HB := n2_; clear n0_ n1_ n2_; (try clear hb); (try clear hb2); (try clear hk); (try clear hi); (try clear ho0)))
        go_ret
        exact ⟨er_, hb_⟩
       ·rw [if_neg c18] at H
        have c18b0 : decide (600 < (x8_1.size : Int)) = false := decide_eq_false c18
        have c18b1 : decide (600 < x8_1.size) = false := decide_eq_false (by omega)
        clear c18
        by_cases c21 : t402 = true
        ·subst c21
         have H1 : ((laws_sameTexts.f k1 t391 t401).bind fun t405 => (some t405)) = some r := by rw [if_pos rfl] at H; exact H
         clear H
         have H := H1
         clear H1
         replace H := Option.bind_eq_some_iff.mp H
         obtain ⟨t405, A220, H⟩ := H
         replace H : (some t405) = some r := H
         have A22 := Aside0.mk A220
         clear A220
         obtain rfl := Option.some.inj H
         obtain ⟨Ao23, co23, eo23⟩ := Kd.R_slice HO_4.out
         subst eo23
         go_wp2_with (first | ((with_reducible refine gate_callee (f := 27) rfl ?_); refine goesL_ (some 54) rfl rfl Tryd.func27 (by kernel_rfl) rfl #[.string x8_1] rfl mp_ ?_; (with_reducible refine (impl_SplitFields.calls k1 x8_1 t401 true _ A16.out).mono ?_); rintro e w24 ⟨v403, rfl, ho0, hb⟩; refine ⟨_, rfl, ?_⟩; have n0_ := Aside0.mk (Kd.R_elder' (kr_ HO_4.out) (Kd.R_base ho0) hb); have n1_ := Aside0.mk (Kd.R_lower (Kd.R_new' ho0 (Kd.R_lt (kr_ HO_4.out))) (below_size hb_)); have n2_ := Aside0.mk (below_step hb_ hb); clear HO_4; clear HB; have HO_4 := n0_; have HO404 := n1_; have HB := n2_; clear n0_ n1_ n2_; (try clear hb); (try clear hb2); (try clear hk); (try clear hi); (try clear ho0); obtain ⟨Ao25, co25, eo25⟩ := Kd.R_slice HO404.out; subst eo25) | (go_at_call 29; (with_reducible refine (laws_sameTexts.calls k1 _ _ t391 _ _ t401 t405 _ ?side1 ?side2 ?side3 ?side4 A22.out).mono ?_); (case side1 => repeat (first | exact (Kd.R_reads' HO_4.out).2.2 | (with_reducible refine Kd.C_alloc ?_ _) | (with_reducible refine Kd.C_drewN ?_ _) | (with_reducible refine Kd.C_drew ?_))); (case side2 => exact (Kd.R_reads' HO_4.out).2.1); (case side3 => repeat (first | exact (Kd.R_reads' HO404.out).2.2 | (with_reducible refine Kd.C_alloc ?_ _) | (with_reducible refine Kd.C_drewN ?_ _) | (with_reducible refine Kd.C_drew ?_))); (case side4 => exact (Kd.R_reads' HO404.out).2.1); rintro e w' ⟨rfl, ⟨nd, rfl⟩⟩))
         go_ret
         exact ⟨er_, hb_⟩
        ·replace c21 := Bool.eq_false_iff.mpr c21
         subst c21
         have H1 : (some false) = some r := by rw [if_neg (show ¬ (false = true) by decide)] at H; exact H
         clear H
         have H := H1
         clear H1
         exact absurd ((Option.some.inj H).trans HT_.out) (by decide)
      ·replace c17 := Bool.eq_false_iff.mpr c17
       subst c17
       have H1 : (some false) = some r := by rw [if_neg (show ¬ (false = true) by decide)] at H; exact H
       clear H
       have H := H1
       clear H1
       exact absurd ((Option.some.inj H).trans HT_.out) (by decide)
  ·replace c7 := Bool.eq_false_iff.mpr c7
   subst c7
   have H1 : (if t392 = true then (some false) else (if (t391.length : Int) = 0 then ((impl_FormatInt.f (-3)).bind fun t399 => (some (t399.toList == ([45, 51] : List UInt8)))) else (some false))) = some r := by rw [if_neg (show ¬ (false = true) by decide)] at H; exact H
   clear H
   have H := H1
   clear H1
   by_cases c26 : t392 = true
   ·subst c26
    have H1 : (some false) = some r := by rw [if_pos rfl] at H; exact H
    clear H
    have H := H1
    clear H1
    exact absurd ((Option.some.inj H).trans HT_.out) (by decide)
   ·replace c26 := Bool.eq_false_iff.mpr c26
    subst c26
    have H1 : (if (t391.length : Int) = 0 then ((impl_FormatInt.f (-3)).bind fun t399 => (some (t399.toList == ([45, 51] : List UInt8)))) else (some false)) = some r := by rw [if_neg (show ¬ (false = true) by decide)] at H; exact H
    clear H
    have H := H1
    clear H1
    by_cases c27 : (t391.length : Int) = 0
    ·rw [if_pos c27] at H
     have c27b0 : ((t391.length : Int) == 0) = true := beq_iff_eq.mpr c27
     have c27b1 : ((t391.length : Int) != 0) = false := bne_eq_false_iff_eq.mpr c27
     clear c27
     replace H := Option.bind_eq_some_iff.mp H
     obtain ⟨t399, A280, H⟩ := H
     replace H : (some (t399.toList == ([45, 51] : List UInt8))) = some r := H
     have A28 := Aside0.mk A280
     clear A280
     obtain rfl := Option.some.inj H
     go_enter Tryd.func9, Tryd.ntmps9
     go_wp2_with (first | ((with_reducible refine gate_callee (f := 21) rfl ?_); refine goesL_ (some 13) rfl rfl Tryd.func21 (by kernel_rfl) rfl #[.slice A0 l0.length c0] rfl mp_ ?_; (with_reducible refine (laws_big.calls _ _ l0 false _ ?side1 ?side2 A2.out).mono ?_); (case side1 => repeat (first | exact HR0.out | (with_reducible refine Kd.C_alloc ?_ _) | (with_reducible refine Kd.C_drewN ?_ _) | (with_reducible refine Kd.C_drew ?_))); (case side2 => exact HC0.out); rintro e w' ⟨rfl, ⟨nd, rfl⟩⟩; refine ⟨_, rfl, ?_⟩) | ((with_reducible refine gate_callee (f := 26) rfl ?_); refine goesL_ (some 15) rfl rfl Tryd.func26 (by kernel_rfl) rfl #[.slice A0 l0.length c0] rfl mp_ ?_; (with_reducible refine (spec_DrawSplitFields.calls k _ _ l0 t390 _ ?side1 ?side2 A4.out).mono ?_); (case side1 => repeat (first | exact HR0.out | (with_reducible refine Kd.C_alloc ?_ _) | (with_reducible refine Kd.C_drewN ?_ _) | (with_reducible refine Kd.C_drew ?_))); (case side2 => exact HC0.out); rintro e w29 ⟨rfl, hb⟩; refine ⟨_, rfl, ?_⟩; have n0_ := Aside0.mk (below_step hb_ hb); clear HB; have HB := n0_; clear n0_; (try clear hb); (try clear hb2); (try clear hk); (try clear hi)) | ((with_reducible refine gate_callee (f := 27) rfl ?_); refine goesL_ (some 18) rfl rfl Tryd.func27 (by kernel_rfl) rfl #[.string t390] rfl mp_ ?_; (with_reducible refine (impl_SplitFields.calls k t390 t391 false _ A5.out).mono ?_); rintro e w30 ⟨v393, rfl, ho0, hb⟩; refine ⟨_, rfl, ?_⟩; have n0_ := Aside0.mk (Kd.R_lower ho0 (below_size hb_)); have n1_ := Aside0.mk (below_step hb_ hb); clear HB; have HO394 := n0_; have HB := n1_; clear n0_ n1_; (try clear hb); (try clear hb2); (try clear hk); (try clear hi); (try clear ho0)) | ((with_reducible refine gate_callee (f := 28) rfl ?_); refine goesL_ (some 23) rfl rfl Tryd.func28 (by kernel_rfl) rfl #[.string t390] rfl mp_ ?_; (with_reducible refine (spec_SplitFields.calls k t390 t395 false _ A6.out).mono ?_); rintro e w31 ⟨v397, rfl, ho0, hb⟩; refine ⟨_, rfl, ?_⟩; have n0_ := Aside0.mk (Kd.R_elder' (kr_ HO394.out) (Kd.R_base ho0) hb); have n1_ := Aside0.mk (Kd.R_lower (Kd.R_new' ho0 (Kd.R_lt (kr_ HO394.out))) (below_size hb_)); have n2_ := Aside0.mk (below_step hb_ hb); clear HO394; clear HB; have HO394 := n0_; have HO398 := n1_; have HB := n2_; clear n0_ n1_ n2_; (try clear hb); (try clear hb2); (try clear hk); (try clear hi); (try clear ho0); obtain ⟨Ao32, co32, eo32⟩ := Kd.R_slice HO394.out; subst eo32) | (go_at_call 12; (with_reducible refine (impl_FormatInt.calls (HTT := tabs_on HT.out hb_) (-3) t399 _ A28.out).mono ?_); rintro e w33 ⟨rfl, hb⟩; have n0_ := Aside0.mk (Kd.R_below (kr_ HO394.out) hb); have n1_ := Aside0.mk (Kd.R_below (kr_ HO398.out) hb); have n2_ := Aside0.mk (below_step hb_ hb); clear HO394; clear HO398; clear HB; have HO394 := n0_; have HO398 := n1_; have HB := n2_; clear n0_ n1_ n2_; (try clear hb); (try clear hb2); (try clear hk); (try clear hi)))
     go_ret
     exact ⟨er_, hb_⟩
    ·rw [if_neg c27] at H
     have c27b0 : ((t391.length : Int) == 0) = false := beq_eq_false_iff_ne.mpr c27
     have c27b1 : ((t391.length : Int) != 0) = true := bne_iff_ne.mpr c27
     have c27b2 : ¬ (t391 = []) := fun h_ => c27 (by rw [h_]; rfl)
     exact absurd ((Option.some.inj H).trans HT_.out) (by decide)

/-- THE ONE PURE STATEMENT of laws_FnFieldsAgain: yours. -/
def laws_FnFieldsAgain.Pure : Prop := ∀ (l0 : List Int), l0.length ≤ maxLen → l0.length * 1 ≤ 140737488351232 → (∀ x ∈ l0, (Lit.int .u8 x).wf = true) → ∃ k, laws_FnFieldsAgain.f k l0 = some true
theorem laws_FnFieldsAgain.walk (P : laws_FnFieldsAgain.Pure) (a0 : Option Addr) (len0 cap0 : Nat) (z0 : List Int) (w : World) {tb_ : Bool} (HTT : Tabs tb_ w) (w0 : (a0 = none ∧ len0 = 0 ∧ cap0 = 0 ∧ z0 = []) ∨ ∃ x, a0 = some x ∧ len0 ≤ cap0 ∧ cap0 ≤ maxLen ∧ z0.length = cap0 ∧ (∀ i, i < z0.length → w.cell? (x.add i) = some (.int .u8 (z0.getD i 0))) ∧ ∀ n ∈ z0, (Lit.int .u8 n).wf = true) (y0 : len0 * 1 ≤ 140737488351232) :
  Calls Tryd.prog 9 #[.slice a0 len0 cap0] w fun e w' => e = .returned (.bool true) ∧ Below w.heap.size w w' := by
 obtain ⟨l0, rfl, hr0, hm0, hw0, hc0⟩ := ReadsInt.ofRowC w0
 obtain ⟨k, h⟩ := P l0 hm0 y0 hw0
 refine (laws_FnFieldsAgain.calls (HTT := HTT) k _ _ l0 true w (Kd.C_of_reads (d := (0 : Int)) (h1 := fun _ => rfl) hr0) hc0 ⟨rfl⟩ h).mono ?_
 rintro e w' ⟨rfl, hd⟩
 exact ⟨rfl, hd⟩

end Go.Proofs.YtcocebkmfmiaeaaDoor.Q
