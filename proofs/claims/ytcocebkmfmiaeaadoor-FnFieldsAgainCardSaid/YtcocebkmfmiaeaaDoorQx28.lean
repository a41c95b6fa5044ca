/- Plain Lean functions of Go functions, and for each the proof that its call comes to just that answer. Conditions: in each theorem's statement. -/
import Derived.Test.YtcocebkmfmiaeaaDoorQx0
import Derived.Test.YtcocebkmfmiaeaaDoorQx19
import Derived.Test.YtcocebkmfmiaeaaDoorQx22
import Derived.Test.YtcocebkmfmiaeaaDoorQx27
namespace Go.Proofs.YtcocebkmfmiaeaaDoor.Q
open Go.RowKit Go.Proofs.YtcocebkmfmiaeaaDoorW.PrintWords Go.Proofs.YtcocebkmfmiaeaaDoorW.PrintLast
attribute [local go_sem] max2_int min2_int max_two min_two   -- for this text's walks alone
set_option linter.unusedVariables false
set_option linter.unusedSimpArgs false

/-! ### spec_DrawSplitFields: function 26 -/
mutual
def spec_DrawSplitFields.j0 : Nat → Int → List Int → Int → Int → Option (ByteArray)
 | 0, _, _, _, _ => none
 | k + 1, x4, x346000, x346001, x346002 => spec_DrawSplitFields.l0 k x4 (⟨#[]⟩ : ByteArray) 0 x346000 x346001 x346002
def spec_DrawSplitFields.l0 : Nat → Int → ByteArray → Int → List Int → Int → Int → Option (ByteArray)
 | 0, _, _, _, _, _, _ => none
 | k + 1, x4, x5, x6, x346000, x346001, x346002 => if x6 < x4 then (if x6 > 0 then (spec_DrawSplitFields.j2 k x4 x5 x6 true x346000 x346001 x346002) else ((spec_l01Once.f x346000 x346001 x346002 5).bind fun bt355 => (spec_DrawSplitFields.j2 k x4 x5 x6 bt355.1 x346000 bt355.2.1 bt355.2.2))) else ((spec_l01Below.f x346000 x346001 x346002 12).bind fun bt374 => (if bt374.1 = 0 then ((spec_l01Pick.f x346000 bt374.2.1 bt374.2.2 (([(⟨#[32]⟩ : ByteArray), (⟨#[32, 32]⟩ : ByteArray), (⟨#[9]⟩ : ByteArray), (⟨#[10]⟩ : ByteArray), (⟨#[127]⟩ : ByteArray), (⟨#[233]⟩ : ByteArray)] : List ByteArray))).bind fun bt380 => (if x5.size + bt380.1.size ≤ 9223372036854775807 then (some (x5 ++ bt380.1)) else (none))) else (if bt374.1 = 1 then (if (x5.size : Int) < 600 then ((spec_l01Below.f x346000 bt374.2.1 bt374.2.2 2).bind fun bt383 => ((spec_l01Long.f k (wrap64 ((wrap64 (600 - (x5.size : Int))) + bt383.1)) 32).bind fun t386 => (if x5.size + t386.size ≤ 9223372036854775807 then (some (x5 ++ t386)) else (none)))) else (some x5)) else (some x5))))
def spec_DrawSplitFields.j2 : Nat → Int → ByteArray → Int → Bool → List Int → Int → Int → Option (ByteArray)
 | 0, _, _, _, _, _, _, _ => none
 | k + 1, x4, x5, x6, x27, x346000, x346001, x346002 => if x27 = true then ((spec_l01Below.f x346000 x346001 x346002 2).bind fun bt358 => ((spec_l01Below.f x346000 bt358.2.1 bt358.2.2 3).bind fun bt361 => ((spec_l01Long.f k (wrap64 (1 + (wrap64 (bt358.1 * bt361.1)))) 32).bind fun t364 => (if x5.size + t364.size ≤ 9223372036854775807 then (spec_DrawSplitFields.j3 k x4 (x5 ++ t364) x6 x346000 bt361.2.1 bt361.2.2) else (none))))) else (spec_DrawSplitFields.j3 k x4 x5 x6 x346000 x346001 x346002)
def spec_DrawSplitFields.j3 : Nat → Int → ByteArray → Int → List Int → Int → Int → Option (ByteArray)
 | 0, _, _, _, _, _, _ => none
 | k + 1, x4, x5, x6, x346000, x346001, x346002 => spec_DrawSplitFields.l1 k x4 x5 x6 0 x346000 x346001 x346002
def spec_DrawSplitFields.l1 : Nat → Int → ByteArray → Int → Int → List Int → Int → Int → Option (ByteArray)
 | 0, _, _, _, _, _, _, _ => none
 | k + 1, x4, x5, x6, x7, x346000, x346001, x346002 => (spec_l01Below.f x346000 x346001 x346002 5).bind fun bt365 => (if x7 ≤ bt365.1 then ((spec_l01Below.f x346000 bt365.2.1 bt365.2.2 94).bind fun bt368 => ((some (([(wrap64 (33 + bt368.1)) % 256] : List Int) : List Int)).bind fun y371 => (if x5.size + (strOfNums y371).size ≤ 9223372036854775807 then (spec_DrawSplitFields.l1 k x4 (x5 ++ (strOfNums y371)) x6 (wrap64 (x7 + 1)) x346000 bt368.2.1 bt368.2.2) else (none)))) else (spec_DrawSplitFields.l0 k x4 x5 (wrap64 (x6 + 1)) x346000 bt365.2.1 bt365.2.2))
end
def spec_DrawSplitFields.f (k : Nat) (l0 : List Int) : Option (ByteArray) := (spec_l01New.f k l0).bind fun bt342 => ((spec_l01Below.f bt342.1 bt342.2.1 bt342.2.2 9).bind fun bt346 => ((spec_l01Once.f bt342.1 bt346.2.1 bt346.2.2 15).bind fun bt349 => (if bt349.1 = true then ((spec_l01Below.f bt342.1 bt349.2.1 bt349.2.2 2).bind fun bt352 => (spec_DrawSplitFields.j0 k (wrap64 (24 + bt352.1)) bt342.1 bt352.2.1 bt352.2.2)) else (spec_DrawSplitFields.j0 k bt346.1 bt342.1 bt349.2.1 bt349.2.2))))
theorem spec_DrawSplitFields.mono_l : ∀ k, (∀ y0 y1 y2 y3, LeO (spec_DrawSplitFields.j0 k y0 y1 y2 y3) (spec_DrawSplitFields.j0 (k + 1) y0 y1 y2 y3)) ∧ (∀ y0 y1 y2 y3 y4 y5, LeO (spec_DrawSplitFields.l0 k y0 y1 y2 y3 y4 y5) (spec_DrawSplitFields.l0 (k + 1) y0 y1 y2 y3 y4 y5)) ∧ (∀ y0 y1 y2 y3 y4 y5 y6, LeO (spec_DrawSplitFields.j2 k y0 y1 y2 y3 y4 y5 y6) (spec_DrawSplitFields.j2 (k + 1) y0 y1 y2 y3 y4 y5 y6)) ∧ (∀ y0 y1 y2 y3 y4 y5, LeO (spec_DrawSplitFields.j3 k y0 y1 y2 y3 y4 y5) (spec_DrawSplitFields.j3 (k + 1) y0 y1 y2 y3 y4 y5)) ∧ (∀ y0 y1 y2 y3 y4 y5 y6, LeO (spec_DrawSplitFields.l1 k y0 y1 y2 y3 y4 y5 y6) (spec_DrawSplitFields.l1 (k + 1) y0 y1 y2 y3 y4 y5 y6))
 | 0 => ⟨fun _ _ _ _ r h => by simp [spec_DrawSplitFields.j0] at h, fun _ _ _ _ _ _ r h => by simp [spec_DrawSplitFields.l0] at h, fun _ _ _ _ _ _ _ r h => by simp [spec_DrawSplitFields.j2] at h, fun _ _ _ _ _ _ r h => by simp [spec_DrawSplitFields.j3] at h, fun _ _ _ _ _ _ _ r h => by simp [spec_DrawSplitFields.l1] at h⟩
 | k + 1 => by
  obtain ⟨ih0, ih1, ih2, ih3, ih4⟩ := spec_DrawSplitFields.mono_l k
  refine ⟨?_, ?_, ?_, ?_, ?_⟩
  ·intro y0 y1 y2 y3
   unfold spec_DrawSplitFields.j0
   repeat' first
   | (with_reducible exact ih0 _ _ _ _)
   | (with_reducible exact ih1 _ _ _ _ _ _)
   | (with_reducible exact ih2 _ _ _ _ _ _ _)
   | (with_reducible exact ih3 _ _ _ _ _ _)
   | (with_reducible exact ih4 _ _ _ _ _ _ _)
   | (with_reducible exact spec_l01Long.mono _ _ _)
   | (with_reducible exact spec_l01New.mono _ _)
   | (with_reducible exact LeO.refl _)
   | (with_reducible exact LeO.none _)
   | (with_reducible refine LeO.ite ?_ ?_)
   | (with_reducible refine LeO.bind ?_ (fun _ => ?_))
   | exact ih0 _ _ _ _
   | exact ih1 _ _ _ _ _ _
   | exact ih2 _ _ _ _ _ _ _
   | exact ih3 _ _ _ _ _ _
   | exact ih4 _ _ _ _ _ _ _
   | exact spec_l01Long.mono _ _ _
   | exact spec_l01New.mono _ _
   | exact LeO.none _
   | refine LeO.ite ?_ ?_
   | refine LeO.bind ?_ (fun _ => ?_)
  ·intro y0 y1 y2 y3 y4 y5
   unfold spec_DrawSplitFields.l0
   repeat' first
   | (with_reducible exact ih0 _ _ _ _)
   | (with_reducible exact ih1 _ _ _ _ _ _)
   | (with_reducible exact ih2 _ _ _ _ _ _ _)
   | (with_reducible exact ih3 _ _ _ _ _ _)
   | (with_reducible exact ih4 _ _ _ _ _ _ _)
   | (with_reducible exact spec_l01Long.mono _ _ _)
   | (with_reducible exact spec_l01New.mono _ _)
   | (with_reducible exact LeO.refl _)
   | (with_reducible exact LeO.none _)
   | (with_reducible refine LeO.ite ?_ ?_)
   | (with_reducible refine LeO.bind ?_ (fun _ => ?_))
   | exact ih0 _ _ _ _
   | exact ih1 _ _ _ _ _ _
   | exact ih2 _ _ _ _ _ _ _
   | exact ih3 _ _ _ _ _ _
   | exact ih4 _ _ _ _ _ _ _
   | exact spec_l01Long.mono _ _ _
   | exact spec_l01New.mono _ _
   | exact LeO.none _
   | refine LeO.ite ?_ ?_
   | refine LeO.bind ?_ (fun _ => ?_)
  ·intro y0 y1 y2 y3 y4 y5 y6
   unfold spec_DrawSplitFields.j2
   repeat' first
   | (with_reducible exact ih0 _ _ _ _)
   | (with_reducible exact ih1 _ _ _ _ _ _)
   | (with_reducible exact ih2 _ _ _ _ _ _ _)
   | (with_reducible exact ih3 _ _ _ _ _ _)
   | (with_reducible exact ih4 _ _ _ _ _ _ _)
   | (with_reducible exact spec_l01Long.mono _ _ _)
   | (with_reducible exact spec_l01New.mono _ _)
   | (with_reducible exact LeO.refl _)
   | (with_reducible exact LeO.none _)
   | (with_reducible refine LeO.ite ?_ ?_)
   | (with_reducible refine LeO.bind ?_ (fun _ => ?_))
   | exact ih0 _ _ _ _
   | exact ih1 _ _ _ _ _ _
   | exact ih2 _ _ _ _ _ _ _
   | exact ih3 _ _ _ _ _ _
   | exact ih4 _ _ _ _ _ _ _
   | exact spec_l01Long.mono _ _ _
   | exact spec_l01New.mono _ _
   | exact LeO.none _
   | refine LeO.ite ?_ ?_
   | refine LeO.bind ?_ (fun _ => ?_)
  ·intro y0 y1 y2 y3 y4 y5
   unfold spec_DrawSplitFields.j3
   repeat' first
   | (with_reducible exact ih0 _ _ _ _)
   | (with_reducible exact ih1 _ _ _ _ _ _)
   | (with_reducible exact ih2 _ _ _ _ _ _ _)
   | (with_reducible exact ih3 _ _ _ _ _ _)
   | (with_reducible exact ih4 _ _ _ _ _ _ _)
   | (with_reducible exact spec_l01Long.mono _ _ _)
   | (with_reducible exact spec_l01New.mono _ _)
   | (with_reducible exact LeO.refl _)
   | (with_reducible exact LeO.none _)
   | (with_reducible refine LeO.ite ?_ ?_)
   | (with_reducible refine LeO.bind ?_ (fun _ => ?_))
   | exact ih0 _ _ _ _
   | exact ih1 _ _ _ _ _ _
   | exact ih2 _ _ _ _ _ _ _
   | exact ih3 _ _ _ _ _ _
   | exact ih4 _ _ _ _ _ _ _
   | exact spec_l01Long.mono _ _ _
   | exact spec_l01New.mono _ _
   | exact LeO.none _
   | refine LeO.ite ?_ ?_
   | refine LeO.bind ?_ (fun _ => ?_)
  ·intro y0 y1 y2 y3 y4 y5 y6
   unfold spec_DrawSplitFields.l1
   repeat' first
   | (with_reducible exact ih0 _ _ _ _)
   | (with_reducible exact ih1 _ _ _ _ _ _)
   | (with_reducible exact ih2 _ _ _ _ _ _ _)
   | (with_reducible exact ih3 _ _ _ _ _ _)
   | (with_reducible exact ih4 _ _ _ _ _ _ _)
   | (with_reducible exact spec_l01Long.mono _ _ _)
   | (with_reducible exact spec_l01New.mono _ _)
   | (with_reducible exact LeO.refl _)
   | (with_reducible exact LeO.none _)
   | (with_reducible refine LeO.ite ?_ ?_)
   | (with_reducible refine LeO.bind ?_ (fun _ => ?_))
   | exact ih0 _ _ _ _
   | exact ih1 _ _ _ _ _ _
   | exact ih2 _ _ _ _ _ _ _
   | exact ih3 _ _ _ _ _ _
   | exact ih4 _ _ _ _ _ _ _
   | exact spec_l01Long.mono _ _ _
   | exact spec_l01New.mono _ _
   | exact LeO.none _
   | refine LeO.ite ?_ ?_
   | refine LeO.bind ?_ (fun _ => ?_)
theorem spec_DrawSplitFields.mono : ∀ a0 k, LeO (spec_DrawSplitFields.f k a0) (spec_DrawSplitFields.f (k + 1) a0) := by
 intro a0 k
 obtain ⟨ih0, ih1, ih2, ih3, ih4⟩ := spec_DrawSplitFields.mono_l k
 unfold spec_DrawSplitFields.f
 repeat' first
   | (with_reducible exact ih0 _ _ _ _)
   | (with_reducible exact ih1 _ _ _ _ _ _)
   | (with_reducible exact ih2 _ _ _ _ _ _ _)
   | (with_reducible exact ih3 _ _ _ _ _ _)
   | (with_reducible exact ih4 _ _ _ _ _ _ _)
   | (with_reducible exact spec_l01Long.mono _ _ _)
   | (with_reducible exact spec_l01New.mono _ _)
   | (with_reducible exact LeO.refl _)
   | (with_reducible exact LeO.none _)
   | (with_reducible refine LeO.ite ?_ ?_)
   | (with_reducible refine LeO.bind ?_ (fun _ => ?_))
   | exact ih0 _ _ _ _
   | exact ih1 _ _ _ _ _ _
   | exact ih2 _ _ _ _ _ _ _
   | exact ih3 _ _ _ _ _ _
   | exact ih4 _ _ _ _ _ _ _
   | exact spec_l01Long.mono _ _ _
   | exact spec_l01New.mono _ _
   | exact LeO.none _
   | refine LeO.ite ?_ ?_
   | refine LeO.bind ?_ (fun _ => ?_)
set_option maxHeartbeats 8000000 in
set_option maxRecDepth 100000 in
theorem spec_DrawSplitFields.calls (k : Nat) (A0 : Option Addr) (c0 : Nat) (l0 : List Int) (r : ByteArray) (w : World) (hr0 : Kd.C (Kd.int .u8) w A0 l0.length l0) (hc0 : l0.length ≤ c0) (h : spec_DrawSplitFields.f k l0 = some r) :
  Calls Tryd.prog 26 #[.slice A0 l0.length c0] w fun e w' => e = .returned (.string r) ∧ Below w.heap.size w w' := by
 have HR0 := Aside0.mk hr0
 have HC0 := Aside0.mk hc0
 clear hr0 hc0
 have HB := Aside0.mk (Below.refl w.heap.size w)
 have H : ((spec_l01New.f k l0).bind fun bt342 => ((spec_l01Below.f bt342.1 bt342.2.1 bt342.2.2 9).bind fun bt346 => ((spec_l01Once.f bt342.1 bt346.2.1 bt346.2.2 15).bind fun bt349 => (if bt349.1 = true then ((spec_l01Below.f bt342.1 bt349.2.1 bt349.2.2 2).bind fun bt352 => (spec_DrawSplitFields.j0 k (wrap64 (24 + bt352.1)) bt342.1 bt352.2.1 bt352.2.2)) else (spec_DrawSplitFields.j0 k bt346.1 bt342.1 bt349.2.1 bt349.2.2))))) = some r := h
 clear h
 replace H := Option.bind_eq_some_iff.mp H
 obtain ⟨⟨t342, t343, t344⟩, A20, H⟩ := H
 replace H : ((spec_l01Below.f t342 t343 t344 9).bind fun bt346 => ((spec_l01Once.f t342 bt346.2.1 bt346.2.2 15).bind fun bt349 => (if bt349.1 = true then ((spec_l01Below.f t342 bt349.2.1 bt349.2.2 2).bind fun bt352 => (spec_DrawSplitFields.j0 k (wrap64 (24 + bt352.1)) t342 bt352.2.1 bt352.2.2)) else (spec_DrawSplitFields.j0 k bt346.1 t342 bt349.2.1 bt349.2.2)))) = some r := H
 have A2 := Aside0.mk A20
 clear A20
 replace H := Option.bind_eq_some_iff.mp H
 obtain ⟨⟨t346, t347, t348⟩, A30, H⟩ := H
 replace H : ((spec_l01Once.f t342 t347 t348 15).bind fun bt349 => (if bt349.1 = true then ((spec_l01Below.f t342 bt349.2.1 bt349.2.2 2).bind fun bt352 => (spec_DrawSplitFields.j0 k (wrap64 (24 + bt352.1)) t342 bt352.2.1 bt352.2.2)) else (spec_DrawSplitFields.j0 k t346 t342 bt349.2.1 bt349.2.2))) = some r := H
 have A3 := Aside0.mk A30
 clear A30
 replace H := Option.bind_eq_some_iff.mp H
 obtain ⟨⟨t349, t350, t351⟩, A40, H⟩ := H
 replace H : (if t349 = true then ((spec_l01Below.f t342 t350 t351 2).bind fun bt352 => (spec_DrawSplitFields.j0 k (wrap64 (24 + bt352.1)) t342 bt352.2.1 bt352.2.2)) else (spec_DrawSplitFields.j0 k t346 t342 t350 t351)) = some r := H
 have A4 := Aside0.mk A40
 clear A40
 have HC5 := Aside0.mk H
 clear H
 go_enter Tryd.func26, Tryd.ntmps26
 go_upto_if 13 with (first | ((with_reducible refine gate_callee (f := 43) rfl ?_); refine goesL_ (some 9) rfl rfl Tryd.func43 (by kernel_rfl) rfl #[.slice A0 l0.length c0] rfl mp_ ?_; (with_reducible refine (spec_l01New.calls k _ _ l0 t342 t343 t344 w _ ?side1 ?side2 ?side3 A2.out).mono ?_); (case side1 => repeat (first | (with_reducible first | exact HB.out | apply below_alloc | apply pw_below_drewN | apply below_drew1) | exact HB.out)); (case side2 => exact HR0.out); (case side3 => exact HC0.out); rintro e w6 ⟨g345, rfl, hi, hb, hb2⟩; refine ⟨_, rfl, ?_⟩; have n0_ := Aside0.mk (hb); have n1_ := Aside0.mk (hi); clear HB; have HB := n0_; have HI345 := n1_; clear n0_ n1_; (try clear hb); (try clear hb2); (try clear hk); (try clear hi)) | ((with_reducible refine gate_callee (f := 45) rfl ?_); refine goesL_ (some 11) rfl rfl Tryd.func45 (by kernel_rfl) rfl #[.pointer (some ⟨g345, 0, none⟩), .int .i64 9] rfl mp_ ?_; (with_reducible refine (spec_l01Below.calls g345 t342 t343 t344 9 t346 t347 t348 w _ ?side1 ?side2 A3.out).mono ?_); (case side1 => repeat (first | (with_reducible first | exact HI345.out | apply IsS86.alloc | apply IsS86.drewN | apply IsS86.drew | apply IsS86.set_1 | apply IsS86.set_2) | exact HI345.out)); (case side2 => repeat (first | (with_reducible first | exact HB.out | apply below_alloc | apply pw_below_drewN | apply below_drew1 | refine below_set ?_ (IsS86.ge HI345.out)) | exact HB.out)); rintro e w7 ⟨rfl, hi, hb, hk⟩; refine ⟨_, rfl, ?_⟩; have n0_ := Aside0.mk (hb); have n1_ := Aside0.mk (hi); clear HB; clear HI345; have HB := n0_; have HI345 := n1_; clear n0_ n1_; (try clear hb); (try clear hb2); (try clear hk); (try clear hi)) | ((with_reducible refine gate_callee (f := 44) rfl ?_); refine goesL_ (some 13) rfl rfl Tryd.func44 (by kernel_rfl) rfl #[.pointer (some ⟨g345, 0, none⟩), .int .i64 15] rfl mp_ ?_; (with_reducible refine (spec_l01Once.calls g345 t342 t347 t348 15 t349 t350 t351 w _ ?side1 ?side2 A4.out).mono ?_); (case side1 => repeat (first | (with_reducible first | exact HI345.out | apply IsS86.alloc | apply IsS86.drewN | apply IsS86.drew | apply IsS86.set_1 | apply IsS86.set_2) | exact HI345.out)); (case side2 => repeat (first | (with_reducible first | exact HB.out | apply below_alloc | apply pw_below_drewN | apply below_drew1 | refine below_set ?_ (IsS86.ge HI345.out)) | exact HB.out)); rintro e w8 ⟨rfl, hi, hb, hk⟩; refine ⟨_, rfl, ?_⟩; have n0_ := Aside0.mk (hb); have n1_ := Aside0.mk (hi); clear HB; clear HI345; have HB := n0_; have HI345 := n1_; clear n0_ n1_; (try clear hb); (try clear hb2); (try clear hk); (try clear hi)))
 (try simp only [Act.put, List.setIfInBounds_toArray, List.set_cons_zero, List.set_cons_succ])
 go_cut [4] (fun v4 wc => ∃ (kq : Nat) (x4_4 : Int) (x346001_4 : Int) (x346002_4 : Int), v4 = .int .i64 x4_4 ∧ Aside0 (spec_DrawSplitFields.j0 kq x4_4 t342 x346001_4 x346002_4 = some r) ∧ Aside0 (kq ≤ k) ∧ Aside0 (IsS86 w wc g345 t342 x346001_4 x346002_4) ∧ Aside0 (Below w.heap.size w wc))
 case first =>
  have H := HC5.out
  clear HC5
  by_cases c9 : t349 = true
  ·subst c9
   have H1 : ((spec_l01Below.f t342 t350 t351 2).bind fun bt352 => (spec_DrawSplitFields.j0 k (wrap64 (24 + bt352.1)) t342 bt352.2.1 bt352.2.2)) = some r := by rw [if_pos rfl] at H; exact H
   clear H
   have H := H1
   clear H1
   replace H := Option.bind_eq_some_iff.mp H
   obtain ⟨⟨t352, t353, t354⟩, A100, H⟩ := H
   replace H : (spec_DrawSplitFields.j0 k (wrap64 (24 + t352)) t342 t353 t354) = some r := H
   have A10 := Aside0.mk A100
   clear A100
   have H' := Aside0.mk H
   clear H
   go_wp2_with (first | ((with_reducible refine gate_callee (f := 45) rfl ?_); refine goesL_ (some 15) rfl rfl Tryd.func45 (by kernel_rfl) rfl #[.pointer (some ⟨g345, 0, none⟩), .int .i64 2] rfl mp_ ?_; (with_reducible refine (spec_l01Below.calls g345 t342 t350 t351 2 t352 t353 t354 w _ ?side1 ?side2 A10.out).mono ?_); (case side1 => repeat (first | (with_reducible first | exact HI345.out | apply IsS86.alloc | apply IsS86.drewN | apply IsS86.drew | apply IsS86.set_1 | apply IsS86.set_2) | exact HI345.out)); (case side2 => repeat (first | (with_reducible first | exact HB.out | apply below_alloc | apply pw_below_drewN | apply below_drew1 | refine below_set ?_ (IsS86.ge HI345.out)) | exact HB.out)); rintro e w11 ⟨rfl, hi, hb, hk⟩; refine ⟨_, rfl, ?_⟩; have n0_ := Aside0.mk (hb); have n1_ := Aside0.mk (hi); clear HB; clear HI345; have HB := n0_; have HI345 := n1_; clear n0_ n1_; (try clear hb); (try clear hb2); (try clear hk); (try clear hi)))
   go_meet
   case rel => exact ⟨_, (wrap64 (24 + t352)), (t353), (t354), (by first | rfl | (simp; done) | (simp [*]; done)), H', ⟨by first | omega | exact Nat.le_refl _⟩, ⟨by repeat (first | (with_reducible first | exact HI345.out | apply IsS86.alloc | apply IsS86.drewN | apply IsS86.drew | apply IsS86.set_1 | apply IsS86.set_2) | exact HI345.out)⟩, ⟨by repeat (first | (with_reducible first | exact HB.out | apply below_alloc | apply pw_below_drewN | apply below_drew1 | refine below_set ?_ (IsS86.ge HI345.out)) | exact HB.out)⟩⟩
  ·replace c9 := Bool.eq_false_iff.mpr c9
   subst c9
   have H1 : (spec_DrawSplitFields.j0 k t346 t342 t350 t351) = some r := by rw [if_neg (show ¬ (false = true) by decide)] at H; exact H
   clear H
   have H := H1
   clear H1
   have H' := Aside0.mk H
   clear H
   go_wp2
   go_meet
   case rel => exact ⟨_, (t346), (t350), (t351), (by first | rfl | (simp; done) | (simp [*]; done)), H', ⟨by first | omega | exact Nat.le_refl _⟩, ⟨by repeat (first | (with_reducible first | exact HI345.out | apply IsS86.alloc | apply IsS86.drewN | apply IsS86.drew | apply IsS86.set_1 | apply IsS86.set_2) | exact HI345.out)⟩, ⟨by repeat (first | (with_reducible first | exact HB.out | apply below_alloc | apply pw_below_drewN | apply below_drew1 | refine below_set ?_ (IsS86.ge HI345.out)) | exact HB.out)⟩⟩
 case rest =>
  clear HC5
  try clear c2
  try clear p2
  try clear c4
  try clear p6
  try clear c9
  obtain ⟨kq, x4_4, x346001_4, x346002_4, rfl, HA, HJ4, HI345, HB⟩ := hcut
  cases kq with
  | zero => exact absurd HA.out (by simp [spec_DrawSplitFields.j0])
  | succ kj4 =>
   have H := HA.out
   clear HA
   simp only [spec_DrawSplitFields.j0] at H
   have H' := Aside0.mk H
   clear H
   go_wp2
   go_loopg [5, 6] kj4 (fun kq v5 v6 w' => ∃ (x5_2 : ByteArray) (x6_2 : Int) (x346001_2 : Int) (x346002_2 : Int), v5 = .string x5_2 ∧ v6 = .int .i64 x6_2 ∧ Aside0 (spec_DrawSplitFields.l0 kq x4_4 x5_2 x6_2 t342 x346001_2 x346002_2 = some r) ∧ Aside0 (kq ≤ kj4) ∧ Aside0 (IsS86 w w' g345 t342 x346001_2 x346002_2) ∧ Aside0 (Below w.heap.size w w'))
   case atStart => exact ⟨((⟨#[]⟩ : ByteArray)), (0), (x346001_4), (x346002_4), (by first | rfl | (simp; done) | (simp [*]; done)), (by first | rfl | (simp; done) | (simp [*]; done)), H', ⟨Nat.le_refl _⟩, ⟨by repeat (first | (with_reducible first | exact HI345.out | apply IsS86.alloc | apply IsS86.drewN | apply IsS86.drew | apply IsS86.set_1 | apply IsS86.set_2) | exact HI345.out)⟩, ⟨by repeat (first | (with_reducible first | exact HB.out | apply below_alloc | apply pw_below_drewN | apply below_drew1 | refine below_set ?_ (IsS86.ge HI345.out)) | exact HB.out)⟩⟩
   case round =>
    clear H'
    try clear c2
    try clear p2
    try clear c4
    try clear p6
    try clear c9
    try clear p2
    try clear p6
    obtain ⟨x5_2, x6_2, x346001_2, x346002_2, rfl, rfl, HA, HK2, HI345, HB⟩ := hrel
    cases gk with
    | zero => exact absurd HA.out (by simp [spec_DrawSplitFields.l0])
    | succ k2 =>
     have H := HA.out
     clear HA
     simp only [spec_DrawSplitFields.l0] at H
     by_cases c12 : x6_2 < x4_4
     ·rw [if_pos c12] at H
      have c12b0 : decide (x6_2 < x4_4) = true := decide_eq_true c12
      clear c12
      have HC13 := Aside0.mk H
      clear H
      go_upto_region 9 with (fail)
      go_cut [27] (fun v27 wc => ∃ (kq : Nat) (x27_12 : Bool) (x346001_12 : Int) (x346002_12 : Int), v27 = .bool x27_12 ∧ Aside0 (spec_DrawSplitFields.j2 kq x4_4 x5_2 x6_2 x27_12 t342 x346001_12 x346002_12 = some r) ∧ Aside0 (kq ≤ k2) ∧ Aside0 (IsS86 w wc g345 t342 x346001_12 x346002_12) ∧ Aside0 (Below w.heap.size w wc))
      case first =>
       have H := HC13.out
       clear HC13
       by_cases c14 : x6_2 > 0
       ·rw [if_pos c14] at H
        have c14b0 : decide (0 < x6_2) = true := decide_eq_true c14
        clear c14
        (first | rw [c14b0] | (simp only [i64_w, i32_w]; rw [c14b0]) | skip)
        have H' := Aside0.mk H
        clear H
        go_wp2
        go_meet
        case rel => exact ⟨_, (true), (x346001_2), (x346002_2), (by first | rfl | (simp; done) | (simp [*]; done)), H', ⟨by have := HJ4.out; have := HK2.out; first | omega | exact Nat.le_refl _⟩, ⟨by repeat (first | (with_reducible first | exact HI345.out | apply IsS86.alloc | apply IsS86.drewN | apply IsS86.drew | apply IsS86.set_1 | apply IsS86.set_2) | exact HI345.out)⟩, ⟨by repeat (first | (with_reducible first | exact HB.out | apply below_alloc | apply pw_below_drewN | apply below_drew1 | refine below_set ?_ (IsS86.ge HI345.out)) | exact HB.out)⟩⟩
       ·rw [if_neg c14] at H
        have c14b0 : decide (0 < x6_2) = false := decide_eq_false c14
        clear c14
        (first | rw [c14b0] | (simp only [i64_w, i32_w]; rw [c14b0]) | skip)
        replace H := Option.bind_eq_some_iff.mp H
        obtain ⟨⟨t355, t356, t357⟩, A150, H⟩ := H
        replace H : (spec_DrawSplitFields.j2 k2 x4_4 x5_2 x6_2 t355 t342 t356 t357) = some r := H
        have A15 := Aside0.mk A150
        clear A150
        have H' := Aside0.mk H
        clear H
        go_wp2_with (first | (go_at_call 44; (with_reducible refine (spec_l01Once.calls g345 t342 x346001_2 x346002_2 5 t355 t356 t357 w _ ?side1 ?side2 A15.out).mono ?_); (case side1 => repeat (first | (with_reducible first | exact HI345.out | apply IsS86.alloc | apply IsS86.drewN | apply IsS86.drew | apply IsS86.set_1 | apply IsS86.set_2) | exact HI345.out)); (case side2 => repeat (first | (with_reducible first | exact HB.out | apply below_alloc | apply pw_below_drewN | apply below_drew1 | refine below_set ?_ (IsS86.ge HI345.out)) | exact HB.out)); rintro e w16 ⟨rfl, hi, hb, hk⟩; have n0_ := Aside0.mk (hb); have n1_ := Aside0.mk (hi); clear HB; clear HI345; have HB := n0_; have HI345 := n1_; clear n0_ n1_; (try clear hb); (try clear hb2); (try clear hk); (try clear hi)))
        go_meet
        case rel => exact ⟨_, (t355), (t356), (t357), (by first | rfl | (simp; done) | (simp [*]; done)), H', ⟨by have := HJ4.out; have := HK2.out; first | omega | exact Nat.le_refl _⟩, ⟨by repeat (first | (with_reducible first | exact HI345.out | apply IsS86.alloc | apply IsS86.drewN | apply IsS86.drew | apply IsS86.set_1 | apply IsS86.set_2) | exact HI345.out)⟩, ⟨by repeat (first | (with_reducible first | exact HB.out | apply below_alloc | apply pw_below_drewN | apply below_drew1 | refine below_set ?_ (IsS86.ge HI345.out)) | exact HB.out)⟩⟩
      case rest =>
       clear HC13
       try clear c1
       try clear c2
       try clear p2
       try clear c4
       try clear p6
       try clear c9
       try clear c12
       try clear c12b0
       try clear c14
       try clear c14b0
       try clear p2
       try clear p6
       obtain ⟨kq, x27_12, x346001_12, x346002_12, rfl, HA, HJ12, HI345, HB⟩ := hcut
       cases kq with
       | zero => exact absurd HA.out (by simp [spec_DrawSplitFields.j2])
       | succ kj12 =>
        have H := HA.out
        clear HA
        simp only [spec_DrawSplitFields.j2] at H
        have HC17 := Aside0.mk H
        clear H
        go_upto_if 27 with (fail)
        go_cut [5] (fun v5 wc => ∃ (kq : Nat) (x5_16 : ByteArray) (x346001_16 : Int) (x346002_16 : Int), v5 = .string x5_16 ∧ Aside0 (spec_DrawSplitFields.j3 kq x4_4 x5_16 x6_2 t342 x346001_16 x346002_16 = some r) ∧ Aside0 (kq ≤ kj12) ∧ Aside0 (IsS86 w wc g345 t342 x346001_16 x346002_16) ∧ Aside0 (Below w.heap.size w wc))
        case first =>
         have H := HC17.out
         clear HC17
         by_cases c18 : x27_12 = true
         ·subst c18
          have H1 : ((spec_l01Below.f t342 x346001_12 x346002_12 2).bind fun bt358 => ((spec_l01Below.f t342 bt358.2.1 bt358.2.2 3).bind fun bt361 => ((spec_l01Long.f kj12 (wrap64 (1 + (wrap64 (bt358.1 * bt361.1)))) 32).bind fun t364 => (if x5_2.size + t364.size ≤ 9223372036854775807 then (spec_DrawSplitFields.j3 kj12 x4_4 (x5_2 ++ t364) x6_2 t342 bt361.2.1 bt361.2.2) else (none))))) = some r := by rw [if_pos rfl] at H; exact H
          clear H
          have H := H1
          clear H1
          replace H := Option.bind_eq_some_iff.mp H
          obtain ⟨⟨t358, t359, t360⟩, A190, H⟩ := H
          replace H : ((spec_l01Below.f t342 t359 t360 3).bind fun bt361 => ((spec_l01Long.f kj12 (wrap64 (1 + (wrap64 (t358 * bt361.1)))) 32).bind fun t364 => (if x5_2.size + t364.size ≤ 9223372036854775807 then (spec_DrawSplitFields.j3 kj12 x4_4 (x5_2 ++ t364) x6_2 t342 bt361.2.1 bt361.2.2) else (none)))) = some r := H
          have A19 := Aside0.mk A190
          clear A190
          replace H := Option.bind_eq_some_iff.mp H
          obtain ⟨⟨t361, t362, t363⟩, A200, H⟩ := H
          replace H : ((spec_l01Long.f kj12 (wrap64 (1 + (wrap64 (t358 * t361)))) 32).bind fun t364 => (if x5_2.size + t364.size ≤ 9223372036854775807 then (spec_DrawSplitFields.j3 kj12 x4_4 (x5_2 ++ t364) x6_2 t342 t362 t363) else (none))) = some r := H
          have A20 := Aside0.mk A200
          clear A200
          replace H := Option.bind_eq_some_iff.mp H
          obtain ⟨t364, A210, H⟩ := H
          replace H : (if x5_2.size + t364.size ≤ 9223372036854775807 then (spec_DrawSplitFields.j3 kj12 x4_4 (x5_2 ++ t364) x6_2 t342 t362 t363) else (none)) = some r := H
          have A21 := Aside0.mk A210
          clear A210
          by_cases c22 : x5_2.size + t364.size ≤ 9223372036854775807
          ·rw [if_pos c22] at H
           have c22b0 := eq_true c22
           have c22b1 : decide (x5_2.size + t364.size ≤ 9223372036854775807) = true := decide_eq_true c22
           try have c22b2 : (9223372036854775807 < x5_2.size + t364.size) = False := eq_false (Nat.not_lt.2 c22)
           have H' := Aside0.mk H
           clear H
           go_wp2_with (first | ((with_reducible refine gate_callee (f := 45) rfl ?_); refine goesL_ (some 30) rfl rfl Tryd.func45 (by kernel_rfl) rfl #[.pointer (some ⟨g345, 0, none⟩), .int .i64 2] rfl mp_ ?_; (with_reducible refine (spec_l01Below.calls g345 t342 x346001_12 x346002_12 2 t358 t359 t360 w _ ?side1 ?side2 A19.out).mono ?_); (case side1 => repeat (first | (with_reducible first | exact HI345.out | apply IsS86.alloc | apply IsS86.drewN | apply IsS86.drew | apply IsS86.set_1 | apply IsS86.set_2) | exact HI345.out)); (case side2 => repeat (first | (with_reducible first | exact HB.out | apply below_alloc | apply pw_below_drewN | apply below_drew1 | refine below_set ?_ (IsS86.ge HI345.out)) | exact HB.out)); rintro e w23 ⟨rfl, hi, hb, hk⟩; refine ⟨_, rfl, ?_⟩; have n0_ := Aside0.mk (hb); have n1_ := Aside0.mk (hi); clear HB; clear HI345; have HB := n0_; have HI345 := n1_; clear n0_ n1_; (try clear hb); (try clear hb2); (try clear hk); (try clear hi)) | ((with_reducible refine gate_callee (f := 45) rfl ?_); refine goesL_ (some 32) rfl rfl Tryd.func45 (by kernel_rfl) rfl #[.pointer (some ⟨g345, 0, none⟩), .int .i64 3] rfl mp_ ?_; (with_reducible refine (spec_l01Below.calls g345 t342 t359 t360 3 t361 t362 t363 w _ ?side1 ?side2 A20.out).mono ?_); (case side1 => repeat (first | (with_reducible first | exact HI345.out | apply IsS86.alloc | apply IsS86.drewN | apply IsS86.drew | apply IsS86.set_1 | apply IsS86.set_2) | exact HI345.out)); (case side2 => repeat (first | (with_reducible first | exact HB.out | apply below_alloc | apply pw_below_drewN | apply below_drew1 | refine below_set ?_ (IsS86.ge HI345.out)) | exact HB.out)); rintro e w24 ⟨rfl, hi, hb, hk⟩; refine ⟨_, rfl, ?_⟩; have n0_ := Aside0.mk (hb); have n1_ := Aside0.mk (hi); clear HB; clear HI345; have HB := n0_; have HI345 := n1_; clear n0_ n1_; (try clear hb); (try clear hb2); (try clear hk); (try clear hi)) | ((with_reducible refine gate_callee (f := 47) rfl ?_); refine goesL_ (some 35) rfl rfl Tryd.func47 (by kernel_rfl) rfl #[.int .i64 (wrap64 (1 + (wrap64 (t358 * t361)))), .int .u8 32] rfl mp_ ?_; (with_reducible refine (spec_l01Long.calls kj12 (wrap64 (1 + (wrap64 (t358 * t361)))) 32 t364 _ A21.out).mono ?_); rintro e w25 ⟨rfl, hb⟩; refine ⟨_, rfl, ?_⟩; have n0_ := Aside0.mk (IsS86.below (by repeat (first | (with_reducible first | exact HI345.out | apply IsS86.alloc | apply IsS86.drewN | apply IsS86.drew | apply IsS86.set_1 | apply IsS86.set_2) | exact HI345.out)) hb); have n1_ := Aside0.mk (below_step (by repeat (first | (with_reducible first | exact HB.out | apply below_alloc | apply pw_below_drewN | apply below_drew1 | refine below_set ?_ (IsS86.ge HI345.out)) | exact HB.out)) hb); clear HI345; clear HB; have HI345 := n0_; have HB := n1_; clear n0_ n1_; (try clear hb); (try clear hb2); (try clear hk); (try clear hi)))
           go_meet
           case rel => exact ⟨_, (x5_2 ++ t364), (t362), (t363), (by first | rfl | (simp; done) | (simp [*]; done)), H', ⟨by have := HJ4.out; have := HK2.out; have := HJ12.out; first | omega | exact Nat.le_refl _⟩, ⟨by repeat (first | (with_reducible first | exact HI345.out | apply IsS86.alloc | apply IsS86.drewN | apply IsS86.drew | apply IsS86.set_1 | apply IsS86.set_2) | exact HI345.out)⟩, ⟨by repeat (first | (with_reducible first | exact HB.out | apply below_alloc | apply pw_below_drewN | apply below_drew1 | refine below_set ?_ (IsS86.ge HI345.out)) | exact HB.out)⟩⟩
          ·rw [if_neg c22] at H
           exact absurd H (by simp)
         ·replace c18 := Bool.eq_false_iff.mpr c18
          subst c18
          have H1 : (spec_DrawSplitFields.j3 kj12 x4_4 x5_2 x6_2 t342 x346001_12 x346002_12) = some r := by rw [if_neg (show ¬ (false = true) by decide)] at H; exact H
          clear H
          have H := H1
          clear H1
          have H' := Aside0.mk H
          clear H
          go_wp2
          go_meet
          case rel => exact ⟨_, (x5_2), (x346001_12), (x346002_12), (by first | rfl | (simp; done) | (simp [*]; done)), H', ⟨by have := HJ4.out; have := HK2.out; have := HJ12.out; first | omega | exact Nat.le_refl _⟩, ⟨by repeat (first | (with_reducible first | exact HI345.out | apply IsS86.alloc | apply IsS86.drewN | apply IsS86.drew | apply IsS86.set_1 | apply IsS86.set_2) | exact HI345.out)⟩, ⟨by repeat (first | (with_reducible first | exact HB.out | apply below_alloc | apply pw_below_drewN | apply below_drew1 | refine below_set ?_ (IsS86.ge HI345.out)) | exact HB.out)⟩⟩
        case rest =>
         clear HC17
         try clear c1
         try clear c2
         try clear p2
         try clear c4
         try clear p6
         try clear c9
         try clear c12
         try clear c12b0
         try clear c14
         try clear c14b0
         try clear c18
         try clear c22
         try clear c22b0
         try clear c22b1
         try clear c22b2
         try clear p2
         try clear p6
         obtain ⟨kq, x5_16, x346001_16, x346002_16, rfl, HA, HJ16, HI345, HB⟩ := hcut
         cases kq with
         | zero => exact absurd HA.out (by simp [spec_DrawSplitFields.j3])
         | succ kj16 =>
          have H := HA.out
          clear HA
          simp only [spec_DrawSplitFields.j3] at H
          have H' := Aside0.mk H
          clear H
          go_wp2
          go_loopg [5, 7] kj16 (fun kq v5 v7 w' => ∃ (x5_5 : ByteArray) (x7_5 : Int) (x346001_5 : Int) (x346002_5 : Int), v5 = .string x5_5 ∧ v7 = .int .i64 x7_5 ∧ Aside0 (spec_DrawSplitFields.l1 kq x4_4 x5_5 x6_2 x7_5 t342 x346001_5 x346002_5 = some r) ∧ Aside0 (kq ≤ kj16) ∧ Aside0 (IsS86 w w' g345 t342 x346001_5 x346002_5) ∧ Aside0 (Below w.heap.size w w'))
          case atStart => exact ⟨(x5_16), (0), (x346001_16), (x346002_16), (by first | rfl | (simp; done) | (simp [*]; done)), (by first | rfl | (simp; done) | (simp [*]; done)), H', ⟨Nat.le_refl _⟩, ⟨by repeat (first | (with_reducible first | exact HI345.out | apply IsS86.alloc | apply IsS86.drewN | apply IsS86.drew | apply IsS86.set_1 | apply IsS86.set_2) | exact HI345.out)⟩, ⟨by repeat (first | (with_reducible first | exact HB.out | apply below_alloc | apply pw_below_drewN | apply below_drew1 | refine below_set ?_ (IsS86.ge HI345.out)) | exact HB.out)⟩⟩
          case round =>
           clear H'
           try clear c1
           try clear c2
           try clear p2
           try clear c4
           try clear p6
           try clear c9
           try clear c12
           try clear c12b0
           try clear c14
           try clear c14b0
           try clear c18
           try clear c22
           try clear c22b0
           try clear c22b1
           try clear c22b2
           try clear p2
           try clear p6
           obtain ⟨x5_5, x7_5, x346001_5, x346002_5, rfl, rfl, HA, HK5, HI345, HB⟩ := hrel
           cases gk with
           | zero => exact absurd HA.out (by simp [spec_DrawSplitFields.l1])
           | succ k5 =>
            have H := HA.out
            clear HA
            simp only [spec_DrawSplitFields.l1] at H
            replace H := Option.bind_eq_some_iff.mp H
            obtain ⟨⟨t365, t366, t367⟩, A260, H⟩ := H
            replace H : (if x7_5 ≤ t365 then ((spec_l01Below.f t342 t366 t367 94).bind fun bt368 => ((some (([(wrap64 (33 + bt368.1)) % 256] : List Int) : List Int)).bind fun y371 => (if x5_5.size + (strOfNums y371).size ≤ 9223372036854775807 then (spec_DrawSplitFields.l1 k5 x4_4 (x5_5 ++ (strOfNums y371)) x6_2 (wrap64 (x7_5 + 1)) t342 bt368.2.1 bt368.2.2) else (none)))) else (spec_DrawSplitFields.l0 k5 x4_4 x5_5 (wrap64 (x6_2 + 1)) t342 t366 t367)) = some r := H
            have A26 := Aside0.mk A260
            clear A260
            by_cases c27 : x7_5 ≤ t365
            ·rw [if_pos c27] at H
             have c27b0 : decide (x7_5 ≤ t365) = true := decide_eq_true c27
             clear c27
             replace H := Option.bind_eq_some_iff.mp H
             obtain ⟨⟨t368, t369, t370⟩, A280, H⟩ := H
             replace H : ((some (([(wrap64 (33 + t368)) % 256] : List Int) : List Int)).bind fun y371 => (if x5_5.size + (strOfNums y371).size ≤ 9223372036854775807 then (spec_DrawSplitFields.l1 k5 x4_4 (x5_5 ++ (strOfNums y371)) x6_2 (wrap64 (x7_5 + 1)) t342 t369 t370) else (none))) = some r := H
             have A28 := Aside0.mk A280
             clear A280
             obtain ⟨y371, hy371⟩ : ∃ y_ : List Int, y_ = (([(wrap64 (33 + t368)) % 256] : List Int)) := ⟨_, rfl⟩
             replace H : (if x5_5.size + (strOfNums y371).size ≤ 9223372036854775807 then (spec_DrawSplitFields.l1 k5 x4_4 (x5_5 ++ (strOfNums y371)) x6_2 (wrap64 (x7_5 + 1)) t342 t369 t370) else (none)) = some r := by first | (rw [hy371]; with_reducible exact H) | (have H2_ := (Option.bind_some _ _).symm.trans H; rw [hy371]; with_reducible exact H2_) | (have H2_ := (Option.bind_some _ _).symm.trans H; with_reducible exact H2_) | with_reducible exact H | (rw [hy371]; exact H) | exact H
             have Ny371 := Aside0.mk hy371
             clear hy371
             by_cases c29 : x5_5.size + (strOfNums y371).size ≤ 9223372036854775807
             ·rw [if_pos c29] at H
              have c29b0 := eq_true c29
              have c29b1 : decide (x5_5.size + (strOfNums y371).size ≤ 9223372036854775807) = true := decide_eq_true c29
              try have c29b2 : (9223372036854775807 < x5_5.size + (strOfNums y371).size) = False := eq_false (Nat.not_lt.2 c29)
              have H' := Aside0.mk H
              clear H
              go_wp2_with (first | ((with_reducible refine gate_callee (f := 45) rfl ?_); refine goesL_ (some 39) rfl rfl Tryd.func45 (by kernel_rfl) rfl #[.pointer (some ⟨g345, 0, none⟩), .int .i64 5] rfl mp_ ?_; (with_reducible refine (spec_l01Below.calls g345 t342 x346001_5 x346002_5 5 t365 t366 t367 w _ ?side1 ?side2 A26.out).mono ?_); (case side1 => repeat (first | (with_reducible first | exact HI345.out | apply IsS86.alloc | apply IsS86.drewN | apply IsS86.drew | apply IsS86.set_1 | apply IsS86.set_2) | exact HI345.out)); (case side2 => repeat (first | (with_reducible first | exact HB.out | apply below_alloc | apply pw_below_drewN | apply below_drew1 | refine below_set ?_ (IsS86.ge HI345.out)) | exact HB.out)); rintro e w30 ⟨rfl, hi, hb, hk⟩; refine ⟨_, rfl, ?_⟩; have n0_ := Aside0.mk (hb); have n1_ := Aside0.mk (hi); clear HB; clear HI345; have HB := n0_; have HI345 := n1_; clear n0_ n1_; (try clear hb); (try clear hb2); (try clear hk); (try clear hi)) | ((with_reducible refine gate_callee (f := 45) rfl ?_); refine goesL_ (some 45) rfl rfl Tryd.func45 (by kernel_rfl) rfl #[.pointer (some ⟨g345, 0, none⟩), .int .i64 94] rfl mp_ ?_; (with_reducible refine (spec_l01Below.calls g345 t342 t366 t367 94 t368 t369 t370 w _ ?side1 ?side2 A28.out).mono ?_); (case side1 => repeat (first | (with_reducible first | exact HI345.out | apply IsS86.alloc | apply IsS86.drewN | apply IsS86.drew | apply IsS86.set_1 | apply IsS86.set_2) | exact HI345.out)); (case side2 => repeat (first | (with_reducible first | exact HB.out | apply below_alloc | apply pw_below_drewN | apply below_drew1 | refine below_set ?_ (IsS86.ge HI345.out)) | exact HB.out)); rintro e w31 ⟨rfl, hi, hb, hk⟩; refine ⟨_, rfl, ?_⟩; have n0_ := Aside0.mk (hb); have n1_ := Aside0.mk (hi); clear HB; clear HI345; have HB := n0_; have HI345 := n1_; clear n0_ n1_; (try clear hb); (try clear hb2); (try clear hk); (try clear hi)) | ((with_reducible refine gate_dst (N := 48) rfl ?_); refine Kd.R_lit (Kd.int .u8) _ 5 ?hg (N := 48) ?hd (xs := ([(wrap64 (33 + t368)) % 256] : List Int)) (inner := [.int .u8 ((wrap64 (33 + t368)) % 256)]) (ok := fun _ => True) (okp := fun _ => True) ?hr ?hp (fun _ hk => hk) trivial (Below.refl _ _) (Nat.le_refl _) (by simp) ?_; (case hd => rfl); (case hg => rfl); (case hr => first | (go_simp; done) | (go_simp; rfl)); (case hp => exact (Reps.one (show Kd.M (Kd.int .u8) _ _ _ ((wrap64 (33 + t368)) % 256) [.int .u8 ((wrap64 (33 + t368)) % 256)] from rfl) (Reps.none _ _))); intro v372 w32 ho33 hb hg_ hnew_; clear hg_ hnew_; (first | rw [← Ny371.out] at ho33 | (simp only [Int.reduceToNat] at ho33; rw [← Ny371.out] at ho33)); have n0_ := Aside0.mk (Kd.R_lower ho33 (below_size (by repeat (first | (with_reducible first | exact HB.out | apply below_alloc | apply pw_below_drewN | apply below_drew1 | refine below_set ?_ (IsS86.ge HI345.out)) | exact HB.out)))); have n1_ := Aside0.mk (IsS86.below (by repeat (first | (with_reducible first | exact HI345.out | apply IsS86.alloc | apply IsS86.drewN | apply IsS86.drew | apply IsS86.set_1 | apply IsS86.set_2) | exact HI345.out)) hb); have n2_ := Aside0.mk (below_step (by repeat (first | (with_reducible first | exact HB.out | apply below_alloc | apply pw_below_drewN | apply below_drew1 | refine below_set ?_ (IsS86.ge HI345.out)) | exact HB.out)) hb); clear HI345; clear HB; have HO373 := n0_; have HI345 := n1_; have HB := n2_; clear n0_ n1_ n2_; clear hb ho33; have hcv34 := own_string (P := Tryd.prog) Tryd.underlying40 Tryd.underlying5 Tryd.underlying9 (Kd.own_of_R HO373.out)))
              go_roundg k5
              case measure => have := HJ4.out; have := HK2.out; have := HJ12.out; have := HJ16.out; have := HK5.out; omega
              case rel => exact ⟨(x5_5 ++ (strOfNums y371)), (wrap64 (x7_5 + 1)), (t369), (t370), (by first | rfl | (simp; done) | (simp [*]; done)), (by first | rfl | (simp; done) | (simp [*]; done)), H', ⟨by have := HJ4.out; have := HK2.out; have := HJ12.out; have := HJ16.out; have := HK5.out; omega⟩, ⟨by repeat (first | (with_reducible first | exact HI345.out | apply IsS86.alloc | apply IsS86.drewN | apply IsS86.drew | apply IsS86.set_1 | apply IsS86.set_2) | exact HI345.out)⟩, ⟨by repeat (first | (with_reducible first | exact HB.out | apply below_alloc | apply pw_below_drewN | apply below_drew1 | refine below_set ?_ (IsS86.ge HI345.out)) | exact HB.out)⟩⟩
             ·rw [if_neg c29] at H
              exact absurd H (by simp)
            ·rw [if_neg c27] at H
             have c27b0 : decide (x7_5 ≤ t365) = false := decide_eq_false c27
             clear c27
             have H' := Aside0.mk H
             clear H
             go_wp2_with (first | ((with_reducible refine gate_callee (f := 45) rfl ?_); refine goesL_ (some 39) rfl rfl Tryd.func45 (by kernel_rfl) rfl #[.pointer (some ⟨g345, 0, none⟩), .int .i64 5] rfl mp_ ?_; (with_reducible refine (spec_l01Below.calls g345 t342 x346001_5 x346002_5 5 t365 t366 t367 w _ ?side1 ?side2 A26.out).mono ?_); (case side1 => repeat (first | (with_reducible first | exact HI345.out | apply IsS86.alloc | apply IsS86.drewN | apply IsS86.drew | apply IsS86.set_1 | apply IsS86.set_2) | exact HI345.out)); (case side2 => repeat (first | (with_reducible first | exact HB.out | apply below_alloc | apply pw_below_drewN | apply below_drew1 | refine below_set ?_ (IsS86.ge HI345.out)) | exact HB.out)); rintro e w35 ⟨rfl, hi, hb, hk⟩; refine ⟨_, rfl, ?_⟩; have n0_ := Aside0.mk (hb); have n1_ := Aside0.mk (hi); clear HB; clear HI345; have HB := n0_; have HI345 := n1_; clear n0_ n1_; (try clear hb); (try clear hb2); (try clear hk); (try clear hi)))
             go_roundg k5
             case measure => have := HJ4.out; have := HK2.out; have := HJ12.out; have := HJ16.out; have := HK5.out; omega
             case rel => exact ⟨(x5_5), (wrap64 (x6_2 + 1)), (t366), (t367), (by first | rfl | (simp; done) | (simp [*]; done)), (by first | rfl | (simp; done) | (simp [*]; done)), H', ⟨by have := HJ4.out; have := HK2.out; have := HJ12.out; have := HJ16.out; have := HK5.out; omega⟩, ⟨by repeat (first | (with_reducible first | exact HI345.out | apply IsS86.alloc | apply IsS86.drewN | apply IsS86.drew | apply IsS86.set_1 | apply IsS86.set_2) | exact HI345.out)⟩, ⟨by repeat (first | (with_reducible first | exact HB.out | apply below_alloc | apply pw_below_drewN | apply below_drew1 | refine below_set ?_ (IsS86.ge HI345.out)) | exact HB.out)⟩⟩
     ·rw [if_neg c12] at H
      have c12b0 : decide (x6_2 < x4_4) = false := decide_eq_false c12
      clear c12
      replace H := Option.bind_eq_some_iff.mp H
      obtain ⟨⟨t374, t375, t376⟩, A360, H⟩ := H
      replace H : (if t374 = 0 then ((spec_l01Pick.f t342 t375 t376 (([(⟨#[32]⟩ : ByteArray), (⟨#[32, 32]⟩ : ByteArray), (⟨#[9]⟩ : ByteArray), (⟨#[10]⟩ : ByteArray), (⟨#[127]⟩ : ByteArray), (⟨#[233]⟩ : ByteArray)] : List ByteArray))).bind fun bt380 => (if x5_2.size + bt380.1.size ≤ 9223372036854775807 then (some (x5_2 ++ bt380.1)) else (none))) else (if t374 = 1 then (if (x5_2.size : Int) < 600 then ((spec_l01Below.f t342 t375 t376 2).bind fun bt383 => ((spec_l01Long.f k2 (wrap64 ((wrap64 (600 - (x5_2.size : Int))) + bt383.1)) 32).bind fun t386 => (if x5_2.size + t386.size ≤ 9223372036854775807 then (some (x5_2 ++ t386)) else (none)))) else (some x5_2)) else (some x5_2))) = some r := H
      have A36 := Aside0.mk A360
      clear A360
      by_cases c37 : t374 = 0
      ·rw [if_pos c37] at H
       have c37b0 : (t374 == 0) = true := beq_iff_eq.mpr c37
       have c37b1 : (t374 != 0) = false := bne_eq_false_iff_eq.mpr c37
       clear c37
       obtain ⟨y377, hy377⟩ : ∃ y_ : List ByteArray, y_ = (([(⟨#[32]⟩ : ByteArray), (⟨#[32, 32]⟩ : ByteArray), (⟨#[9]⟩ : ByteArray), (⟨#[10]⟩ : ByteArray), (⟨#[127]⟩ : ByteArray), (⟨#[233]⟩ : ByteArray)] : List ByteArray)) := ⟨_, rfl⟩
       replace H : ((spec_l01Pick.f t342 t375 t376 y377).bind fun bt380 => (if x5_2.size + bt380.1.size ≤ 9223372036854775807 then (some (x5_2 ++ bt380.1)) else (none))) = some r := by first | (rw [hy377]; with_reducible exact H) | (have H2_ := (Option.bind_some _ _).symm.trans H; rw [hy377]; with_reducible exact H2_) | (have H2_ := (Option.bind_some _ _).symm.trans H; with_reducible exact H2_) | with_reducible exact H | (rw [hy377]; exact H) | exact H
       have Ny377 := Aside0.mk hy377
       clear hy377
       replace H := Option.bind_eq_some_iff.mp H
       obtain ⟨⟨t380, t381, t382⟩, A380, H⟩ := H
       replace H : (if x5_2.size + t380.size ≤ 9223372036854775807 then (some (x5_2 ++ t380)) else (none)) = some r := H
       have A38 := Aside0.mk A380
       clear A380
       by_cases c39 : x5_2.size + t380.size ≤ 9223372036854775807
       ·rw [if_pos c39] at H
        have c39b0 := eq_true c39
        have c39b1 : decide (x5_2.size + t380.size ≤ 9223372036854775807) = true := decide_eq_true c39
        try have c39b2 : (9223372036854775807 < x5_2.size + t380.size) = False := eq_false (Nat.not_lt.2 c39)
        obtain rfl := Option.some.inj H
        go_wp2_with (first | ((with_reducible refine gate_callee (f := 45) rfl ?_); refine goesL_ (some 52) rfl rfl Tryd.func45 (by kernel_rfl) rfl #[.pointer (some ⟨g345, 0, none⟩), .int .i64 12] rfl mp_ ?_; (with_reducible refine (spec_l01Below.calls g345 t342 x346001_2 x346002_2 12 t374 t375 t376 w _ ?side1 ?side2 A36.out).mono ?_); (case side1 => repeat (first | (with_reducible first | exact HI345.out | apply IsS86.alloc | apply IsS86.drewN | apply IsS86.drew | apply IsS86.set_1 | apply IsS86.set_2) | exact HI345.out)); (case side2 => repeat (first | (with_reducible first | exact HB.out | apply below_alloc | apply pw_below_drewN | apply below_drew1 | refine below_set ?_ (IsS86.ge HI345.out)) | exact HB.out)); rintro e w40 ⟨rfl, hi, hb, hk⟩; refine ⟨_, rfl, ?_⟩; have n0_ := Aside0.mk (hb); have n1_ := Aside0.mk (hi); clear HB; clear HI345; have HB := n0_; have HI345 := n1_; clear n0_ n1_; (try clear hb); (try clear hb2); (try clear hk); (try clear hi)) | ((with_reducible refine gate_dst (N := 57) rfl ?_); refine Kd.R_lit Kd.string _ 9 ?hg (N := 57) ?hd (xs := ([(⟨#[32]⟩ : ByteArray), (⟨#[32, 32]⟩ : ByteArray), (⟨#[9]⟩ : ByteArray), (⟨#[10]⟩ : ByteArray), (⟨#[127]⟩ : ByteArray), (⟨#[233]⟩ : ByteArray)] : List ByteArray)) (inner := [.string (⟨#[32]⟩ : ByteArray), .string (⟨#[32, 32]⟩ : ByteArray), .string (⟨#[9]⟩ : ByteArray), .string (⟨#[10]⟩ : ByteArray), .string (⟨#[127]⟩ : ByteArray), .string (⟨#[233]⟩ : ByteArray)]) (ok := fun _ => True) (okp := fun _ => True) ?hr ?hp (fun _ hk => hk) trivial (Below.refl _ _) (Nat.le_refl _) (by simp) ?_; (case hd => rfl); (case hg => rfl); (case hr => first | (go_simp; done) | (go_simp; rfl)); (case hp => exact (Reps.one (show Kd.M Kd.string _ _ _ (⟨#[32]⟩ : ByteArray) [.string (⟨#[32]⟩ : ByteArray)] from rfl) (Reps.one (show Kd.M Kd.string _ _ _ (⟨#[32, 32]⟩ : ByteArray) [.string (⟨#[32, 32]⟩ : ByteArray)] from rfl) (Reps.one (show Kd.M Kd.string _ _ _ (⟨#[9]⟩ : ByteArray) [.string (⟨#[9]⟩ : ByteArray)] from rfl) (Reps.one (show Kd.M Kd.string _ _ _ (⟨#[10]⟩ : ByteArray) [.string (⟨#[10]⟩ : ByteArray)] from rfl) (Reps.one (show Kd.M Kd.string _ _ _ (⟨#[127]⟩ : ByteArray) [.string (⟨#[127]⟩ : ByteArray)] from rfl) (Reps.one (show Kd.M Kd.string _ _ _ (⟨#[233]⟩ : ByteArray) [.string (⟨#[233]⟩ : ByteArray)] from rfl) (Reps.none _ _)))))))); intro v378 w41 ho42 hb hg_ hnew_; clear hg_ hnew_; (first | rw [← Ny377.out] at ho42 | (simp only [Int.reduceToNat] at ho42; rw [← Ny377.out] at ho42)); have n0_ := Aside0.mk (Kd.R_lower ho42 (below_size (by repeat (first | (with_reducible first | exact HB.out | apply below_alloc | apply pw_below_drewN | apply below_drew1 | refine below_set ?_ (IsS86.ge HI345.out)) | exact HB.out)))); have n1_ := Aside0.mk (IsS86.below (by repeat (first | (with_reducible first | exact HI345.out | apply IsS86.alloc | apply IsS86.drewN | apply IsS86.drew | apply IsS86.set_1 | apply IsS86.set_2) | exact HI345.out)) hb); have n2_ := Aside0.mk (below_step (by repeat (first | (with_reducible first | exact HB.out | apply below_alloc | apply pw_below_drewN | apply below_drew1 | refine below_set ?_ (IsS86.ge HI345.out)) | exact HB.out)) hb); clear HI345; clear HB; have HO379 := n0_; have HI345 := n1_; have HB := n2_; clear n0_ n1_ n2_; clear hb ho42; obtain ⟨Ao43, co43, eo43⟩ := Kd.R_slice HO379.out; subst eo43) | ((with_reducible refine gate_callee (f := 50) rfl ?_); refine goesL_ (some 58) rfl rfl Tryd.func50 (by kernel_rfl) rfl #[.pointer (some ⟨g345, 0, none⟩), .slice Ao43 y377.length co43] rfl mp_ ?_; (with_reducible refine (spec_l01Pick.calls g345 t342 t375 t376 _ _ y377 t380 t381 t382 w _ ?side1 ?side2 ?side3 ?side4 ?side5 A38.out).mono ?_); (case side1 => repeat (first | (with_reducible first | exact HI345.out | apply IsS86.alloc | apply IsS86.drewN | apply IsS86.drew | apply IsS86.set_1 | apply IsS86.set_2) | exact HI345.out)); (case side2 => repeat (first | (with_reducible first | exact HB.out | apply below_alloc | apply pw_below_drewN | apply below_drew1 | refine below_set ?_ (IsS86.ge HI345.out)) | exact HB.out)); (case side3 => repeat (first | exact (Kd.R_reads' HO379.out).2.2 | (with_reducible refine Kd.C_alloc ?_ _) | (with_reducible refine Kd.C_drewN ?_ _) | (with_reducible refine Kd.C_drew ?_))); (case side4 => exact (Kd.R_reads' HO379.out).2.1); (case side5 => exact far_slice (IsS86.own_ne HI345.out HO379.out (by decide))); rintro e w44 ⟨rfl, hi, hb, hk⟩; refine ⟨_, rfl, ?_⟩; have n0_ := Aside0.mk (Kd.R_mono (Kd.R_keep (IsS86.apart (show IsS86 w _ g345 t342 t375 t376 from by repeat (first | (with_reducible first | exact HI345.out | apply IsS86.alloc | apply IsS86.drewN | apply IsS86.drew | apply IsS86.set_1 | apply IsS86.set_2) | exact HI345.out)) (kr_ HO379.out) (by decide)) hk (fun _ h => h.2)) (fun _ h => h.1)); have n1_ := Aside0.mk (hb); have n2_ := Aside0.mk (hi); clear HO379; clear HB; clear HI345; have HO379 := n0_; have HB := n1_; have HI345 := n2_; clear n0_ n1_ n2_; (try clear hb); (try clear hb2); (try clear hk); (try clear hi)))
        go_ret
        exact ⟨er_, by repeat (first | (with_reducible first | exact HB.out | apply below_alloc | apply pw_below_drewN | apply below_drew1 | refine below_set ?_ (IsS86.ge HI345.out)) | exact HB.out)⟩
       ·rw [if_neg c39] at H
        exact absurd H (by simp)
      ·rw [if_neg c37] at H
       have c37b0 : (t374 == 0) = false := beq_eq_false_iff_ne.mpr c37
       have c37b1 : (t374 != 0) = true := bne_iff_ne.mpr c37
       by_cases c45 : t374 = 1
       ·rw [if_pos c45] at H
        have c45b0 : (t374 == 1) = true := beq_iff_eq.mpr c45
        have c45b1 : (t374 != 1) = false := bne_eq_false_iff_eq.mpr c45
        clear c45
        by_cases c46 : (x5_2.size : Int) < 600
        ·rw [if_pos c46] at H
         have c46b0 : decide ((x5_2.size : Int) < 600) = true := decide_eq_true c46
         have c46b1 : decide (x5_2.size < 600) = true := decide_eq_true (by omega)
         clear c46
         replace H := Option.bind_eq_some_iff.mp H
         obtain ⟨⟨t383, t384, t385⟩, A470, H⟩ := H
         replace H : ((spec_l01Long.f k2 (wrap64 ((wrap64 (600 - (x5_2.size : Int))) + t383)) 32).bind fun t386 => (if x5_2.size + t386.size ≤ 9223372036854775807 then (some (x5_2 ++ t386)) else (none))) = some r := H
         have A47 := Aside0.mk A470
         clear A470
         replace H := Option.bind_eq_some_iff.mp H
         obtain ⟨t386, A480, H⟩ := H
         replace H : (if x5_2.size + t386.size ≤ 9223372036854775807 then (some (x5_2 ++ t386)) else (none)) = some r := H
         have A48 := Aside0.mk A480
         clear A480
         by_cases c49 : x5_2.size + t386.size ≤ 9223372036854775807
         ·rw [if_pos c49] at H
          have c49b0 := eq_true c49
          have c49b1 : decide (x5_2.size + t386.size ≤ 9223372036854775807) = true := decide_eq_true c49
          try have c49b2 : (9223372036854775807 < x5_2.size + t386.size) = False := eq_false (Nat.not_lt.2 c49)
          obtain rfl := Option.some.inj H
          go_wp2_with (first | ((with_reducible refine gate_callee (f := 45) rfl ?_); refine goesL_ (some 52) rfl rfl Tryd.func45 (by kernel_rfl) rfl #[.pointer (some ⟨g345, 0, none⟩), .int .i64 12] rfl mp_ ?_; (with_reducible refine (spec_l01Below.calls g345 t342 x346001_2 x346002_2 12 t374 t375 t376 w _ ?side1 ?side2 A36.out).mono ?_); (case side1 => repeat (first | (with_reducible first | exact HI345.out | apply IsS86.alloc | apply IsS86.drewN | apply IsS86.drew | apply IsS86.set_1 | apply IsS86.set_2) | exact HI345.out)); (case side2 => repeat (first | (with_reducible first | exact HB.out | apply below_alloc | apply pw_below_drewN | apply below_drew1 | refine below_set ?_ (IsS86.ge HI345.out)) | exact HB.out)); rintro e w50 ⟨rfl, hi, hb, hk⟩; refine ⟨_, rfl, ?_⟩; have n0_ := Aside0.mk (hb); have n1_ := Aside0.mk (hi); clear HB; clear HI345; have HB := n0_; have HI345 := n1_; clear n0_ n1_; (try clear hb); (try clear hb2); (try clear hk); (try clear hi)) | ((with_reducible refine gate_callee (f := 45) rfl ?_); refine goesL_ (some 70) rfl rfl Tryd.func45 (by kernel_rfl) rfl #[.pointer (some ⟨g345, 0, none⟩), .int .i64 2] rfl mp_ ?_; (with_reducible refine (spec_l01Below.calls g345 t342 t375 t376 2 t383 t384 t385 w _ ?side1 ?side2 A47.out).mono ?_); (case side1 => repeat (first | (with_reducible first | exact HI345.out | apply IsS86.alloc | apply IsS86.drewN | apply IsS86.drew | apply IsS86.set_1 | apply IsS86.set_2) | exact HI345.out)); (case side2 => repeat (first | (with_reducible first | exact HB.out | apply below_alloc | apply pw_below_drewN | apply below_drew1 | refine below_set ?_ (IsS86.ge HI345.out)) | exact HB.out)); rintro e w51 ⟨rfl, hi, hb, hk⟩; refine ⟨_, rfl, ?_⟩; have n0_ := Aside0.mk (hb); have n1_ := Aside0.mk (hi); clear HB; clear HI345; have HB := n0_; have HI345 := n1_; clear n0_ n1_; (try clear hb); (try clear hb2); (try clear hk); (try clear hi)) | ((with_reducible refine gate_callee (f := 47) rfl ?_); refine goesL_ (some 72) rfl rfl Tryd.func47 (by kernel_rfl) rfl #[.int .i64 (wrap64 ((wrap64 (600 - (x5_2.size : Int))) + t383)), .int .u8 32] rfl mp_ ?_; (with_reducible refine (spec_l01Long.calls k2 (wrap64 ((wrap64 (600 - (x5_2.size : Int))) + t383)) 32 t386 _ A48.out).mono ?_); rintro e w52 ⟨rfl, hb⟩; refine ⟨_, rfl, ?_⟩; have n0_ := Aside0.mk (IsS86.below (by repeat (first | (with_reducible first | exact HI345.out | apply IsS86.alloc | apply IsS86.drewN | apply IsS86.drew | apply IsS86.set_1 | apply IsS86.set_2) | exact HI345.out)) hb); have n1_ := Aside0.mk (below_step (by repeat (first | (with_reducible first | exact HB.out | apply below_alloc | apply pw_below_drewN | apply below_drew1 | refine below_set ?_ (IsS86.ge HI345.out)) | exact HB.out)) hb); clear HI345; clear HB; have HI345 := n0_; have HB := n1_; clear n0_ n1_; (try clear hb); (try clear hb2); (try clear hk); (try clear hi)))
          go_ret
          exact ⟨er_, by repeat (first | (with_reducible first | exact HB.out | apply below_alloc | apply pw_below_drewN | apply below_drew1 | refine below_set ?_ (IsS86.ge HI345.out)) | exact HB.out)⟩
         ·rw [if_neg c49] at H
          exact absurd H (by simp)
        ·rw [if_neg c46] at H
         have c46b0 : decide ((x5_2.size : Int) < 600) = false := decide_eq_false c46
         have c46b1 : decide (x5_2.size < 600) = false := decide_eq_false (by omega)
         clear c46
         obtain rfl := Option.some.inj H
         go_wp2_with (first | ((with_reducible refine gate_callee (f := 45) rfl ?_); refine goesL_ (some 52) rfl rfl Tryd.func45 (by kernel_rfl) rfl #[.pointer (some ⟨g345, 0, none⟩), .int .i64 12] rfl mp_ ?_; (with_reducible refine (spec_l01Below.calls g345 t342 x346001_2 x346002_2 12 t374 t375 t376 w _ ?side1 ?side2 A36.out).mono ?_); (case side1 => repeat (first | (with_reducible first | exact HI345.out | apply IsS86.alloc | apply IsS86.drewN | apply IsS86.drew | apply IsS86.set_1 | apply IsS86.set_2) | exact HI345.out)); (case side2 => repeat (first | (with_reducible first | exact HB.out | apply below_alloc | apply pw_below_drewN | apply below_drew1 | refine below_set ?_ (IsS86.ge HI345.out)) | exact HB.out)); rintro e w53 ⟨rfl, hi, hb, hk⟩; refine ⟨_, rfl, ?_⟩; have n0_ := Aside0.mk (hb); have n1_ := Aside0.mk (hi); clear HB; clear HI345; have HB := n0_; have HI345 := n1_; clear n0_ n1_; (try clear hb); (try clear hb2); (try clear hk); (try clear hi)))
         go_ret
         exact ⟨er_, by repeat (first | (with_reducible first | exact HB.out | apply below_alloc | apply pw_below_drewN | apply below_drew1 | refine below_set ?_ (IsS86.ge HI345.out)) | exact HB.out)⟩
       ·rw [if_neg c45] at H
        have c45b0 : (t374 == 1) = false := beq_eq_false_iff_ne.mpr c45
        have c45b1 : (t374 != 1) = true := bne_iff_ne.mpr c45
        obtain rfl := Option.some.inj H
        go_wp2_with (first | ((with_reducible refine gate_callee (f := 45) rfl ?_); refine goesL_ (some 52) rfl rfl Tryd.func45 (by kernel_rfl) rfl #[.pointer (some ⟨g345, 0, none⟩), .int .i64 12] rfl mp_ ?_; (with_reducible refine (spec_l01Below.calls g345 t342 x346001_2 x346002_2 12 t374 t375 t376 w _ ?side1 ?side2 A36.out).mono ?_); (case side1 => repeat (first | (with_reducible first | exact HI345.out | apply IsS86.alloc | apply IsS86.drewN | apply IsS86.drew | apply IsS86.set_1 | apply IsS86.set_2) | exact HI345.out)); (case side2 => repeat (first | (with_reducible first | exact HB.out | apply below_alloc | apply pw_below_drewN | apply below_drew1 | refine below_set ?_ (IsS86.ge HI345.out)) | exact HB.out)); rintro e w54 ⟨rfl, hi, hb, hk⟩; refine ⟨_, rfl, ?_⟩; have n0_ := Aside0.mk (hb); have n1_ := Aside0.mk (hi); clear HB; clear HI345; have HB := n0_; have HI345 := n1_; clear n0_ n1_; (try clear hb); (try clear hb2); (try clear hk); (try clear hi)))
        go_ret
        exact ⟨er_, by repeat (first | (with_reducible first | exact HB.out | apply below_alloc | apply pw_below_drewN | apply below_drew1 | refine below_set ?_ (IsS86.ge HI345.out)) | exact HB.out)⟩

end Go.Proofs.YtcocebkmfmiaeaaDoor.Q
