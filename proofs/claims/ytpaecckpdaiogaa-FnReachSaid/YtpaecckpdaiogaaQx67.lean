/- Plain Lean functions of Go functions, and for each the proof that its call comes to just that answer. Conditions: in each theorem's statement. -/
import Derived.Test.YtpaecckpdaiogaaQx0
import Derived.Test.YtpaecckpdaiogaaQx32
import Derived.Test.YtpaecckpdaiogaaQx33
import Derived.Test.YtpaecckpdaiogaaQx42
namespace Go.Proofs.Ytpaecckpdaiogaa.Q
open Go.RowKit Go.Proofs.YtpaecckpdaiogaaW.PrintWords Go.Proofs.YtpaecckpdaiogaaW.PrintLast
attribute [local go_sem] max2_int min2_int max_two min_two   -- for this text's walks alone
set_option linter.unusedVariables false
set_option linter.unusedSimpArgs false

/-! ### slices_Max_int_int: function 104 -/
def maxFrom (m : Int) : List Int → Int
 | [] => m
 | x :: l => maxFrom (mx m x) l
theorem maxFrom_at (m : Int) (l : List Int) (kk : Nat) (h : kk < l.length) : maxFrom m (l.drop kk) = maxFrom (mx m (rd l kk)) (l.drop (kk + 1)) := by
 rw [List.drop_eq_getElem_cons h]
 simp only [maxFrom]
 unfold rd
 rw [List.getD_eq_getElem?_getD, Int.toNat_natCast, List.getElem?_eq_getElem h]
 rfl
def slices_Max_int_int.f (l0 : List Int) : Option (Int) := if 1 ≤ l0.length then some (maxFrom (rd l0 0) (l0.drop 1)) else none
theorem addr_add_zero (ad : Addr) : ad.add 0 = ad := by
 unfold Addr.add
 split <;> simp_all
set_option maxHeartbeats 4000000 in
set_option maxRecDepth 100000 in
theorem slices_Max_int_int.calls (A0 : Option Addr) (c0 : Nat) (l0 : List Int) (r : Int) (w : World) (hr0 : Kd.C (Kd.int .i64) w A0 l0.length l0) (hc0 : l0.length ≤ c0) (h : slices_Max_int_int.f l0 = some r) :
  Calls Try.prog 104 #[.slice A0 l0.length c0] w fun e w' => e = .returned (.int .i64 r) ∧ Below w.heap.size w w' := by
 unfold slices_Max_int_int.f at h
 by_cases hh : 1 ≤ l0.length
 ·rw [if_pos hh] at h
  obtain rfl := Option.some.inj h
  clear h
  have hl : l0.length ≤ 9223372036854775807 := hr0.2.1
  obtain ⟨ad, hA, hcell⟩ := Kd.at_int hr0 0 (by omega) (by omega)
  subst hA
  have HR := Aside0.mk hr0
  clear hr0
  have hcell : w.cell? ad = some (.int .i64 (rd l0 0)) := by rw [← addr_add_zero ad]; exact hcell
  have hneg : ¬ (l0.length : Int) < 1 := by omega
  have hpos : (0 : Int) < (l0.length : Int) := by omega
  have hposN : 0 < l0.length := hh
  obtain ⟨M, hM⟩ : ∃ M, M = maxFrom (rd l0 0) (l0.drop 1) := ⟨_, rfl⟩
  have HM := Aside0.mk hM
  rw [← hM]
  clear hM
  go_enter Try.func104, Try.ntmps104
  go_wp2
  go_loopg [3, 4] l0.length (fun gg s3 s4 wr => ∃ (m : Int) (kk : Nat), s3 = .int .i64 m ∧ s4 = .int .i64 kk ∧ kk ≤ l0.length ∧ l0.length - kk ≤ gg ∧ Aside0 (maxFrom m (l0.drop kk) = M) ∧ Aside0 (Below w.heap.size w wr))
  case atStart => exact ⟨rd l0 0, 1, rfl, rfl, hh, by omega, ⟨HM.out.symm⟩, ⟨Below.refl _ _⟩⟩
  case round =>
   obtain ⟨m, kk, rfl, rfl, hkk, hg, HI, HB⟩ := hrel
   by_cases hlt : kk < l0.length
   ·have hltz : (kk : Int) < (l0.length : Int) := by omega
    have h0 : (0 : Int) ≤ kk := by omega
    obtain ⟨ad2, e, hcell2⟩ := Kd.at_int HR.out kk h0 hltz
    cases e
    replace hcell2 := pw_cell_below HB.out hcell2
    rw [Int.toNat_natCast] at hcell2
    have HX := Aside0.mk (maxFrom_at m l0 kk hlt)
    obtain ⟨j, hj⟩ : ∃ j, (if m < rd l0 kk then rd l0 kk else m) = j := ⟨_, rfl⟩
    have HJ := Aside0.mk (show mx m (rd l0 kk) = j from hj)
    go_wp2
    go_roundg (l0.length - (kk + 1))
    case measure => omega
    case rel => exact ⟨j, kk + 1, by first | rfl | (simp [*]; done), by go_num, by omega, by omega, ⟨by rw [← HI.out, HX.out, HJ.out]⟩, HB⟩
   ·have hltz : ¬ (kk : Int) < (l0.length : Int) := by omega
    go_wp2
    go_ret
    refine ⟨?_, HB.out⟩
    have h1 := HI.out
    rw [List.drop_of_length_le (by omega)] at h1
    rw [← h1]
    rfl
 ·rw [if_neg hh] at h; cases h

/-! ### impl_FarthestFrom: function 52 -/
def impl_FarthestFrom.f (k : Nat) (a0_0 : Int) (a0_1 : Int) (a0_2 : Int) (a1 : Int) : Option (Int) := (impl_isIn.f a0_0 a0_1 a0_2 (([a1] : List Int))).bind fun t730 => (if t730 = true then ((impl_distances.f k a0_0 a0_1 a0_2 a1).bind fun t731 => ((slices_Max_int_int.f t731).bind fun t734 => ((slices_Index_int_int.f k t731 t734).bind fun t735 => (some t735)))) else (some (-1)))
theorem impl_FarthestFrom.mono : ∀ a0 a1 a2 a3 k, LeO (impl_FarthestFrom.f k a0 a1 a2 a3) (impl_FarthestFrom.f (k + 1) a0 a1 a2 a3) := by
 intro a0 a1 a2 a3 k
 unfold impl_FarthestFrom.f
 repeat' first
   | (with_reducible exact impl_distances.mono _ _ _ _ _)
   | (with_reducible exact slices_Index_int_int.mono _ _ _)
   | (with_reducible exact LeO.refl _)
   | (with_reducible exact LeO.none _)
   | (with_reducible refine LeO.ite ?_ ?_)
   | (with_reducible refine LeO.bind ?_ (fun _ => ?_))
   | exact impl_distances.mono _ _ _ _ _
   | exact slices_Index_int_int.mono _ _ _
   | exact LeO.none _
   | refine LeO.ite ?_ ?_
   | refine LeO.bind ?_ (fun _ => ?_)
set_option maxHeartbeats 8000000 in
set_option maxRecDepth 100000 in
theorem impl_FarthestFrom.calls (k : Nat) (a0_0 : Int) (a0_1 : Int) (a0_2 : Int) (a1 : Int) (r : Int) (w : World) (h : impl_FarthestFrom.f k a0_0 a0_1 a0_2 a1 = some r) :
  Calls Try.prog 52 #[.agg #[.int .i64 a0_0, .int .i64 a0_1, .int .i64 a0_2], .int .i64 a1] w fun e w' => e = .returned (.int .i64 r) ∧ Below w.heap.size w w' := by
 have hu30 := Try.underlying30
 have HB := Aside0.mk (Below.refl w.heap.size w)
 have H : ((impl_isIn.f a0_0 a0_1 a0_2 (([a1] : List Int))).bind fun t730 => (if t730 = true then ((impl_distances.f k a0_0 a0_1 a0_2 a1).bind fun t731 => ((slices_Max_int_int.f t731).bind fun t734 => ((slices_Index_int_int.f k t731 t734).bind fun t735 => (some t735)))) else (some (-1)))) = some r := h
 clear h
 obtain ⟨y727, hy727⟩ : ∃ y_ : List Int, y_ = (([a1] : List Int)) := ⟨_, rfl⟩
 replace H : ((impl_isIn.f a0_0 a0_1 a0_2 y727).bind fun t730 => (if t730 = true then ((impl_distances.f k a0_0 a0_1 a0_2 a1).bind fun t731 => ((slices_Max_int_int.f t731).bind fun t734 => ((slices_Index_int_int.f k t731 t734).bind fun t735 => (some t735)))) else (some (-1)))) = some r := by first | (rw [hy727]; with_reducible exact H) | (have H2_ := (Option.bind_some _ _).symm.trans H; rw [hy727]; with_reducible exact H2_) | (have H2_ := (Option.bind_some _ _).symm.trans H; with_reducible exact H2_) | with_reducible exact H | (rw [hy727]; exact H) | exact H
 have Ny727 := Aside0.mk hy727
 clear hy727
 replace H := Option.bind_eq_some_iff.mp H
 obtain ⟨t730, A30, H⟩ := H
 replace H : (if t730 = true then ((impl_distances.f k a0_0 a0_1 a0_2 a1).bind fun t731 => ((slices_Max_int_int.f t731).bind fun t734 => ((slices_Index_int_int.f k t731 t734).bind fun t735 => (some t735)))) else (some (-1))) = some r := H
 have A3 := Aside0.mk A30
 clear A30
 by_cases c4 : t730 = true
 ·subst c4
  have H1 : ((impl_distances.f k a0_0 a0_1 a0_2 a1).bind fun t731 => ((slices_Max_int_int.f t731).bind fun t734 => ((slices_Index_int_int.f k t731 t734).bind fun t735 => (some t735)))) = some r := by rw [if_pos rfl] at H; exact H
  clear H
  have H := H1
  clear H1
  replace H := Option.bind_eq_some_iff.mp H
  obtain ⟨t731, A50, H⟩ := H
  replace H : ((slices_Max_int_int.f t731).bind fun t734 => ((slices_Index_int_int.f k t731 t734).bind fun t735 => (some t735))) = some r := H
  have A5 := Aside0.mk A50
  clear A50
  replace H := Option.bind_eq_some_iff.mp H
  obtain ⟨t734, A60, H⟩ := H
  replace H : ((slices_Index_int_int.f k t731 t734).bind fun t735 => (some t735)) = some r := H
  have A6 := Aside0.mk A60
  clear A60
  replace H := Option.bind_eq_some_iff.mp H
  obtain ⟨t735, A70, H⟩ := H
  replace H : (some t735) = some r := H
  have A7 := Aside0.mk A70
  clear A70
  obtain rfl := Option.some.inj H
  go_enter Try.func52, Try.ntmps52
  go_wp2_with (first | ((with_reducible refine gate_dst (N := 2) rfl ?_); refine box_event ?hg (N := 2) ?hd (cs := #[.int .i64 a0_0, .int .i64 a0_1, .int .i64 a0_2]) (t := 30) ?hr ?_; (case hd => rfl); (case hg => rfl); (case hr => first | (go_simp; done) | (go_simp; rfl)); intro gb726 hg w8 hbox hb; have n0_ := Aside0.mk (below_step hb_ hb); have n1_ := Aside0.mk (hbox); have n2_ := Aside0.mk ((by rw [hg]; exact (below_size hb_) : w.heap.size ≤ gb726)); have n3_ := Aside0.mk ((by rw [hg]; exact (below_size hb_) : w.heap.size ≤ gb726)); clear HB; have HB := n0_; have BK726 := n1_; have GW726 := n2_; have GE726 := n3_; clear n0_ n1_ n2_ n3_; clear hb hbox hg; have hcz9_0 := cz_ (.int .i64 a0_0) BK726.out 0; have hcz9_1 := cz_ (.int .i64 a0_1) BK726.out 1; have hcz9_2 := cz_ (.int .i64 a0_2) BK726.out 2; have hfz9_0 := blk_frozen BK726.out 0; have hfz9_1 := blk_frozen BK726.out 1; have hfz9_2 := blk_frozen BK726.out 2) | ((with_reducible refine gate_dst (N := 8) rfl ?_); refine Kd.R_lit (Kd.int .i64) _ 3 ?hg (N := 8) ?hd (xs := ([a1] : List Int)) (inner := [.int .i64 a1]) (ok := fun _ => True) (okp := fun _ => True) ?hr ?hp (fun _ hk => hk) trivial (Below.refl _ _) (Nat.le_refl _) (by simp) ?_; (case hd => rfl); (case hg => rfl); (case hr => first | (go_simp; done) | (go_simp; rfl)); (case hp => exact (Reps.one (show Kd.M (Kd.int .i64) _ _ _ a1 [.int .i64 a1] from rfl) (Reps.none _ _))); intro v728 w10 ho11 hb hg_ hnew_; clear hg_ hnew_; (first | rw [← Ny727.out] at ho11 | (simp only [Int.reduceToNat] at ho11; rw [← Ny727.out] at ho11)); have n0_ := Aside0.mk (Kd.R_lower ho11 (below_size hb_)); have n1_ := Aside0.mk (blk_below (g := gb726) (o := .cells #[.int .i64 a0_0, .int .i64 a0_1, .int .i64 a0_2] 30 (0, 0)) (kb_ BK726.out) hb); have n2_ := Aside0.mk (below_step hb_ hb); clear BK726; clear HB; have HO729 := n0_; have BK726 := n1_; have HB := n2_; clear n0_ n1_ n2_; clear hb ho11; obtain ⟨Ao12, co12, eo12⟩ := Kd.R_slice HO729.out; subst eo12) | ((with_reducible refine gate_callee (f := 76) rfl ?_); refine goesL_ (some 9) rfl rfl Try.func76 (by kernel_rfl) rfl #[.agg #[.int .i64 a0_0, .int .i64 a0_1, .int .i64 a0_2], .slice Ao12 y727.length co12] rfl mp_ ?_; (with_reducible refine (impl_isIn.calls a0_0 a0_1 a0_2 _ _ y727 true _ ?side1 ?side2 A3.out).mono ?_); (case side1 => repeat (first | exact (Kd.R_reads' HO729.out).2.2 | (with_reducible refine Kd.C_alloc ?_ _) | (with_reducible refine Kd.C_drewN ?_ _) | (with_reducible refine Kd.C_drew ?_))); (case side2 => exact (Kd.R_reads' HO729.out).2.1); rintro e w13 ⟨rfl, hb⟩; refine ⟨_, rfl, ?_⟩; have n0_ := Aside0.mk (Kd.R_below (kr_ HO729.out) hb); have n1_ := Aside0.mk (blk_below (g := gb726) (o := .cells #[.int .i64 a0_0, .int .i64 a0_1, .int .i64 a0_2] 30 (0, 0)) (kb_ BK726.out) hb); have n2_ := Aside0.mk (below_step hb_ hb); clear HO729; clear BK726; clear HB; have HO729 := n0_; have BK726 := n1_; have HB := n2_; clear n0_ n1_ n2_; (try clear hb); (try clear hb2); (try clear hk); (try clear hi); have hcz14_0 := cz_ (.int .i64 a0_0) BK726.out 0; have hcz14_1 := cz_ (.int .i64 a0_1) BK726.out 1; have hcz14_2 := cz_ (.int .i64 a0_2) BK726.out 2; have hfz14_0 := blk_frozen BK726.out 0; have hfz14_1 := blk_frozen BK726.out 1; have hfz14_2 := blk_frozen BK726.out 2) | ((with_reducible refine gate_callee (f := 102) rfl ?_); refine goesL_ (some 13) rfl rfl Try.func102 (by kernel_rfl) rfl #[.agg #[.int .i64 a0_0, .int .i64 a0_1, .int .i64 a0_2], .int .i64 a1] rfl mp_ ?_; (with_reducible refine (impl_distances.calls k a0_0 a0_1 a0_2 a1 t731 _ A5.out).mono ?_); rintro e w15 ⟨v732, rfl, ho0, hb⟩; refine ⟨_, rfl, ?_⟩; have n0_ := Aside0.mk (Kd.R_elder' (kr_ HO729.out) (Kd.R_base ho0) hb); have n1_ := Aside0.mk (Kd.R_lower (Kd.R_new' ho0 (Kd.R_lt (kr_ HO729.out))) (below_size hb_)); have n2_ := Aside0.mk (blk_below (g := gb726) (o := .cells #[.int .i64 a0_0, .int .i64 a0_1, .int .i64 a0_2] 30 (0, 0)) (kb_ BK726.out) hb); have n3_ := Aside0.mk (below_step hb_ hb); clear HO729; clear BK726; clear HB; have HO729 := n0_; have HO733 := n1_; have BK726 := n2_; have HB := n3_; clear n0_ n1_ n2_ n3_; (try clear hb); (try clear hb2); (try clear hk); (try clear hi); (try clear ho0); obtain ⟨Ao16, co16, eo16⟩ := Kd.R_slice HO733.out; subst eo16) | ((with_reducible refine gate_callee (f := 104) rfl ?_); refine goesL_ (some 16) rfl rfl Try.func104 (by kernel_rfl) rfl #[.slice Ao16 t731.length co16] rfl mp_ ?_; (with_reducible refine (slices_Max_int_int.calls _ _ t731 t734 _ ?side1 ?side2 A6.out).mono ?_); (case side1 => repeat (first | exact (Kd.R_reads' HO733.out).2.2 | (with_reducible refine Kd.C_alloc ?_ _) | (with_reducible refine Kd.C_drewN ?_ _) | (with_reducible refine Kd.C_drew ?_))); (case side2 => exact (Kd.R_reads' HO733.out).2.1); rintro e w17 ⟨rfl, hb⟩; refine ⟨_, rfl, ?_⟩; have n0_ := Aside0.mk (Kd.R_below (kr_ HO729.out) hb); have n1_ := Aside0.mk (Kd.R_below (kr_ HO733.out) hb); have n2_ := Aside0.mk (blk_below (g := gb726) (o := .cells #[.int .i64 a0_0, .int .i64 a0_1, .int .i64 a0_2] 30 (0, 0)) (kb_ BK726.out) hb); have n3_ := Aside0.mk (below_step hb_ hb); clear HO729; clear HO733; clear BK726; clear HB; have HO729 := n0_; have HO733 := n1_; have BK726 := n2_; have HB := n3_; clear n0_ n1_ n2_ n3_; (try clear hb); (try clear hb2); (try clear hk); (try clear hi)) | ((with_reducible refine gate_callee (f := 103) rfl ?_); refine goesL_ (some 17) rfl rfl Try.func103 (by kernel_rfl) rfl #[.slice Ao16 t731.length co16, .int .i64 t734] rfl mp_ ?_; (with_reducible refine (slices_Index_int_int.calls k _ _ t731 t734 t735 _ ?side1 ?side2 A7.out).mono ?_); (case side1 => repeat (first | exact (Kd.R_reads' HO733.out).2.2 | (with_reducible refine Kd.C_alloc ?_ _) | (with_reducible refine Kd.C_drewN ?_ _) | (with_reducible refine Kd.C_drew ?_))); (case side2 => exact (Kd.R_reads' HO733.out).2.1); rintro e w' ⟨rfl, ⟨nd, rfl⟩⟩; refine ⟨_, rfl, ?_⟩))
  go_ret
  exact ⟨er_, hb_⟩
 ·replace c4 := Bool.eq_false_iff.mpr c4
  subst c4
  have H1 : (some (-1)) = some r := by rw [if_neg (show ¬ (false = true) by decide)] at H; exact H
  clear H
  have H := H1
  clear H1
  obtain rfl := Option.some.inj H
  go_enter Try.func52, Try.ntmps52
  go_wp2_with (first | ((with_reducible refine gate_dst (N := 2) rfl ?_); refine box_event ?hg (N := 2) ?hd (cs := #[.int .i64 a0_0, .int .i64 a0_1, .int .i64 a0_2]) (t := 30) ?hr ?_; (case hd => rfl); (case hg => rfl); (case hr => first | (go_simp; done) | (go_simp; rfl)); intro gb726 hg w18 hbox hb; have n0_ := Aside0.mk (below_step hb_ hb); have n1_ := Aside0.mk (hbox); have n2_ := Aside0.mk ((by rw [hg]; exact (below_size hb_) : w.heap.size ≤ gb726)); have n3_ := Aside0.mk ((by rw [hg]; exact (below_size hb_) : w.heap.size ≤ gb726)); clear HB; have HB := n0_; have BK726 := n1_; have GW726 := n2_; have GE726 := n3_; clear n0_ n1_ n2_ n3_; clear hb hbox hg; have hcz19_0 := cz_ (.int .i64 a0_0) BK726.out 0; have hcz19_1 := cz_ (.int .i64 a0_1) BK726.out 1; have hcz19_2 := cz_ (.int .i64 a0_2) BK726.out 2; have hfz19_0 := blk_frozen BK726.out 0; have hfz19_1 := blk_frozen BK726.out 1; have hfz19_2 := blk_frozen BK726.out 2) | ((with_reducible refine gate_dst (N := 8) rfl ?_); refine Kd.R_lit (Kd.int .i64) _ 3 ?hg (N := 8) ?hd (xs := ([a1] : List Int)) (inner := [.int .i64 a1]) (ok := fun _ => True) (okp := fun _ => True) ?hr ?hp (fun _ hk => hk) trivial (Below.refl _ _) (Nat.le_refl _) (by simp) ?_; (case hd => rfl); (case hg => rfl); (case hr => first | (go_simp; done) | (go_simp; rfl)); (case hp => exact (Reps.one (show Kd.M (Kd.int .i64) _ _ _ a1 [.int .i64 a1] from rfl) (Reps.none _ _))); intro v728 w20 ho21 hb hg_ hnew_; clear hg_ hnew_; (first | rw [← Ny727.out] at ho21 | (simp only [Int.reduceToNat] at ho21; rw [← Ny727.out] at ho21)); have n0_ := Aside0.mk (Kd.R_lower ho21 (below_size hb_)); have n1_ := Aside0.mk (blk_below (g := gb726) (o := .cells #[.int .i64 a0_0, .int .i64 a0_1, .int .i64 a0_2] 30 (0, 0)) (kb_ BK726.out) hb); have n2_ := Aside0.mk (below_step hb_ hb); clear BK726; clear HB; have HO729 := n0_; have BK726 := n1_; have HB := n2_; clear n0_ n1_ n2_; clear hb ho21; obtain ⟨Ao22, co22, eo22⟩ := Kd.R_slice HO729.out; subst eo22) | ((with_reducible refine gate_callee (f := 76) rfl ?_); refine goesL_ (some 9) rfl rfl Try.func76 (by kernel_rfl) rfl #[.agg #[.int .i64 a0_0, .int .i64 a0_1, .int .i64 a0_2], .slice Ao22 y727.length co22] rfl mp_ ?_; (with_reducible refine (impl_isIn.calls a0_0 a0_1 a0_2 _ _ y727 false _ ?side1 ?side2 A3.out).mono ?_); (case side1 => repeat (first | exact (Kd.R_reads' HO729.out).2.2 | (with_reducible refine Kd.C_alloc ?_ _) | (with_reducible refine Kd.C_drewN ?_ _) | (with_reducible refine Kd.C_drew ?_))); (case side2 => exact (Kd.R_reads' HO729.out).2.1); rintro e w23 ⟨rfl, hb⟩; refine ⟨_, rfl, ?_⟩; have n0_ := Aside0.mk (Kd.R_below (kr_ HO729.out) hb); have n1_ := Aside0.mk (blk_below (g := gb726) (o := .cells #[.int .i64 a0_0, .int .i64 a0_1, .int .i64 a0_2] 30 (0, 0)) (kb_ BK726.out) hb); have n2_ := Aside0.mk (below_step hb_ hb); clear HO729; clear BK726; clear HB; have HO729 := n0_; have BK726 := n1_; have HB := n2_; clear n0_ n1_ n2_; (try clear hb); (try clear hb2); (try clear hk); (try clear hi)))
  go_ret
  exact ⟨er_, hb_⟩

/-! ### laws_has: function 55 -/
def laws_has.l0 : Nat → List Int → Int → Int → Option (Bool)
 | 0, _, _, _ => none
 | k + 1, x0, x1, x5 => if x5 < (x0.length : Int) then (if 0 ≤ x5 then (if (rd x0 x5) = x1 then (some true) else (laws_has.l0 k x0 x1 (wrap64 (x5 + 1)))) else (none)) else (some false)
def laws_has.f (k : Nat) (l0 : List Int) (a1 : Int) : Option (Bool) := laws_has.l0 k l0 a1 0
theorem laws_has.mono_l : ∀ k, (∀ y0 y1 y2, LeO (laws_has.l0 k y0 y1 y2) (laws_has.l0 (k + 1) y0 y1 y2))
 | 0 => fun _ _ _ r h => by simp [laws_has.l0] at h
 | k + 1 => by
  have ih0 := laws_has.mono_l k
  ·intro y0 y1 y2
   unfold laws_has.l0
   repeat' first
   | (with_reducible exact ih0 _ _ _)
   | (with_reducible exact LeO.refl _)
   | (with_reducible exact LeO.none _)
   | (with_reducible refine LeO.ite ?_ ?_)
   | (with_reducible refine LeO.bind ?_ (fun _ => ?_))
   | exact ih0 _ _ _
   | exact LeO.none _
   | refine LeO.ite ?_ ?_
   | refine LeO.bind ?_ (fun _ => ?_)
theorem laws_has.mono : ∀ a0 a1 k, LeO (laws_has.f k a0 a1) (laws_has.f (k + 1) a0 a1) := by
 intro a0 a1 k
 have ih0 := laws_has.mono_l k
 unfold laws_has.f
 repeat' first
   | (with_reducible exact ih0 _ _ _)
   | (with_reducible exact LeO.refl _)
   | (with_reducible exact LeO.none _)
   | (with_reducible refine LeO.ite ?_ ?_)
   | (with_reducible refine LeO.bind ?_ (fun _ => ?_))
   | exact ih0 _ _ _
   | exact LeO.none _
   | refine LeO.ite ?_ ?_
   | refine LeO.bind ?_ (fun _ => ?_)
set_option maxHeartbeats 8000000 in
set_option maxRecDepth 100000 in
theorem laws_has.calls (k : Nat) (A0 : Option Addr) (c0 : Nat) (l0 : List Int) (a1 : Int) (r : Bool) (w : World) (hr0 : Kd.C (Kd.int .i64) w A0 l0.length l0) (hc0 : l0.length ≤ c0) (h : laws_has.f k l0 a1 = some r) :
  Calls Try.prog 55 #[.slice A0 l0.length c0, .int .i64 a1] w fun e w' => e = .returned (.bool r) ∧ Drawn0 w w' := by
 have HR0 := Aside0.mk hr0
 have HC0 := Aside0.mk hc0
 clear hr0 hc0
 have H : (laws_has.l0 k l0 a1 0) = some r := h
 clear h
 have H' := Aside0.mk H
 clear H
 go_enter Try.func55, Try.ntmps55
 go_wp2
 go_loopg [5] k (fun kq v5 w' => ∃ (x5_1 : Int), v5 = .int .i64 x5_1 ∧ Aside0 (laws_has.l0 kq l0 a1 x5_1 = some r) ∧ Aside0 (kq ≤ k) ∧ Drawn0 w w')
 case atStart => exact ⟨(0), (by first | rfl | (simp; done) | (simp [*]; done)), H', ⟨Nat.le_refl _⟩, by repeat (first | exact Drawn0.refl _ | apply Drawn0.step)⟩
 case round =>
  clear H'
  try clear p2
  obtain ⟨x5_1, rfl, HA, HK1, ⟨m1, rfl⟩⟩ := hrel
  cases gk with
  | zero => exact absurd HA.out (by simp [laws_has.l0])
  | succ k1 =>
   have H := HA.out
   clear HA
   simp only [laws_has.l0] at H
   by_cases c3 : x5_1 < (l0.length : Int)
   ·rw [if_pos c3] at H
    have c3b0 : decide (x5_1 < (l0.length : Int)) = true := decide_eq_true c3
    clear c3
    by_cases c4 : 0 ≤ x5_1
    ·rw [if_pos c4] at H
     have c4b0 : decide (0 ≤ x5_1) = true := decide_eq_true c4
     clear c4
     by_cases c5 : (rd l0 x5_1) = a1
     ·rw [if_pos c5] at H
      have c5b0 : ((rd l0 x5_1) == a1) = true := beq_iff_eq.mpr c5
      have c5b1 : ((rd l0 x5_1) != a1) = false := bne_eq_false_iff_eq.mpr c5
      clear c5
      obtain rfl := Option.some.inj H
      have p736 : 0 ≤ (x5_1 : Int) := of_decide_eq_true (by first | (with_reducible assumption) | assumption)
      have q736 : x5_1 < (l0.length : Int) := of_decide_eq_true (by first | (with_reducible assumption) | assumption)
      obtain ⟨ad736, e736, hx736_0⟩ := Kd.at_int HR0.out x5_1 p736 q736
      cases e736
      replace p736 := eq_true p736
      replace q736 := eq_true q736
      go_wp2
      go_ret
      exact ⟨by first | rfl | (simp; done) | (simp [*]; done), by repeat (first | exact Drawn0.refl _ | apply Drawn0.step)⟩
     ·rw [if_neg c5] at H
      have c5b0 : ((rd l0 x5_1) == a1) = false := beq_eq_false_iff_ne.mpr c5
      have c5b1 : ((rd l0 x5_1) != a1) = true := bne_iff_ne.mpr c5
      have H' := Aside0.mk H
      clear H
      have p736 : 0 ≤ (x5_1 : Int) := of_decide_eq_true (by first | (with_reducible assumption) | assumption)
      have q736 : x5_1 < (l0.length : Int) := of_decide_eq_true (by first | (with_reducible assumption) | assumption)
      obtain ⟨ad736, e736, hx736_0⟩ := Kd.at_int HR0.out x5_1 p736 q736
      cases e736
      replace p736 := eq_true p736
      replace q736 := eq_true q736
      go_wp2
      go_roundg k1
      case measure => have := HK1.out; omega
      case rel => exact ⟨(wrap64 (x5_1 + 1)), (by first | rfl | (simp; done) | (simp [*]; done)), H', ⟨by have := HK1.out; omega⟩, by repeat (first | exact Drawn0.refl _ | apply Drawn0.step)⟩
    ·rw [if_neg c4] at H
     exact absurd H (by simp)
   ·rw [if_neg c3] at H
    have c3b0 : decide (x5_1 < (l0.length : Int)) = false := decide_eq_false c3
    clear c3
    obtain rfl := Option.some.inj H
    go_wp2
    go_ret
    exact ⟨by first | rfl | (simp; done) | (simp [*]; done), by repeat (first | exact Drawn0.refl _ | apply Drawn0.step)⟩

end Go.Proofs.Ytpaecckpdaiogaa.Q
