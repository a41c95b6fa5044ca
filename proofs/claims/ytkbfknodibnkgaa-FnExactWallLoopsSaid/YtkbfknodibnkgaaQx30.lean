/- Plain Lean functions of Go functions, and for each the proof that its call comes to just that answer. Conditions: in each theorem's statement. -/
import Derived.Test.YtkbfknodibnkgaaQx0
import Derived.Test.YtkbfknodibnkgaaQx1
import Derived.Test.YtkbfknodibnkgaaQx2
import Derived.Test.YtkbfknodibnkgaaQx29
import Derived.Test.YtkbfknodibnkgaaWAt
namespace Go.Proofs.Ytkbfknodibnkgaa.Q
open Go.RowKit Go.Proofs.YtkbfknodibnkgaaW.PrintWords Go.Proofs.YtkbfknodibnkgaaW.PrintLast
attribute [local go_sem] max2_int min2_int max_two min_two   -- for this text's walks alone
set_option linter.unusedVariables false
set_option linter.unusedSimpArgs false

/-! ### spec_WallParts: function 23 -/
mutual
def spec_WallParts.l0 : Nat → List Int → Int → Int → Int → Int → Option (Int)
 | 0, _, _, _, _, _ => none
 | k + 1, x3, x4, x356000, x356001, x356002 => if x4 < (x3.length : Int) then (if 0 ≤ x4 then ((some (x3.set (x4 : Int).toNat x4 : List Int)).bind fun y361 => ((spec_IsEdgeCorner.f x356000 x356001 x4).bind fun t362 => (if t362 = true then (spec_WallParts.l0 k (y361.set (x4 : Int).toNat 0) (wrap64 (x4 + 1)) x356000 x356001 x356002) else (spec_WallParts.l0 k y361 (wrap64 (x4 + 1)) x356000 x356001 x356002)))) else (none)) else (spec_WallParts.l1 k x3 0 x356000 x356001 x356002)
def spec_WallParts.l1 : Nat → List Int → Int → Int → Int → Int → Option (Int)
 | 0, _, _, _, _, _ => none
 | k + 1, x3, x5, x356000, x356001, x356002 => (spec_CountGaps.f x356000 x356001).bind fun t364 => (if x5 < t364 then ((spec_CornersOf.f x356000 x356001 x5).bind fun bt365 => (if 0 ≤ bt365.2 then (if bt365.2 < (x3.length : Int) then (spec_WallParts.l2 k x3 x5 bt365.1 (rd x3 bt365.2) 0 x356000 x356001 x356002) else (none)) else (none))) else (spec_WallParts.l3 k x3 0 0))
def spec_WallParts.l2 : Nat → List Int → Int → Int → Int → Int → Int → Int → Int → Option (Int)
 | 0, _, _, _, _, _, _, _, _ => none
 | k + 1, x3, x5, x6, x8, x9, x356000, x356001, x356002 => if x9 < (x3.length : Int) then ((spec_l03Bit.f x356002 x5).bind fun t368 => (spec_WallParts.j3 k x3 x5 x6 x8 x9 (!t368) x356000 x356001 x356002)) else (spec_WallParts.j3 k x3 x5 x6 x8 x9 false x356000 x356001 x356002)
def spec_WallParts.j3 : Nat → List Int → Int → Int → Int → Int → Bool → Int → Int → Int → Option (Int)
 | 0, _, _, _, _, _, _, _, _, _ => none
 | k + 1, x3, x5, x6, x8, x9, x66, x356000, x356001, x356002 => if x66 = true then (if 0 ≤ x9 then (if x9 < (x3.length : Int) then (if (rd x3 x9) = x8 then (if 0 ≤ x6 then (if x6 < (x3.length : Int) then (spec_WallParts.l2 k (x3.set (x9 : Int).toNat (rd x3 x6)) x5 x6 x8 (wrap64 (x9 + 1)) x356000 x356001 x356002) else (none)) else (none)) else (spec_WallParts.l2 k x3 x5 x6 x8 (wrap64 (x9 + 1)) x356000 x356001 x356002)) else (none)) else (none)) else (spec_WallParts.l1 k x3 (wrap64 (x5 + 1)) x356000 x356001 x356002)
def spec_WallParts.l3 : Nat → List Int → Int → Int → Option (Int)
 | 0, _, _, _ => none
 | k + 1, x3, x10, x11 => if x11 < (x3.length : Int) then (spec_WallParts.l4 k x3 x10 x11 true 0) else (some x10)
def spec_WallParts.l4 : Nat → List Int → Int → Int → Bool → Int → Option (Int)
 | 0, _, _, _, _, _ => none
 | k + 1, x3, x10, x11, x12, x13 => if x13 < x11 then (if x12 = true then (if 0 ≤ x13 then (if x13 < (x3.length : Int) then (if 0 ≤ x11 then (if x11 < (x3.length : Int) then (spec_WallParts.l4 k x3 x10 x11 ((rd x3 x13) != (rd x3 x11)) (wrap64 (x13 + 1))) else (none)) else (none)) else (none)) else (none)) else (spec_WallParts.l4 k x3 x10 x11 false (wrap64 (x13 + 1)))) else (if x12 = true then (spec_WallParts.l3 k x3 (wrap64 (x10 + 1)) (wrap64 (x11 + 1))) else (spec_WallParts.l3 k x3 x10 (wrap64 (x11 + 1))))
end
def spec_WallParts.f (k : Nat) (a0_0 : Int) (a0_1 : Int) (a0_2 : Int) : Option (Int) := (spec_MazeOk.f a0_0 a0_1 a0_2).bind fun t356 => (if t356 = true then ((spec_CountCorners.f a0_0 a0_1).bind fun t357 => (if 0 ≤ t357 then (if (t357 : Int).toNat ≤ 35184372088832 then (spec_WallParts.l0 k (List.replicate (t357 : Int).toNat 0) 0 a0_0 a0_1 a0_2) else (none)) else (none))) else (some 0))
theorem spec_WallParts.mono_l : ∀ k, (∀ y0 y1 y2 y3 y4, LeO (spec_WallParts.l0 k y0 y1 y2 y3 y4) (spec_WallParts.l0 (k + 1) y0 y1 y2 y3 y4)) ∧ (∀ y0 y1 y2 y3 y4, LeO (spec_WallParts.l1 k y0 y1 y2 y3 y4) (spec_WallParts.l1 (k + 1) y0 y1 y2 y3 y4)) ∧ (∀ y0 y1 y2 y3 y4 y5 y6 y7, LeO (spec_WallParts.l2 k y0 y1 y2 y3 y4 y5 y6 y7) (spec_WallParts.l2 (k + 1) y0 y1 y2 y3 y4 y5 y6 y7)) ∧ (∀ y0 y1 y2 y3 y4 y5 y6 y7 y8, LeO (spec_WallParts.j3 k y0 y1 y2 y3 y4 y5 y6 y7 y8) (spec_WallParts.j3 (k + 1) y0 y1 y2 y3 y4 y5 y6 y7 y8)) ∧ (∀ y0 y1 y2, LeO (spec_WallParts.l3 k y0 y1 y2) (spec_WallParts.l3 (k + 1) y0 y1 y2)) ∧ (∀ y0 y1 y2 y3 y4, LeO (spec_WallParts.l4 k y0 y1 y2 y3 y4) (spec_WallParts.l4 (k + 1) y0 y1 y2 y3 y4))
 | 0 => ⟨fun _ _ _ _ _ r h => by simp [spec_WallParts.l0] at h, fun _ _ _ _ _ r h => by simp [spec_WallParts.l1] at h, fun _ _ _ _ _ _ _ _ r h => by simp [spec_WallParts.l2] at h, fun _ _ _ _ _ _ _ _ _ r h => by simp [spec_WallParts.j3] at h, fun _ _ _ r h => by simp [spec_WallParts.l3] at h, fun _ _ _ _ _ r h => by simp [spec_WallParts.l4] at h⟩
 | k + 1 => by
  obtain ⟨ih0, ih1, ih2, ih3, ih4, ih5⟩ := spec_WallParts.mono_l k
  refine ⟨?_, ?_, ?_, ?_, ?_, ?_⟩
  ·intro y0 y1 y2 y3 y4
   unfold spec_WallParts.l0
   repeat' first
   | (with_reducible exact ih0 _ _ _ _ _)
   | (with_reducible exact ih1 _ _ _ _ _)
   | (with_reducible exact ih2 _ _ _ _ _ _ _ _)
   | (with_reducible exact ih3 _ _ _ _ _ _ _ _ _)
   | (with_reducible exact ih4 _ _ _)
   | (with_reducible exact ih5 _ _ _ _ _)
   | (with_reducible exact LeO.refl _)
   | (with_reducible exact LeO.none _)
   | (with_reducible refine LeO.ite ?_ ?_)
   | (with_reducible refine LeO.bind ?_ (fun _ => ?_))
   | exact ih0 _ _ _ _ _
   | exact ih1 _ _ _ _ _
   | exact ih2 _ _ _ _ _ _ _ _
   | exact ih3 _ _ _ _ _ _ _ _ _
   | exact ih4 _ _ _
   | exact ih5 _ _ _ _ _
   | exact LeO.none _
   | refine LeO.ite ?_ ?_
   | refine LeO.bind ?_ (fun _ => ?_)
  ·intro y0 y1 y2 y3 y4
   unfold spec_WallParts.l1
   repeat' first
   | (with_reducible exact ih0 _ _ _ _ _)
   | (with_reducible exact ih1 _ _ _ _ _)
   | (with_reducible exact ih2 _ _ _ _ _ _ _ _)
   | (with_reducible exact ih3 _ _ _ _ _ _ _ _ _)
   | (with_reducible exact ih4 _ _ _)
   | (with_reducible exact ih5 _ _ _ _ _)
   | (with_reducible exact LeO.refl _)
   | (with_reducible exact LeO.none _)
   | (with_reducible refine LeO.ite ?_ ?_)
   | (with_reducible refine LeO.bind ?_ (fun _ => ?_))
   | exact ih0 _ _ _ _ _
   | exact ih1 _ _ _ _ _
   | exact ih2 _ _ _ _ _ _ _ _
   | exact ih3 _ _ _ _ _ _ _ _ _
   | exact ih4 _ _ _
   | exact ih5 _ _ _ _ _
   | exact LeO.none _
   | refine LeO.ite ?_ ?_
   | refine LeO.bind ?_ (fun _ => ?_)
  ·intro y0 y1 y2 y3 y4 y5 y6 y7
   unfold spec_WallParts.l2
   repeat' first
   | (with_reducible exact ih0 _ _ _ _ _)
   | (with_reducible exact ih1 _ _ _ _ _)
   | (with_reducible exact ih2 _ _ _ _ _ _ _ _)
   | (with_reducible exact ih3 _ _ _ _ _ _ _ _ _)
   | (with_reducible exact ih4 _ _ _)
   | (with_reducible exact ih5 _ _ _ _ _)
   | (with_reducible exact LeO.refl _)
   | (with_reducible exact LeO.none _)
   | (with_reducible refine LeO.ite ?_ ?_)
   | (with_reducible refine LeO.bind ?_ (fun _ => ?_))
   | exact ih0 _ _ _ _ _
   | exact ih1 _ _ _ _ _
   | exact ih2 _ _ _ _ _ _ _ _
   | exact ih3 _ _ _ _ _ _ _ _ _
   | exact ih4 _ _ _
   | exact ih5 _ _ _ _ _
   | exact LeO.none _
   | refine LeO.ite ?_ ?_
   | refine LeO.bind ?_ (fun _ => ?_)
  ·intro y0 y1 y2 y3 y4 y5 y6 y7 y8
   unfold spec_WallParts.j3
   repeat' first
   | (with_reducible exact ih0 _ _ _ _ _)
   | (with_reducible exact ih1 _ _ _ _ _)
   | (with_reducible exact ih2 _ _ _ _ _ _ _ _)
   | (with_reducible exact ih3 _ _ _ _ _ _ _ _ _)
   | (with_reducible exact ih4 _ _ _)
   | (with_reducible exact ih5 _ _ _ _ _)
   | (with_reducible exact LeO.refl _)
   | (with_reducible exact LeO.none _)
   | (with_reducible refine LeO.ite ?_ ?_)
   | (with_reducible refine LeO.bind ?_ (fun _ => ?_))
   | exact ih0 _ _ _ _ _
   | exact ih1 _ _ _ _ _
   | exact ih2 _ _ _ _ _ _ _ _
   | exact ih3 _ _ _ _ _ _ _ _ _
   | exact ih4 _ _ _
   | exact ih5 _ _ _ _ _
   | exact LeO.none _
   | refine LeO.ite ?_ ?_
   | refine LeO.bind ?_ (fun _ => ?_)
  ·intro y0 y1 y2
   unfold spec_WallParts.l3
   repeat' first
   | (with_reducible exact ih0 _ _ _ _ _)
   | (with_reducible exact ih1 _ _ _ _ _)
   | (with_reducible exact ih2 _ _ _ _ _ _ _ _)
   | (with_reducible exact ih3 _ _ _ _ _ _ _ _ _)
   | (with_reducible exact ih4 _ _ _)
   | (with_reducible exact ih5 _ _ _ _ _)
   | (with_reducible exact LeO.refl _)
   | (with_reducible exact LeO.none _)
   | (with_reducible refine LeO.ite ?_ ?_)
   | (with_reducible refine LeO.bind ?_ (fun _ => ?_))
   | exact ih0 _ _ _ _ _
   | exact ih1 _ _ _ _ _
   | exact ih2 _ _ _ _ _ _ _ _
   | exact ih3 _ _ _ _ _ _ _ _ _
   | exact ih4 _ _ _
   | exact ih5 _ _ _ _ _
   | exact LeO.none _
   | refine LeO.ite ?_ ?_
   | refine LeO.bind ?_ (fun _ => ?_)
  ·intro y0 y1 y2 y3 y4
   unfold spec_WallParts.l4
   repeat' first
   | (with_reducible exact ih0 _ _ _ _ _)
   | (with_reducible exact ih1 _ _ _ _ _)
   | (with_reducible exact ih2 _ _ _ _ _ _ _ _)
   | (with_reducible exact ih3 _ _ _ _ _ _ _ _ _)
   | (with_reducible exact ih4 _ _ _)
   | (with_reducible exact ih5 _ _ _ _ _)
   | (with_reducible exact LeO.refl _)
   | (with_reducible exact LeO.none _)
   | (with_reducible refine LeO.ite ?_ ?_)
   | (with_reducible refine LeO.bind ?_ (fun _ => ?_))
   | exact ih0 _ _ _ _ _
   | exact ih1 _ _ _ _ _
   | exact ih2 _ _ _ _ _ _ _ _
   | exact ih3 _ _ _ _ _ _ _ _ _
   | exact ih4 _ _ _
   | exact ih5 _ _ _ _ _
   | exact LeO.none _
   | refine LeO.ite ?_ ?_
   | refine LeO.bind ?_ (fun _ => ?_)
theorem spec_WallParts.mono : ∀ a0 a1 a2 k, LeO (spec_WallParts.f k a0 a1 a2) (spec_WallParts.f (k + 1) a0 a1 a2) := by
 intro a0 a1 a2 k
 obtain ⟨ih0, ih1, ih2, ih3, ih4, ih5⟩ := spec_WallParts.mono_l k
 unfold spec_WallParts.f
 repeat' first
   | (with_reducible exact ih0 _ _ _ _ _)
   | (with_reducible exact ih1 _ _ _ _ _)
   | (with_reducible exact ih2 _ _ _ _ _ _ _ _)
   | (with_reducible exact ih3 _ _ _ _ _ _ _ _ _)
   | (with_reducible exact ih4 _ _ _)
   | (with_reducible exact ih5 _ _ _ _ _)
   | (with_reducible exact LeO.refl _)
   | (with_reducible exact LeO.none _)
   | (with_reducible refine LeO.ite ?_ ?_)
   | (with_reducible refine LeO.bind ?_ (fun _ => ?_))
   | exact ih0 _ _ _ _ _
   | exact ih1 _ _ _ _ _
   | exact ih2 _ _ _ _ _ _ _ _
   | exact ih3 _ _ _ _ _ _ _ _ _
   | exact ih4 _ _ _
   | exact ih5 _ _ _ _ _
   | exact LeO.none _
   | refine LeO.ite ?_ ?_
   | refine LeO.bind ?_ (fun _ => ?_)
set_option maxHeartbeats 8000000 in
set_option maxRecDepth 100000 in
theorem spec_WallParts.calls (k : Nat) (a0_0 : Int) (a0_1 : Int) (a0_2 : Int) (r : Int) (w : World) (h : spec_WallParts.f k a0_0 a0_1 a0_2 = some r) :
  Calls Try.prog 23 #[.agg #[.int .i64 a0_0, .int .i64 a0_1, .int .i64 a0_2]] w fun e w' => e = .returned (.int .i64 r) ∧ Below w.heap.size w w' := by
 have hu31 := Try.underlying31
 have hu29 := Try.underlying29
 have HB := Aside0.mk (Below.refl w.heap.size w)
 have H : ((spec_MazeOk.f a0_0 a0_1 a0_2).bind fun t356 => (if t356 = true then ((spec_CountCorners.f a0_0 a0_1).bind fun t357 => (if 0 ≤ t357 then (if (t357 : Int).toNat ≤ 35184372088832 then (spec_WallParts.l0 k (List.replicate (t357 : Int).toNat 0) 0 a0_0 a0_1 a0_2) else (none)) else (none))) else (some 0))) = some r := h
 clear h
 replace H := Option.bind_eq_some_iff.mp H
 obtain ⟨t356, A20, H⟩ := H
 replace H : (if t356 = true then ((spec_CountCorners.f a0_0 a0_1).bind fun t357 => (if 0 ≤ t357 then (if (t357 : Int).toNat ≤ 35184372088832 then (spec_WallParts.l0 k (List.replicate (t357 : Int).toNat 0) 0 a0_0 a0_1 a0_2) else (none)) else (none))) else (some 0)) = some r := H
 have A2 := Aside0.mk A20
 clear A20
 by_cases c3 : t356 = true
 ·subst c3
  have H1 : ((spec_CountCorners.f a0_0 a0_1).bind fun t357 => (if 0 ≤ t357 then (if (t357 : Int).toNat ≤ 35184372088832 then (spec_WallParts.l0 k (List.replicate (t357 : Int).toNat 0) 0 a0_0 a0_1 a0_2) else (none)) else (none))) = some r := by rw [if_pos rfl] at H; exact H
  clear H
  have H := H1
  clear H1
  replace H := Option.bind_eq_some_iff.mp H
  obtain ⟨t357, A40, H⟩ := H
  replace H : (if 0 ≤ t357 then (if (t357 : Int).toNat ≤ 35184372088832 then (spec_WallParts.l0 k (List.replicate (t357 : Int).toNat 0) 0 a0_0 a0_1 a0_2) else (none)) else (none)) = some r := H
  have A4 := Aside0.mk A40
  clear A40
  by_cases c5 : 0 ≤ t357
  ·rw [if_pos c5] at H
   have c5b0 := eq_true c5
   have c5b1 : decide (0 ≤ t357) = true := decide_eq_true c5
   clear c5
   by_cases c6 : (t357 : Int).toNat ≤ 35184372088832
   ·rw [if_pos c6] at H
    have c6b0 := eq_true c6
    have c6b1 : decide ((t357 : Int).toNat ≤ 35184372088832) = true := decide_eq_true c6
    clear c6
    obtain ⟨y358, hy358⟩ : ∃ y_ : List Int, y_ = (List.replicate (t357 : Int).toNat 0) := ⟨_, rfl⟩
    replace H : (spec_WallParts.l0 k y358 0 a0_0 a0_1 a0_2) = some r := by first | (rw [hy358]; with_reducible exact H) | (have H2_ := (Option.bind_some _ _).symm.trans H; rw [hy358]; with_reducible exact H2_) | (have H2_ := (Option.bind_some _ _).symm.trans H; with_reducible exact H2_) | with_reducible exact H | (rw [hy358]; exact H) | exact H
    have Ny358 := Aside0.mk hy358
    clear hy358
    have H' := Aside0.mk H
    clear H
    go_enter Try.func23, Try.ntmps23
    go_wp2_with (first | ((with_reducible refine gate_dst (N := 1) rfl ?_); refine box_event ?hg (N := 1) ?hd (cs := #[.int .i64 a0_0, .int .i64 a0_1, .int .i64 a0_2]) (t := 31) ?hr ?_; (case hd => rfl); (case hg => rfl); (case hr => first | (go_simp; done) | (go_simp; rfl)); intro gb355 hg w7 hbox hb; have n0_ := Aside0.mk (below_step hb_ hb); have n1_ := Aside0.mk (hbox); have n2_ := Aside0.mk ((by rw [hg]; exact (below_size hb_) : w.heap.size ≤ gb355)); have n3_ := Aside0.mk ((by rw [hg]; exact (below_size hb_) : w.heap.size ≤ gb355)); clear HB; have HB := n0_; have BK355 := n1_; have GW355 := n2_; have GE355 := n3_; clear n0_ n1_ n2_ n3_; clear hb hbox hg; have hcz8_0 := cz_ (.int .i64 a0_0) BK355.out 0; have hcz8_1 := cz_ (.int .i64 a0_1) BK355.out 1; have hcz8_2 := cz_ (.int .i64 a0_2) BK355.out 2; have hfz8_0 := blk_frozen BK355.out 0; have hfz8_1 := blk_frozen BK355.out 1; have hfz8_2 := blk_frozen BK355.out 2) | (go_at_call 40; (with_reducible refine (spec_MazeOk.calls a0_0 a0_1 a0_2 true _ A2.out).mono ?_); rintro e w9 ⟨rfl, hb⟩; have n0_ := Aside0.mk (blk_below (g := gb355) (o := .cells #[.int .i64 a0_0, .int .i64 a0_1, .int .i64 a0_2] 31 (0, 0)) (kb_ BK355.out) hb); have n1_ := Aside0.mk (below_step hb_ hb); clear BK355; clear HB; have BK355 := n0_; have HB := n1_; clear n0_ n1_; (try clear hb); (try clear hb2); (try clear hk); (try clear hi); have hcz10_0 := cz_ (.int .i64 a0_0) BK355.out 0; have hcz10_1 := cz_ (.int .i64 a0_1) BK355.out 1; have hcz10_2 := cz_ (.int .i64 a0_2) BK355.out 2; have hfz10_0 := blk_frozen BK355.out 0; have hfz10_1 := blk_frozen BK355.out 1; have hfz10_2 := blk_frozen BK355.out 2) | (go_at_call 41; (with_reducible refine (spec_CountCorners.calls a0_0 a0_1 t357 _ A4.out).mono ?_); rintro e w11 ⟨rfl, hb⟩; have n0_ := Aside0.mk (blk_below (g := gb355) (o := .cells #[.int .i64 a0_0, .int .i64 a0_1, .int .i64 a0_2] 31 (0, 0)) (kb_ BK355.out) hb); have n1_ := Aside0.mk (below_step hb_ hb); clear BK355; clear HB; have BK355 := n0_; have HB := n1_; clear n0_ n1_; (try clear hb); (try clear hb2); (try clear hk); (try clear hi)) | ((with_reducible refine gate_dst (N := 20) rfl ?_); refine Kd.R_make (Kd.int .i64) _ 3 rfl (N := 20) rfl 26 _ _ rfl t357 rfl rfl Try.underlying26 (.int .i64 0) 8 info3 rfl (by decide) (by omega) 0 (ok := fun _ => True) (okp := fun _ => True) rfl (fun _ hk => hk) trivial (of_decide_eq_true (by first | (with_reducible assumption) | assumption)) (Nat.le_trans (Nat.mul_le_mul_right _ (of_decide_eq_true (by first | (with_reducible assumption) | assumption) : t357.toNat ≤ 35184372088832)) (by omega)) (Below.refl _ _) (Nat.le_refl _) ?_; intro v359 w12 ho13 hb hg_ hnew_; clear hg_ hnew_; (first | rw [← Ny358.out] at ho13 | (simp only [Int.reduceToNat] at ho13; rw [← Ny358.out] at ho13)); have n0_ := Aside0.mk (Kd.R_lower ho13 (below_size hb_)); have n1_ := Aside0.mk (blk_below (g := gb355) (o := .cells #[.int .i64 a0_0, .int .i64 a0_1, .int .i64 a0_2] 31 (0, 0)) (kb_ BK355.out) hb); have n2_ := Aside0.mk (below_step hb_ hb); clear BK355; clear HB; have HO360 := n0_; have BK355 := n1_; have HB := n2_; clear n0_ n1_ n2_; clear hb ho13))
    repeat (go_quiet (first | ((with_reducible refine gate_dst (N := 1) rfl ?_); refine box_event ?hg (N := 1) ?hd (cs := #[.int .i64 a0_0, .int .i64 a0_1, .int .i64 a0_2]) (t := 31) ?hr ?_; (case hd => rfl); (case hg => rfl); (case hr => first | (go_simp; done) | (go_simp; rfl)); intro gb355 hg w7 hbox hb; have n0_ := Aside0.mk (below_step hb_ hb); have n1_ := Aside0.mk (hbox); have n2_ := Aside0.mk ((by rw [hg]; exact (below_size hb_) : w.heap.size ≤ gb355)); have n3_ := Aside0.mk ((by rw [hg]; exact (below_size hb_) : w.heap.size ≤ gb355)); clear HB; have HB := n0_; have BK355 := n1_; have GW355 := n2_; have GE355 := n3_; clear n0_ n1_ n2_ n3_; clear hb hbox hg; have hcz8_0 := cz_ (.int .i64 a0_0) BK355.out 0; have hcz8_1 := cz_ (.int .i64 a0_1) BK355.out 1; have hcz8_2 := cz_ (.int .i64 a0_2) BK355.out 2; have hfz8_0 := blk_frozen BK355.out 0; have hfz8_1 := blk_frozen BK355.out 1; have hfz8_2 := blk_frozen BK355.out 2) | (go_at_call 40; (with_reducible refine (spec_MazeOk.calls a0_0 a0_1 a0_2 true _ A2.out).mono ?_); rintro e w9 ⟨rfl, hb⟩; have n0_ := Aside0.mk (blk_below (g := gb355) (o := .cells #[.int .i64 a0_0, .int .i64 a0_1, .int .i64 a0_2] 31 (0, 0)) (kb_ BK355.out) hb); have n1_ := Aside0.mk (below_step hb_ hb); clear BK355; clear HB; have BK355 := n0_; have HB := n1_; clear n0_ n1_; (try clear hb); (try clear hb2); (try clear hk); (try clear hi); have hcz10_0 := cz_ (.int .i64 a0_0) BK355.out 0; have hcz10_1 := cz_ (.int .i64 a0_1) BK355.out 1; have hcz10_2 := cz_ (.int .i64 a0_2) BK355.out 2; have hfz10_0 := blk_frozen BK355.out 0; have hfz10_1 := blk_frozen BK355.out 1; have hfz10_2 := blk_frozen BK355.out 2) | (go_at_call 41; (with_reducible refine (spec_CountCorners.calls a0_0 a0_1 t357 _ A4.out).mono ?_); rintro e w11 ⟨rfl, hb⟩; have n0_ := Aside0.mk (blk_below (g := gb355) (o := .cells #[.int .i64 a0_0, .int .i64 a0_1, .int .i64 a0_2] 31 (0, 0)) (kb_ BK355.out) hb); have n1_ := Aside0.mk (below_step hb_ hb); clear BK355; clear HB; have BK355 := n0_; have HB := n1_; clear n0_ n1_; (try clear hb); (try clear hb2); (try clear hk); (try clear hi)) | ((with_reducible refine gate_dst (N := 20) rfl ?_); refine Kd.R_make (Kd.int .i64) _ 3 rfl (N := 20) rfl 26 _ _ rfl t357 rfl rfl Try.underlying26 (.int .i64 0) 8 info3 rfl (by decide) (by omega) 0 (ok := fun _ => True) (okp := fun _ => True) rfl (fun _ hk => hk) trivial (of_decide_eq_true (by first | (with_reducible assumption) | assumption)) (Nat.le_trans (Nat.mul_le_mul_right _ (of_decide_eq_true (by first | (with_reducible assumption) | assumption) : t357.toNat ≤ 35184372088832)) (by omega)) (Below.refl _ _) (Nat.le_refl _) ?_; intro v359 w12 ho13 hb hg_ hnew_; clear hg_ hnew_; (first | rw [← Ny358.out] at ho13 | (simp only [Int.reduceToNat] at ho13; rw [← Ny358.out] at ho13)); have n0_ := Aside0.mk (Kd.R_lower ho13 (below_size hb_)); have n1_ := Aside0.mk (blk_below (g := gb355) (o := .cells #[.int .i64 a0_0, .int .i64 a0_1, .int .i64 a0_2] 31 (0, 0)) (kb_ BK355.out) hb); have n2_ := Aside0.mk (below_step hb_ hb); clear BK355; clear HB; have HO360 := n0_; have BK355 := n1_; have HB := n2_; clear n0_ n1_ n2_; clear hb ho13)); try go_wp2_with (first | ((with_reducible refine gate_dst (N := 1) rfl ?_); refine box_event ?hg (N := 1) ?hd (cs := #[.int .i64 a0_0, .int .i64 a0_1, .int .i64 a0_2]) (t := 31) ?hr ?_; (case hd => rfl); (case hg => rfl); (case hr => first | (go_simp; done) | (go_simp; rfl)); intro gb355 hg w7 hbox hb; have n0_ := Aside0.mk (below_step hb_ hb); have n1_ := Aside0.mk (hbox); have n2_ := Aside0.mk ((by rw [hg]; exact (below_size hb_) : w.heap.size ≤ gb355)); have n3_ := Aside0.mk ((by rw [hg]; exact (below_size hb_) : w.heap.size ≤ gb355)); clear HB; have HB := n0_; have BK355 := n1_; have GW355 := n2_; have GE355 := n3_; clear n0_ n1_ n2_ n3_; clear hb hbox hg; have hcz8_0 := cz_ (.int .i64 a0_0) BK355.out 0; have hcz8_1 := cz_ (.int .i64 a0_1) BK355.out 1; have hcz8_2 := cz_ (.int .i64 a0_2) BK355.out 2; have hfz8_0 := blk_frozen BK355.out 0; have hfz8_1 := blk_frozen BK355.out 1; have hfz8_2 := blk_frozen BK355.out 2) | (go_at_call 40; (with_reducible refine (spec_MazeOk.calls a0_0 a0_1 a0_2 true _ A2.out).mono ?_); rintro e w9 ⟨rfl, hb⟩; have n0_ := Aside0.mk (blk_below (g := gb355) (o := .cells #[.int .i64 a0_0, .int .i64 a0_1, .int .i64 a0_2] 31 (0, 0)) (kb_ BK355.out) hb); have n1_ := Aside0.mk (below_step hb_ hb); clear BK355; clear HB; have BK355 := n0_; have HB := n1_; clear n0_ n1_; (try clear hb); (try clear hb2); (try clear hk); (try clear hi); have hcz10_0 := cz_ (.int .i64 a0_0) BK355.out 0; have hcz10_1 := cz_ (.int .i64 a0_1) BK355.out 1; have hcz10_2 := cz_ (.int .i64 a0_2) BK355.out 2; have hfz10_0 := blk_frozen BK355.out 0; have hfz10_1 := blk_frozen BK355.out 1; have hfz10_2 := blk_frozen BK355.out 2) | (go_at_call 41; (with_reducible refine (spec_CountCorners.calls a0_0 a0_1 t357 _ A4.out).mono ?_); rintro e w11 ⟨rfl, hb⟩; have n0_ := Aside0.mk (blk_below (g := gb355) (o := .cells #[.int .i64 a0_0, .int .i64 a0_1, .int .i64 a0_2] 31 (0, 0)) (kb_ BK355.out) hb); have n1_ := Aside0.mk (below_step hb_ hb); clear BK355; clear HB; have BK355 := n0_; have HB := n1_; clear n0_ n1_; (try clear hb); (try clear hb2); (try clear hk); (try clear hi)) | ((with_reducible refine gate_dst (N := 20) rfl ?_); refine Kd.R_make (Kd.int .i64) _ 3 rfl (N := 20) rfl 26 _ _ rfl t357 rfl rfl Try.underlying26 (.int .i64 0) 8 info3 rfl (by decide) (by omega) 0 (ok := fun _ => True) (okp := fun _ => True) rfl (fun _ hk => hk) trivial (of_decide_eq_true (by first | (with_reducible assumption) | assumption)) (Nat.le_trans (Nat.mul_le_mul_right _ (of_decide_eq_true (by first | (with_reducible assumption) | assumption) : t357.toNat ≤ 35184372088832)) (by omega)) (Below.refl _ _) (Nat.le_refl _) ?_; intro v359 w12 ho13 hb hg_ hnew_; clear hg_ hnew_; (first | rw [← Ny358.out] at ho13 | (simp only [Int.reduceToNat] at ho13; rw [← Ny358.out] at ho13)); have n0_ := Aside0.mk (Kd.R_lower ho13 (below_size hb_)); have n1_ := Aside0.mk (blk_below (g := gb355) (o := .cells #[.int .i64 a0_0, .int .i64 a0_1, .int .i64 a0_2] 31 (0, 0)) (kb_ BK355.out) hb); have n2_ := Aside0.mk (below_step hb_ hb); clear BK355; clear HB; have HO360 := n0_; have BK355 := n1_; have HB := n2_; clear n0_ n1_ n2_; clear hb ho13)))
    go_loopg [4] k (fun kq v4 w' => ∃ (x3_1 : List Int) (x4_1 : Int), v4 = .int .i64 x4_1 ∧ Aside0 (spec_WallParts.l0 kq x3_1 x4_1 a0_0 a0_1 a0_2 = some r) ∧ Aside0 (kq ≤ k) ∧ Aside0 (Kd.R (Kd.int .i64) 3 w' w.heap.size (fun _ => True) v359 x3_1) ∧ Aside0 (w'.heap[gb355]? = some (.cells #[.int .i64 a0_0, .int .i64 a0_1, .int .i64 a0_2] 31 (0, 0))) ∧ Aside0 (Below w.heap.size w w'))
    case atStart => exact ⟨(y358), (0), (by first | rfl | (simp; done) | (simp [*]; done)), H', ⟨Nat.le_refl _⟩, ⟨kr_ HO360.out⟩, ⟨kb_ BK355.out⟩, ⟨hb_⟩⟩
    case round =>
     clear H'
     try clear c2
     try clear p2
     try clear c3
     try clear c5
     try clear c5b0
     try clear c5b1
     try clear c6
     try clear c6b0
     try clear c6b1
     try clear hcz10_0
     try clear hcz10_1
     try clear hcz10_2
     try clear hcz8_0
     try clear hcz8_1
     try clear hcz8_2
     try clear hfz10_0
     try clear hfz10_1
     try clear hfz10_2
     try clear hfz8_0
     try clear hfz8_1
     try clear hfz8_2
     obtain ⟨x3_1, x4_1, rfl, HA, HK1, HO_3, BK355, HB⟩ := hrel
     cases gk with
     | zero => exact absurd HA.out (by simp [spec_WallParts.l0])
     | succ k1 =>
      have H := HA.out
      clear HA
      simp only [spec_WallParts.l0] at H
      by_cases c14 : x4_1 < (x3_1.length : Int)
      ·rw [if_pos c14] at H
       have c14b0 : decide (x4_1 < (x3_1.length : Int)) = true := decide_eq_true c14
       clear c14
       by_cases c15 : 0 ≤ x4_1
       ·rw [if_pos c15] at H
        have c15b0 : decide (0 ≤ x4_1) = true := decide_eq_true c15
        clear c15
        obtain ⟨y361, hy361⟩ : ∃ y_ : List Int, y_ = (x3_1.set (x4_1 : Int).toNat x4_1) := ⟨_, rfl⟩
        replace H : ((spec_IsEdgeCorner.f a0_0 a0_1 x4_1).bind fun t362 => (if t362 = true then (spec_WallParts.l0 k1 (y361.set (x4_1 : Int).toNat 0) (wrap64 (x4_1 + 1)) a0_0 a0_1 a0_2) else (spec_WallParts.l0 k1 y361 (wrap64 (x4_1 + 1)) a0_0 a0_1 a0_2))) = some r := by first | (rw [hy361]; with_reducible exact H) | (have H2_ := (Option.bind_some _ _).symm.trans H; rw [hy361]; with_reducible exact H2_) | (have H2_ := (Option.bind_some _ _).symm.trans H; with_reducible exact H2_) | with_reducible exact H | (rw [hy361]; exact H) | exact H
        have Ny361 := Aside0.mk hy361
        clear hy361
        replace H := Option.bind_eq_some_iff.mp H
        obtain ⟨t362, A170, H⟩ := H
        replace H : (if t362 = true then (spec_WallParts.l0 k1 (y361.set (x4_1 : Int).toNat 0) (wrap64 (x4_1 + 1)) a0_0 a0_1 a0_2) else (spec_WallParts.l0 k1 y361 (wrap64 (x4_1 + 1)) a0_0 a0_1 a0_2)) = some r := H
        have A17 := Aside0.mk A170
        clear A170
        by_cases c18 : t362 = true
        ·subst c18
         have H1 : (spec_WallParts.l0 k1 (y361.set (x4_1 : Int).toNat 0) (wrap64 (x4_1 + 1)) a0_0 a0_1 a0_2) = some r := by rw [if_pos rfl] at H; exact H
         clear H
         have H := H1
         clear H1
         obtain ⟨y363, hy363⟩ : ∃ y_ : List Int, y_ = (y361.set (x4_1 : Int).toNat 0) := ⟨_, rfl⟩
         replace H : (spec_WallParts.l0 k1 y363 (wrap64 (x4_1 + 1)) a0_0 a0_1 a0_2) = some r := by first | (rw [hy363]; with_reducible exact H) | (have H2_ := (Option.bind_some _ _).symm.trans H; rw [hy363]; with_reducible exact H2_) | (have H2_ := (Option.bind_some _ _).symm.trans H; with_reducible exact H2_) | with_reducible exact H | (rw [hy363]; exact H) | exact H
         have Ny363 := Aside0.mk hy363
         clear hy363
         have H' := Aside0.mk H
         clear H
         obtain ⟨Ao20, co20, eo20⟩ := Kd.R_slice HO_3.out
         subst eo20
         have p16 : 0 ≤ (x4_1 : Int) := of_decide_eq_true (by first | (with_reducible assumption) | assumption)
         have q16 : (x4_1 : Int) < ((x3_1.length : Int) : Int) := of_decide_eq_true (by first | (with_reducible assumption) | assumption)
         obtain ⟨go16, co16, eo16, gb16, gl16, cl16, HG16⟩ := Kd.R_form HO_3.out (by omega)
         (first | cases eo16 | (injection eo16 with ea_ en_ ec_; (first | subst ea_ | (injection ea_ with ea_; subst ea_)); subst ec_; clear en_))
         have GB16 := Aside0.mk gb16
         have GG16 := Aside0.mk HG16
         clear gb16 gl16 HG16
         obtain ⟨hx16_0, hf16_0⟩ := Kd.R_celln 0 HO_3.out (x4_1 : Int) p16 q16
         replace p16 := eq_true p16
         replace q16 := eq_true q16
         have HP21 := Kd.R_putg HO_3.out (x4_1 : Int) x4_1
         go_wp2_with (first | ((with_reducible refine gate_store (t := 3) (p := 30) rfl ?_); (try (rw [drewN_self wr]; generalize hq_ : World.drewN wr _ = wr; have n0_ := Aside0.mk (Kd.R_at hq_ HO_3.out); have n1_ := Aside0.mk (blk_at hq_ BK355.out); have n2_ := Aside0.mk (below_at hq_ HB.out); clear hq_ HO_3 BK355 HB; have HO_3 := n0_; have BK355 := n1_; have HB := n2_; clear n0_ n1_ n2_; (try (have HP21 := Kd.R_putg HO_3.out (x4_1 : Int) x4_1)))); refine store_event (t := 3) (p := 30) (v := ?vo_w22) (w1 := (wr.setCell ⟨go16, (x4_1 : Int).toNat, none⟩ (.int .i64 x4_1))) ?hg ?ho ?hn ?hr ?_; (case ho => rfl); (case hg => rfl); (case hn => rfl); (case hr => first | (go_simp; done) | (go_simp; rfl)); intro w22 hw; have hg : wr.grownBy w22 (some go16) := (by rw [hw]; exact HP21.2); have hp_ : Kd.R (Kd.int .i64) 3 w22 w.heap.size (fun _ => True) (.slice (some ⟨go16, 0, none⟩) x3_1.length co20) y361 := (by rw [hw, Ny361.out]; exact HP21.1); clear HP21; have n0_ := Aside0.mk (hp_); have n1_ := Aside0.mk (blk_grown (g := gb355) (o := .cells #[.int .i64 a0_0, .int .i64 a0_1, .int .i64 a0_2] 31 (0, 0)) (kb_ BK355.out) hg (Kd.R_ne HO_3.out BK355.out (by decide))); have n2_ := Aside0.mk ((by rw [hw]; exact below_set (HB.out) GB16.out : Below w.heap.size w w22)); clear HO_3; clear BK355; clear HB; have HO_3 := n0_; have BK355 := n1_; have HB := n2_; clear n0_ n1_ n2_; clear hg hw hp_; have hcz23_0 := cz_ (.int .i64 a0_0) BK355.out 0; have hcz23_1 := cz_ (.int .i64 a0_1) BK355.out 1; have hcz23_2 := cz_ (.int .i64 a0_2) BK355.out 2; have hfz23_0 := blk_frozen BK355.out 0; have hfz23_1 := blk_frozen BK355.out 1; have hfz23_2 := blk_frozen BK355.out 2) | (go_at_call 42; (with_reducible refine (spec_IsEdgeCorner.calls a0_0 a0_1 x4_1 true _ A17.out).mono ?_); rintro e w24 ⟨rfl, hb⟩; have n0_ := Aside0.mk (Kd.R_below (kr_ HO_3.out) hb); have n1_ := Aside0.mk (blk_below (g := gb355) (o := .cells #[.int .i64 a0_0, .int .i64 a0_1, .int .i64 a0_2] 31 (0, 0)) (kb_ BK355.out) hb); have n2_ := Aside0.mk (below_step hb_ hb); clear HO_3; clear BK355; clear HB; have HO_3 := n0_; have BK355 := n1_; have HB := n2_; clear n0_ n1_ n2_; (try clear hb); (try clear hb2); (try clear hk); (try clear hi); have p19 : 0 ≤ (x4_1 : Int) := of_decide_eq_true (by first | (with_reducible assumption) | assumption); have q19 : (x4_1 : Int) < ((x3_1.length : Int) : Int) := of_decide_eq_true (by first | (with_reducible assumption) | assumption); obtain ⟨hx19_0, hf19_0⟩ := Kd.R_celln 0 HO_3.out (x4_1 : Int) p19 q19; replace p19 := eq_true p19; replace q19 := eq_true q19; obtain ⟨hy25_, hz25_⟩ := Kd.R_celln 0 HO_3.out (x4_1 : Int) (of_decide_eq_true (by first | (with_reducible assumption) | assumption)) (of_decide_eq_true (by first | (with_reducible assumption) | assumption)); have HP25 := Kd.R_putg HO_3.out (x4_1 : Int) 0) | ((with_reducible refine gate_store (t := 3) (p := 37) rfl ?_); (try (rw [drewN_self w24]; generalize hq_ : World.drewN w24 _ = w24; have n0_ := Aside0.mk (Kd.R_at hq_ HO_3.out); have n1_ := Aside0.mk (blk_at hq_ BK355.out); have n2_ := Aside0.mk (below_at hq_ HB.out); clear hq_ HO_3 BK355 HB; have HO_3 := n0_; have BK355 := n1_; have HB := n2_; clear n0_ n1_ n2_; (try (obtain ⟨hy25_, hz25_⟩ := Kd.R_celln 0 HO_3.out (x4_1 : Int) (of_decide_eq_true (by first | (with_reducible assumption) | assumption)) (of_decide_eq_true (by first | (with_reducible assumption) | assumption)))); (try (have HP25 := Kd.R_putg HO_3.out (x4_1 : Int) 0)))); refine store_event (t := 3) (p := 37) (v := ?vo_w26) (w1 := (w24.setCell ⟨go16, (x4_1 : Int).toNat, none⟩ (.int .i64 0))) ?hg ?ho ?hn ?hr ?_; (case ho => rfl); (case hg => rfl); (case hn => rfl); (case hr => first | (go_simp; done) | (go_simp; rfl)); intro w26 hw; have hg : w24.grownBy w26 (some go16) := (by rw [hw]; exact HP25.2); have hp_ : Kd.R (Kd.int .i64) 3 w26 w.heap.size (fun _ => True) (.slice (some ⟨go16, 0, none⟩) x3_1.length co20) y363 := (by rw [hw, Ny363.out]; exact HP25.1); clear HP25; have n0_ := Aside0.mk (hp_); have n1_ := Aside0.mk (blk_grown (g := gb355) (o := .cells #[.int .i64 a0_0, .int .i64 a0_1, .int .i64 a0_2] 31 (0, 0)) (kb_ BK355.out) hg (Kd.R_ne HO_3.out BK355.out (by decide))); have n2_ := Aside0.mk ((by rw [hw]; exact below_set (HB.out) GB16.out : Below w.heap.size w w26)); clear HO_3; clear BK355; clear HB; have HO_3 := n0_; have BK355 := n1_; have HB := n2_; clear n0_ n1_ n2_; clear hg hw hp_))
         repeat (go_quiet (first | ((with_reducible refine gate_store (t := 3) (p := 30) rfl ?_); (try (rw [drewN_self wr]; generalize hq_ : World.drewN wr _ = wr; have n0_ := Aside0.mk (Kd.R_at hq_ HO_3.out); have n1_ := Aside0.mk (blk_at hq_ BK355.out); have n2_ := Aside0.mk (below_at hq_ HB.out); clear hq_ HO_3 BK355 HB; have HO_3 := n0_; have BK355 := n1_; have HB := n2_; clear n0_ n1_ n2_; (try (have HP21 := Kd.R_putg HO_3.out (x4_1 : Int) x4_1)))); refine store_event (t := 3) (p := 30) (v := ?vo_w22) (w1 := (wr.setCell ⟨go16, (x4_1 : Int).toNat, none⟩ (.int .i64 x4_1))) ?hg ?ho ?hn ?hr ?_; (case ho => rfl); (case hg => rfl); (case hn => rfl); (case hr => first | (go_simp; done) | (go_simp; rfl)); intro w22 hw; have hg : wr.grownBy w22 (some go16) := (by rw [hw]; exact HP21.2); have hp_ : Kd.R (Kd.int .i64) 3 w22 w.heap.size (fun _ => True) (.slice (some ⟨go16, 0, none⟩) x3_1.length co20) y361 := (by rw [hw, Ny361.out]; exact HP21.1); clear HP21; have n0_ := Aside0.mk (hp_); have n1_ := Aside0.mk (blk_grown (g := gb355) (o := .cells #[.int .i64 a0_0, .int .i64 a0_1, .int .i64 a0_2] 31 (0, 0)) (kb_ BK355.out) hg (Kd.R_ne HO_3.out BK355.out (by decide))); have n2_ := Aside0.mk ((by rw [hw]; exact below_set (HB.out) GB16.out : Below w.heap.size w w22)); clear HO_3; clear BK355; clear HB; have HO_3 := n0_; have BK355 := n1_; have HB := n2_; clear n0_ n1_ n2_; clear hg hw hp_; have hcz23_0 := cz_ (.int .i64 a0_0) BK355.out 0; have hcz23_1 := cz_ (.int .i64 a0_1) BK355.out 1; have hcz23_2 := cz_ (.int .i64 a0_2) BK355.out 2; have hfz23_0 := blk_frozen BK355.out 0; have hfz23_1 := blk_frozen BK355.out 1; have hfz23_2 := blk_frozen BK355.out 2) | (go_at_call 42; (with_reducible refine (spec_IsEdgeCorner.calls a0_0 a0_1 x4_1 true _ A17.out).mono ?_); rintro e w24 ⟨rfl, hb⟩; have n0_ := Aside0.mk (Kd.R_below (kr_ HO_3.out) hb); have n1_ := Aside0.mk (blk_below (g := gb355) (o := .cells #[.int .i64 a0_0, .int .i64 a0_1, .int .i64 a0_2] 31 (0, 0)) (kb_ BK355.out) hb); have n2_ := Aside0.mk (below_step hb_ hb); clear HO_3; clear BK355; clear HB; have HO_3 := n0_; have BK355 := n1_; have HB := n2_; clear n0_ n1_ n2_; (try clear hb); (try clear hb2); (try clear hk); (try clear hi); have p19 : 0 ≤ (x4_1 : Int) := of_decide_eq_true (by first | (with_reducible assumption) | assumption); have q19 : (x4_1 : Int) < ((x3_1.length : Int) : Int) := of_decide_eq_true (by first | (with_reducible assumption) | assumption); obtain ⟨hx19_0, hf19_0⟩ := Kd.R_celln 0 HO_3.out (x4_1 : Int) p19 q19; replace p19 := eq_true p19; replace q19 := eq_true q19; obtain ⟨hy25_, hz25_⟩ := Kd.R_celln 0 HO_3.out (x4_1 : Int) (of_decide_eq_true (by first | (with_reducible assumption) | assumption)) (of_decide_eq_true (by first | (with_reducible assumption) | assumption)); have HP25 := Kd.R_putg HO_3.out (x4_1 : Int) 0) | ((with_reducible refine gate_store (t := 3) (p := 37) rfl ?_); (try (rw [drewN_self w24]; generalize hq_ : World.drewN w24 _ = w24; have n0_ := Aside0.mk (Kd.R_at hq_ HO_3.out); have n1_ := Aside0.mk (blk_at hq_ BK355.out); have n2_ := Aside0.mk (below_at hq_ HB.out); clear hq_ HO_3 BK355 HB; have HO_3 := n0_; have BK355 := n1_; have HB := n2_; clear n0_ n1_ n2_; (try (obtain ⟨hy25_, hz25_⟩ := Kd.R_celln 0 HO_3.out (x4_1 : Int) (of_decide_eq_true (by first | (with_reducible assumption) | assumption)) (of_decide_eq_true (by first | (with_reducible assumption) | assumption)))); (try (have HP25 := Kd.R_putg HO_3.out (x4_1 : Int) 0)))); refine store_event (t := 3) (p := 37) (v := ?vo_w26) (w1 := (w24.setCell ⟨go16, (x4_1 : Int).toNat, none⟩ (.int .i64 0))) ?hg ?ho ?hn ?hr ?_; (case ho => rfl); (case hg => rfl); (case hn => rfl); (case hr => first | (go_simp; done) | (go_simp; rfl)); intro w26 hw; have hg : w24.grownBy w26 (some go16) := (by rw [hw]; exact HP25.2); have hp_ : Kd.R (Kd.int .i64) 3 w26 w.heap.size (fun _ => True) (.slice (some ⟨go16, 0, none⟩) x3_1.length co20) y363 := (by rw [hw, Ny363.out]; exact HP25.1); clear HP25; have n0_ := Aside0.mk (hp_); have n1_ := Aside0.mk (blk_grown (g := gb355) (o := .cells #[.int .i64 a0_0, .int .i64 a0_1, .int .i64 a0_2] 31 (0, 0)) (kb_ BK355.out) hg (Kd.R_ne HO_3.out BK355.out (by decide))); have n2_ := Aside0.mk ((by rw [hw]; exact below_set (HB.out) GB16.out : Below w.heap.size w w26)); clear HO_3; clear BK355; clear HB; have HO_3 := n0_; have BK355 := n1_; have HB := n2_; clear n0_ n1_ n2_; clear hg hw hp_)); try go_wp2_with (first | ((with_reducible refine gate_store (t := 3) (p := 30) rfl ?_); (try (rw [drewN_self wr]; generalize hq_ : World.drewN wr _ = wr; have n0_ := Aside0.mk (Kd.R_at hq_ HO_3.out); have n1_ := Aside0.mk (blk_at hq_ BK355.out); have n2_ := Aside0.mk (below_at hq_ HB.out); clear hq_ HO_3 BK355 HB; have HO_3 := n0_; have BK355 := n1_; have HB := n2_; clear n0_ n1_ n2_; (try (have HP21 := Kd.R_putg HO_3.out (x4_1 : Int) x4_1)))); refine store_event (t := 3) (p := 30) (v := ?vo_w22) (w1 := (wr.setCell ⟨go16, (x4_1 : Int).toNat, none⟩ (.int .i64 x4_1))) ?hg ?ho ?hn ?hr ?_; (case ho => rfl); (case hg => rfl); (case hn => rfl); (case hr => first | (go_simp; done) | (go_simp; rfl)); intro w22 hw; have hg : wr.grownBy w22 (some go16) := (by rw [hw]; exact HP21.2); have hp_ : Kd.R (Kd.int .i64) 3 w22 w.heap.size (fun _ => True) (.slice (some ⟨go16, 0, none⟩) x3_1.length co20) y361 := (by rw [hw, Ny361.out]; exact HP21.1); clear HP21; have n0_ := Aside0.mk (hp_); have n1_ := Aside0.mk (blk_grown (g := gb355) (o := .cells #[.int .i64 a0_0, .int .i64 a0_1, .int .i64 a0_2] 31 (0, 0)) (kb_ BK355.out) hg (Kd.R_ne HO_3.out BK355.out (by decide))); have n2_ := Aside0.mk ((by rw [hw]; exact below_set (HB.out) GB16.out : Below w.heap.size w w22)); clear HO_3; clear BK355; clear HB; have HO_3 := n0_; have BK355 := n1_; have HB := n2_; clear n0_ n1_ n2_; clear hg hw hp_; have hcz23_0 := cz_ (.int .i64 a0_0) BK355.out 0; have hcz23_1 := cz_ (.int .i64 a0_1) BK355.out 1; have hcz23_2 := cz_ (.int .i64 a0_2) BK355.out 2; have hfz23_0 := blk_frozen BK355.out 0; have hfz23_1 := blk_frozen BK355.out 1; have hfz23_2 := blk_frozen BK355.out 2) | (go_at_call 42; (with_reducible refine (spec_IsEdgeCorner.calls a0_0 a0_1 x4_1 true _ A17.out).mono ?_); rintro e w24 ⟨rfl, hb⟩; have n0_ := Aside0.mk (Kd.R_below (kr_ HO_3.out) hb); have n1_ := Aside0.mk (blk_below (g := gb355) (o := .cells #[.int .i64 a0_0, .int .i64 a0_1, .int .i64 a0_2] 31 (0, 0)) (kb_ BK355.out) hb); have n2_ := Aside0.mk (below_step hb_ hb); clear HO_3; clear BK355; clear HB; have HO_3 := n0_; have BK355 := n1_; have HB := n2_; clear n0_ n1_ n2_; (try clear hb); (try clear hb2); (try clear hk); (try clear hi); have p19 : 0 ≤ (x4_1 : Int) := of_decide_eq_true (by first | (with_reducible assumption) | assumption); have q19 : (x4_1 : Int) < ((x3_1.length : Int) : Int) := of_decide_eq_true (by first | (with_reducible assumption) | assumption); obtain ⟨hx19_0, hf19_0⟩ := Kd.R_celln 0 HO_3.out (x4_1 : Int) p19 q19; replace p19 := eq_true p19; replace q19 := eq_true q19; obtain ⟨hy25_, hz25_⟩ := Kd.R_celln 0 HO_3.out (x4_1 : Int) (of_decide_eq_true (by first | (with_reducible assumption) | assumption)) (of_decide_eq_true (by first | (with_reducible assumption) | assumption)); have HP25 := Kd.R_putg HO_3.out (x4_1 : Int) 0) | ((with_reducible refine gate_store (t := 3) (p := 37) rfl ?_); (try (rw [drewN_self w24]; generalize hq_ : World.drewN w24 _ = w24; have n0_ := Aside0.mk (Kd.R_at hq_ HO_3.out); have n1_ := Aside0.mk (blk_at hq_ BK355.out); have n2_ := Aside0.mk (below_at hq_ HB.out); clear hq_ HO_3 BK355 HB; have HO_3 := n0_; have BK355 := n1_; have HB := n2_; clear n0_ n1_ n2_; (try (obtain ⟨hy25_, hz25_⟩ := Kd.R_celln 0 HO_3.out (x4_1 : Int) (of_decide_eq_true (by first | (with_reducible assumption) | assumption)) (of_decide_eq_true (by first | (with_reducible assumption) | assumption)))); (try (have HP25 := Kd.R_putg HO_3.out (x4_1 : Int) 0)))); refine store_event (t := 3) (p := 37) (v := ?vo_w26) (w1 := (w24.setCell ⟨go16, (x4_1 : Int).toNat, none⟩ (.int .i64 0))) ?hg ?ho ?hn ?hr ?_; (case ho => rfl); (case hg => rfl); (case hn => rfl); (case hr => first | (go_simp; done) | (go_simp; rfl)); intro w26 hw; have hg : w24.grownBy w26 (some go16) := (by rw [hw]; exact HP25.2); have hp_ : Kd.R (Kd.int .i64) 3 w26 w.heap.size (fun _ => True) (.slice (some ⟨go16, 0, none⟩) x3_1.length co20) y363 := (by rw [hw, Ny363.out]; exact HP25.1); clear HP25; have n0_ := Aside0.mk (hp_); have n1_ := Aside0.mk (blk_grown (g := gb355) (o := .cells #[.int .i64 a0_0, .int .i64 a0_1, .int .i64 a0_2] 31 (0, 0)) (kb_ BK355.out) hg (Kd.R_ne HO_3.out BK355.out (by decide))); have n2_ := Aside0.mk ((by rw [hw]; exact below_set (HB.out) GB16.out : Below w.heap.size w w26)); clear HO_3; clear BK355; clear HB; have HO_3 := n0_; have BK355 := n1_; have HB := n2_; clear n0_ n1_ n2_; clear hg hw hp_)))
         first | go_roundg k1 | (refine Handed.intro k1 ?measure ?_; rotate_left; go_step; (try simp only [add_plain]); (repeat apply Exists.intro); refine ⟨?rel, rfl⟩)
         case measure => have := HK1.out; omega
         case rel => exact ⟨(y363), (wrap64 (x4_1 + 1)), (by first | rfl | (simp; done) | (simp [*]; done)), H', ⟨by have := HK1.out; omega⟩, ⟨kr_ HO_3.out⟩, ⟨kb_ BK355.out⟩, ⟨hb_⟩⟩
        ·replace c18 := Bool.eq_false_iff.mpr c18
         subst c18
         have H1 : (spec_WallParts.l0 k1 y361 (wrap64 (x4_1 + 1)) a0_0 a0_1 a0_2) = some r := by rw [if_neg (show ¬ (false = true) by decide)] at H; exact H
         clear H
         have H := H1
         clear H1
         have H' := Aside0.mk H
         clear H
         obtain ⟨Ao27, co27, eo27⟩ := Kd.R_slice HO_3.out
         subst eo27
         have p16 : 0 ≤ (x4_1 : Int) := of_decide_eq_true (by first | (with_reducible assumption) | assumption)
         have q16 : (x4_1 : Int) < ((x3_1.length : Int) : Int) := of_decide_eq_true (by first | (with_reducible assumption) | assumption)
         obtain ⟨go16, co16, eo16, gb16, gl16, cl16, HG16⟩ := Kd.R_form HO_3.out (by omega)
         (first | cases eo16 | (injection eo16 with ea_ en_ ec_; (first | subst ea_ | (injection ea_ with ea_; subst ea_)); subst ec_; clear en_))
         have GB16 := Aside0.mk gb16
         have GG16 := Aside0.mk HG16
         clear gb16 gl16 HG16
         obtain ⟨hx16_0, hf16_0⟩ := Kd.R_celln 0 HO_3.out (x4_1 : Int) p16 q16
         replace p16 := eq_true p16
         replace q16 := eq_true q16
         have HP28 := Kd.R_putg HO_3.out (x4_1 : Int) x4_1
         go_wp2_with (first | ((with_reducible refine gate_store (t := 3) (p := 30) rfl ?_); (try (rw [drewN_self wr]; generalize hq_ : World.drewN wr _ = wr; have n0_ := Aside0.mk (Kd.R_at hq_ HO_3.out); have n1_ := Aside0.mk (blk_at hq_ BK355.out); have n2_ := Aside0.mk (below_at hq_ HB.out); clear hq_ HO_3 BK355 HB; have HO_3 := n0_; have BK355 := n1_; have HB := n2_; clear n0_ n1_ n2_; (try (have HP28 := Kd.R_putg HO_3.out (x4_1 : Int) x4_1)))); refine store_event (t := 3) (p := 30) (v := ?vo_w29) (w1 := (wr.setCell ⟨go16, (x4_1 : Int).toNat, none⟩ (.int .i64 x4_1))) ?hg ?ho ?hn ?hr ?_; (case ho => rfl); (case hg => rfl); (case hn => rfl); (case hr => first | (go_simp; done) | (go_simp; rfl)); intro w29 hw; have hg : wr.grownBy w29 (some go16) := (by rw [hw]; exact HP28.2); have hp_ : Kd.R (Kd.int .i64) 3 w29 w.heap.size (fun _ => True) (.slice (some ⟨go16, 0, none⟩) x3_1.length co27) y361 := (by rw [hw, Ny361.out]; exact HP28.1); clear HP28; have n0_ := Aside0.mk (hp_); have n1_ := Aside0.mk (blk_grown (g := gb355) (o := .cells #[.int .i64 a0_0, .int .i64 a0_1, .int .i64 a0_2] 31 (0, 0)) (kb_ BK355.out) hg (Kd.R_ne HO_3.out BK355.out (by decide))); have n2_ := Aside0.mk ((by rw [hw]; exact below_set (HB.out) GB16.out : Below w.heap.size w w29)); clear HO_3; clear BK355; clear HB; have HO_3 := n0_; have BK355 := n1_; have HB := n2_; clear n0_ n1_ n2_; clear hg hw hp_; have hcz30_0 := cz_ (.int .i64 a0_0) BK355.out 0; have hcz30_1 := cz_ (.int .i64 a0_1) BK355.out 1; have hcz30_2 := cz_ (.int .i64 a0_2) BK355.out 2; have hfz30_0 := blk_frozen BK355.out 0; have hfz30_1 := blk_frozen BK355.out 1; have hfz30_2 := blk_frozen BK355.out 2) | (go_at_call 42; (with_reducible refine (spec_IsEdgeCorner.calls a0_0 a0_1 x4_1 false _ A17.out).mono ?_); rintro e w31 ⟨rfl, hb⟩; have n0_ := Aside0.mk (Kd.R_below (kr_ HO_3.out) hb); have n1_ := Aside0.mk (blk_below (g := gb355) (o := .cells #[.int .i64 a0_0, .int .i64 a0_1, .int .i64 a0_2] 31 (0, 0)) (kb_ BK355.out) hb); have n2_ := Aside0.mk (below_step hb_ hb); clear HO_3; clear BK355; clear HB; have HO_3 := n0_; have BK355 := n1_; have HB := n2_; clear n0_ n1_ n2_; (try clear hb); (try clear hb2); (try clear hk); (try clear hi)))
         repeat (go_quiet (first | ((with_reducible refine gate_store (t := 3) (p := 30) rfl ?_); (try (rw [drewN_self wr]; generalize hq_ : World.drewN wr _ = wr; have n0_ := Aside0.mk (Kd.R_at hq_ HO_3.out); have n1_ := Aside0.mk (blk_at hq_ BK355.out); have n2_ := Aside0.mk (below_at hq_ HB.out); clear hq_ HO_3 BK355 HB; have HO_3 := n0_; have BK355 := n1_; have HB := n2_; clear n0_ n1_ n2_; (try (have HP28 := Kd.R_putg HO_3.out (x4_1 : Int) x4_1)))); refine store_event (t := 3) (p := 30) (v := ?vo_w29) (w1 := (wr.setCell ⟨go16, (x4_1 : Int).toNat, none⟩ (.int .i64 x4_1))) ?hg ?ho ?hn ?hr ?_; (case ho => rfl); (case hg => rfl); (case hn => rfl); (case hr => first | (go_simp; done) | (go_simp; rfl)); intro w29 hw; have hg : wr.grownBy w29 (some go16) := (by rw [hw]; exact HP28.2); have hp_ : Kd.R (Kd.int .i64) 3 w29 w.heap.size (fun _ => True) (.slice (some ⟨go16, 0, none⟩) x3_1.length co27) y361 := (by rw [hw, Ny361.out]; exact HP28.1); clear HP28; have n0_ := Aside0.mk (hp_); have n1_ := Aside0.mk (blk_grown (g := gb355) (o := .cells #[.int .i64 a0_0, .int .i64 a0_1, .int .i64 a0_2] 31 (0, 0)) (kb_ BK355.out) hg (Kd.R_ne HO_3.out BK355.out (by decide))); have n2_ := Aside0.mk ((by rw [hw]; exact below_set (HB.out) GB16.out : Below w.heap.size w w29)); clear HO_3; clear BK355; clear HB; have HO_3 := n0_; have BK355 := n1_; have HB := n2_; clear n0_ n1_ n2_; clear hg hw hp_; have hcz30_0 := cz_ (.int .i64 a0_0) BK355.out 0; have hcz30_1 := cz_ (.int .i64 a0_1) BK355.out 1; have hcz30_2 := cz_ (.int .i64 a0_2) BK355.out 2; have hfz30_0 := blk_frozen BK355.out 0; have hfz30_1 := blk_frozen BK355.out 1; have hfz30_2 := blk_frozen BK355.out 2) | (go_at_call 42; (with_reducible refine (spec_IsEdgeCorner.calls a0_0 a0_1 x4_1 false _ A17.out).mono ?_); rintro e w31 ⟨rfl, hb⟩; have n0_ := Aside0.mk (Kd.R_below (kr_ HO_3.out) hb); have n1_ := Aside0.mk (blk_below (g := gb355) (o := .cells #[.int .i64 a0_0, .int .i64 a0_1, .int .i64 a0_2] 31 (0, 0)) (kb_ BK355.out) hb); have n2_ := Aside0.mk (below_step hb_ hb); clear HO_3; clear BK355; clear HB; have HO_3 := n0_; have BK355 := n1_; have HB := n2_; clear n0_ n1_ n2_; (try clear hb); (try clear hb2); (try clear hk); (try clear hi))); try go_wp2_with (first | ((with_reducible refine gate_store (t := 3) (p := 30) rfl ?_); (try (rw [drewN_self wr]; generalize hq_ : World.drewN wr _ = wr; have n0_ := Aside0.mk (Kd.R_at hq_ HO_3.out); have n1_ := Aside0.mk (blk_at hq_ BK355.out); have n2_ := Aside0.mk (below_at hq_ HB.out); clear hq_ HO_3 BK355 HB; have HO_3 := n0_; have BK355 := n1_; have HB := n2_; clear n0_ n1_ n2_; (try (have HP28 := Kd.R_putg HO_3.out (x4_1 : Int) x4_1)))); refine store_event (t := 3) (p := 30) (v := ?vo_w29) (w1 := (wr.setCell ⟨go16, (x4_1 : Int).toNat, none⟩ (.int .i64 x4_1))) ?hg ?ho ?hn ?hr ?_; (case ho => rfl); (case hg => rfl); (case hn => rfl); (case hr => first | (go_simp; done) | (go_simp; rfl)); intro w29 hw; have hg : wr.grownBy w29 (some go16) := (by rw [hw]; exact HP28.2); have hp_ : Kd.R (Kd.int .i64) 3 w29 w.heap.size (fun _ => True) (.slice (some ⟨go16, 0, none⟩) x3_1.length co27) y361 := (by rw [hw, Ny361.out]; exact HP28.1); clear HP28; have n0_ := Aside0.mk (hp_); have n1_ := Aside0.mk (blk_grown (g := gb355) (o := .cells #[.int .i64 a0_0, .int .i64 a0_1, .int .i64 a0_2] 31 (0, 0)) (kb_ BK355.out) hg (Kd.R_ne HO_3.out BK355.out (by decide))); have n2_ := Aside0.mk ((by rw [hw]; exact below_set (HB.out) GB16.out : Below w.heap.size w w29)); clear HO_3; clear BK355; clear HB; have HO_3 := n0_; have BK355 := n1_; have HB := n2_; clear n0_ n1_ n2_; clear hg hw hp_; have hcz30_0 := cz_ (.int .i64 a0_0) BK355.out 0; have hcz30_1 := cz_ (.int .i64 a0_1) BK355.out 1; have hcz30_2 := cz_ (.int .i64 a0_2) BK355.out 2; have hfz30_0 := blk_frozen BK355.out 0; have hfz30_1 := blk_frozen BK355.out 1; have hfz30_2 := blk_frozen BK355.out 2) | (go_at_call 42; (with_reducible refine (spec_IsEdgeCorner.calls a0_0 a0_1 x4_1 false _ A17.out).mono ?_); rintro e w31 ⟨rfl, hb⟩; have n0_ := Aside0.mk (Kd.R_below (kr_ HO_3.out) hb); have n1_ := Aside0.mk (blk_below (g := gb355) (o := .cells #[.int .i64 a0_0, .int .i64 a0_1, .int .i64 a0_2] 31 (0, 0)) (kb_ BK355.out) hb); have n2_ := Aside0.mk (below_step hb_ hb); clear HO_3; clear BK355; clear HB; have HO_3 := n0_; have BK355 := n1_; have HB := n2_; clear n0_ n1_ n2_; (try clear hb); (try clear hb2); (try clear hk); (try clear hi))))
         first | go_roundg k1 | (refine Handed.intro k1 ?measure ?_; rotate_left; go_step; (try simp only [add_plain]); (repeat apply Exists.intro); refine ⟨?rel, rfl⟩)
         case measure => have := HK1.out; omega
         case rel => exact ⟨(y361), (wrap64 (x4_1 + 1)), (by first | rfl | (simp; done) | (simp [*]; done)), H', ⟨by have := HK1.out; omega⟩, ⟨kr_ HO_3.out⟩, ⟨kb_ BK355.out⟩, ⟨hb_⟩⟩
       ·rw [if_neg c15] at H
        exact absurd H (by simp)
      ·rw [if_neg c14] at H
       have c14b0 : decide (x4_1 < (x3_1.length : Int)) = false := decide_eq_false c14
       clear c14
       have H' := Aside0.mk H
       clear H
       obtain ⟨Ao32, co32, eo32⟩ := Kd.R_slice HO_3.out
       subst eo32
       go_wp2
       repeat (go_quiet (fail); try go_wp2)
       go_loopg [5] k1 (fun kq v5 w' => ∃ (x3_2 : List Int) (x5_2 : Int), v5 = .int .i64 x5_2 ∧ Aside0 (spec_WallParts.l1 kq x3_2 x5_2 a0_0 a0_1 a0_2 = some r) ∧ Aside0 (kq ≤ k1) ∧ Aside0 (Kd.R (Kd.int .i64) 3 w' w.heap.size (fun _ => True) (.slice Ao32 x3_1.length co32) x3_2) ∧ Aside0 (w'.heap[gb355]? = some (.cells #[.int .i64 a0_0, .int .i64 a0_1, .int .i64 a0_2] 31 (0, 0))) ∧ Aside0 (Below w.heap.size w w'))
       case atStart => exact ⟨(x3_1), (0), (by first | rfl | (simp; done) | (simp [*]; done)), H', ⟨Nat.le_refl _⟩, ⟨kr_ HO_3.out⟩, ⟨kb_ BK355.out⟩, ⟨hb_⟩⟩
       case round =>
        clear H'
        try clear c1
        try clear p1
        try clear q1
        try clear hx1
        try clear hf1
        try clear c2
        try clear p2
        try clear c3
        try clear c5
        try clear c5b0
        try clear c5b1
        try clear c6
        try clear c6b0
        try clear c6b1
        try clear p6
        try clear c14
        try clear c14b0
        try clear c15
        try clear c15b0
        try clear p16
        try clear q16
        try clear hx16
        try clear hf16
        try clear c18
        try clear p19
        try clear q19
        try clear hx19
        try clear hf19
        try clear c23
        try clear hcz10_0
        try clear hcz10_1
        try clear hcz10_2
        try clear hcz23_0
        try clear hcz23_1
        try clear hcz23_2
        try clear hcz30_0
        try clear hcz30_1
        try clear hcz30_2
        try clear hcz8_0
        try clear hcz8_1
        try clear hcz8_2
        try clear hfz10_0
        try clear hfz10_1
        try clear hfz10_2
        try clear hfz23_0
        try clear hfz23_1
        try clear hfz23_2
        try clear hfz30_0
        try clear hfz30_1
        try clear hfz30_2
        try clear hfz8_0
        try clear hfz8_1
        try clear hfz8_2
        try clear hx16_0
        try clear hx19_0
        try clear p16
        try clear p19
        try clear p2
        try clear q16
        try clear q19
        obtain ⟨x3_2, x5_2, rfl, HA, HK2, HO_3, BK355, HB⟩ := hrel
        have hl3_2 := (Kd.R_reads' HO_3.out).1
        rw [hl3_2] at HO_3
        (try simp only [hl3_2])
        (try simp only [hl3_2] at BK355)
        cases gk with
        | zero => exact absurd HA.out (by simp [spec_WallParts.l1])
        | succ k2 =>
         have H := HA.out
         clear HA
         simp only [spec_WallParts.l1] at H
         replace H := Option.bind_eq_some_iff.mp H
         obtain ⟨t364, A330, H⟩ := H
         replace H : (if x5_2 < t364 then ((spec_CornersOf.f a0_0 a0_1 x5_2).bind fun bt365 => (if 0 ≤ bt365.2 then (if bt365.2 < (x3_2.length : Int) then (spec_WallParts.l2 k2 x3_2 x5_2 bt365.1 (rd x3_2 bt365.2) 0 a0_0 a0_1 a0_2) else (none)) else (none))) else (spec_WallParts.l3 k2 x3_2 0 0)) = some r := H
         have A33 := Aside0.mk A330
         clear A330
         by_cases c34 : x5_2 < t364
         ·rw [if_pos c34] at H
          have c34b0 : decide (x5_2 < t364) = true := decide_eq_true c34
          clear c34
          replace H := Option.bind_eq_some_iff.mp H
          obtain ⟨⟨t365, t366⟩, A350, H⟩ := H
          replace H : (if 0 ≤ t366 then (if t366 < (x3_2.length : Int) then (spec_WallParts.l2 k2 x3_2 x5_2 t365 (rd x3_2 t366) 0 a0_0 a0_1 a0_2) else (none)) else (none)) = some r := H
          have A35 := Aside0.mk A350
          clear A350
          by_cases c36 : 0 ≤ t366
          ·rw [if_pos c36] at H
           have c36b0 : decide (0 ≤ t366) = true := decide_eq_true c36
           clear c36
           by_cases c37 : t366 < (x3_2.length : Int)
           ·rw [if_pos c37] at H
            have c37b0 : decide (t366 < (x3_2.length : Int)) = true := decide_eq_true c37
            clear c37
            have H' := Aside0.mk H
            clear H
            have hcz38_0 : wr.cell? ⟨gb355, 0, none⟩ = some (.int .i64 a0_0) := (blk_cell BK355.out 0).trans rfl
            have hcz38_1 : wr.cell? ⟨gb355, 1, none⟩ = some (.int .i64 a0_1) := (blk_cell BK355.out 1).trans rfl
            have hcz38_2 : wr.cell? ⟨gb355, 2, none⟩ = some (.int .i64 a0_2) := (blk_cell BK355.out 2).trans rfl
            have hfz38_0 := blk_frozen BK355.out 0
            have hfz38_1 := blk_frozen BK355.out 1
            have hfz38_2 := blk_frozen BK355.out 2
            go_wp2_with (first | (go_at_call 43; (with_reducible refine (spec_CountGaps.calls a0_0 a0_1 t364 _ A33.out).mono ?_); rintro e w39 ⟨rfl, hb⟩; have n0_ := Aside0.mk (Kd.R_below (kr_ HO_3.out) hb); have n1_ := Aside0.mk (blk_below (g := gb355) (o := .cells #[.int .i64 a0_0, .int .i64 a0_1, .int .i64 a0_2] 31 (0, 0)) (kb_ BK355.out) hb); have n2_ := Aside0.mk (below_step hb_ hb); clear HO_3; clear BK355; clear HB; have HO_3 := n0_; have BK355 := n1_; have HB := n2_; clear n0_ n1_ n2_; (try clear hb); (try clear hb2); (try clear hk); (try clear hi); have hcz40_0 := cz_ (.int .i64 a0_0) BK355.out 0; have hcz40_1 := cz_ (.int .i64 a0_1) BK355.out 1; have hcz40_2 := cz_ (.int .i64 a0_2) BK355.out 2; have hfz40_0 := blk_frozen BK355.out 0; have hfz40_1 := blk_frozen BK355.out 1; have hfz40_2 := blk_frozen BK355.out 2) | (go_at_call 44; (with_reducible refine (spec_CornersOf.calls a0_0 a0_1 x5_2 t365 t366 _ A35.out).mono ?_); rintro e w41 ⟨rfl, hb⟩; have n0_ := Aside0.mk (Kd.R_below (kr_ HO_3.out) hb); have n1_ := Aside0.mk (blk_below (g := gb355) (o := .cells #[.int .i64 a0_0, .int .i64 a0_1, .int .i64 a0_2] 31 (0, 0)) (kb_ BK355.out) hb); have n2_ := Aside0.mk (below_step hb_ hb); clear HO_3; clear BK355; clear HB; have HO_3 := n0_; have BK355 := n1_; have HB := n2_; clear n0_ n1_ n2_; (try clear hb); (try clear hb2); (try clear hk); (try clear hi); have p367 : 0 ≤ (t366 : Int) := of_decide_eq_true (by first | (with_reducible assumption) | assumption); have q367 : t366 < (x3_2.length : Int) := of_decide_eq_true (by first | (with_reducible assumption) | assumption); obtain ⟨ad367, e367, hx367_0⟩ := Kd.at_int (Kd.R_reads' HO_3.out).2.2 t366 p367 q367; cases e367; replace p367 := eq_true p367; replace q367 := eq_true q367))
            repeat (go_quiet (first | (go_at_call 43; (with_reducible refine (spec_CountGaps.calls a0_0 a0_1 t364 _ A33.out).mono ?_); rintro e w39 ⟨rfl, hb⟩; have n0_ := Aside0.mk (Kd.R_below (kr_ HO_3.out) hb); have n1_ := Aside0.mk (blk_below (g := gb355) (o := .cells #[.int .i64 a0_0, .int .i64 a0_1, .int .i64 a0_2] 31 (0, 0)) (kb_ BK355.out) hb); have n2_ := Aside0.mk (below_step hb_ hb); clear HO_3; clear BK355; clear HB; have HO_3 := n0_; have BK355 := n1_; have HB := n2_; clear n0_ n1_ n2_; (try clear hb); (try clear hb2); (try clear hk); (try clear hi); have hcz40_0 := cz_ (.int .i64 a0_0) BK355.out 0; have hcz40_1 := cz_ (.int .i64 a0_1) BK355.out 1; have hcz40_2 := cz_ (.int .i64 a0_2) BK355.out 2; have hfz40_0 := blk_frozen BK355.out 0; have hfz40_1 := blk_frozen BK355.out 1; have hfz40_2 := blk_frozen BK355.out 2) | (go_at_call 44; (with_reducible refine (spec_CornersOf.calls a0_0 a0_1 x5_2 t365 t366 _ A35.out).mono ?_); rintro e w41 ⟨rfl, hb⟩; have n0_ := Aside0.mk (Kd.R_below (kr_ HO_3.out) hb); have n1_ := Aside0.mk (blk_below (g := gb355) (o := .cells #[.int .i64 a0_0, .int .i64 a0_1, .int .i64 a0_2] 31 (0, 0)) (kb_ BK355.out) hb); have n2_ := Aside0.mk (below_step hb_ hb); clear HO_3; clear BK355; clear HB; have HO_3 := n0_; have BK355 := n1_; have HB := n2_; clear n0_ n1_ n2_; (try clear hb); (try clear hb2); (try clear hk); (try clear hi); have p367 : 0 ≤ (t366 : Int) := of_decide_eq_true (by first | (with_reducible assumption) | assumption); have q367 : t366 < (x3_2.length : Int) := of_decide_eq_true (by first | (with_reducible assumption) | assumption); obtain ⟨ad367, e367, hx367_0⟩ := Kd.at_int (Kd.R_reads' HO_3.out).2.2 t366 p367 q367; cases e367; replace p367 := eq_true p367; replace q367 := eq_true q367)); try go_wp2_with (first | (go_at_call 43; (with_reducible refine (spec_CountGaps.calls a0_0 a0_1 t364 _ A33.out).mono ?_); rintro e w39 ⟨rfl, hb⟩; have n0_ := Aside0.mk (Kd.R_below (kr_ HO_3.out) hb); have n1_ := Aside0.mk (blk_below (g := gb355) (o := .cells #[.int .i64 a0_0, .int .i64 a0_1, .int .i64 a0_2] 31 (0, 0)) (kb_ BK355.out) hb); have n2_ := Aside0.mk (below_step hb_ hb); clear HO_3; clear BK355; clear HB; have HO_3 := n0_; have BK355 := n1_; have HB := n2_; clear n0_ n1_ n2_; (try clear hb); (try clear hb2); (try clear hk); (try clear hi); have hcz40_0 := cz_ (.int .i64 a0_0) BK355.out 0; have hcz40_1 := cz_ (.int .i64 a0_1) BK355.out 1; have hcz40_2 := cz_ (.int .i64 a0_2) BK355.out 2; have hfz40_0 := blk_frozen BK355.out 0; have hfz40_1 := blk_frozen BK355.out 1; have hfz40_2 := blk_frozen BK355.out 2) | (go_at_call 44; (with_reducible refine (spec_CornersOf.calls a0_0 a0_1 x5_2 t365 t366 _ A35.out).mono ?_); rintro e w41 ⟨rfl, hb⟩; have n0_ := Aside0.mk (Kd.R_below (kr_ HO_3.out) hb); have n1_ := Aside0.mk (blk_below (g := gb355) (o := .cells #[.int .i64 a0_0, .int .i64 a0_1, .int .i64 a0_2] 31 (0, 0)) (kb_ BK355.out) hb); have n2_ := Aside0.mk (below_step hb_ hb); clear HO_3; clear BK355; clear HB; have HO_3 := n0_; have BK355 := n1_; have HB := n2_; clear n0_ n1_ n2_; (try clear hb); (try clear hb2); (try clear hk); (try clear hi); have p367 : 0 ≤ (t366 : Int) := of_decide_eq_true (by first | (with_reducible assumption) | assumption); have q367 : t366 < (x3_2.length : Int) := of_decide_eq_true (by first | (with_reducible assumption) | assumption); obtain ⟨ad367, e367, hx367_0⟩ := Kd.at_int (Kd.R_reads' HO_3.out).2.2 t366 p367 q367; cases e367; replace p367 := eq_true p367; replace q367 := eq_true q367)))
            go_loopg [9] k2 (fun kq v9 w' => ∃ (x3_3 : List Int) (x9_3 : Int), v9 = .int .i64 x9_3 ∧ Aside0 (spec_WallParts.l2 kq x3_3 x5_2 t365 (rd x3_2 t366) x9_3 a0_0 a0_1 a0_2 = some r) ∧ Aside0 (kq ≤ k2) ∧ Aside0 (Kd.R (Kd.int .i64) 3 w' w.heap.size (fun _ => True) (.slice (some ad367) x3_2.length co32) x3_3) ∧ Aside0 (w'.heap[gb355]? = some (.cells #[.int .i64 a0_0, .int .i64 a0_1, .int .i64 a0_2] 31 (0, 0))) ∧ Aside0 (Below w.heap.size w w'))
            case atStart => exact ⟨(x3_2), (0), (by first | rfl | (simp; done) | (simp [*]; done)), H', ⟨Nat.le_refl _⟩, ⟨by (try simp only [hl3_2]); (with_reducible repeat (first | apply Kd.R_alloc | apply Kd.R_drewN | apply Kd.R_drew)); exact HO_3.out⟩, ⟨by (try simp only [hl3_2]); (with_reducible repeat (first | refine blk_drewN ?_ _ | refine blk_drew ?_ | refine blk_alloc ?_ _)); exact BK355.out⟩, ⟨hb_⟩⟩
            case round =>
             clear H'
             try clear c1
             try clear p1
             try clear q1
             try clear hx1
             try clear hf1
             try clear c2
             try clear p2
             try clear c3
             try clear p3
             try clear q3
             try clear hx3
             try clear c5
             try clear c5b0
             try clear c5b1
             try clear c6
             try clear c6b0
             try clear c6b1
             try clear p6
             try clear c14
             try clear c14b0
             try clear c15
             try clear c15b0
             try clear p16
             try clear q16
             try clear hx16
             try clear hf16
             try clear c18
             try clear p19
             try clear q19
             try clear hx19
             try clear hf19
             try clear c23
             try clear c34
             try clear c34b0
             try clear c36
             try clear c36b0
             try clear p36
             try clear q36
             try clear hx36
             try clear c37
             try clear c37b0
             try clear hcz10_0
             try clear hcz10_1
             try clear hcz10_2
             try clear hcz23_0
             try clear hcz23_1
             try clear hcz23_2
             try clear hcz30_0
             try clear hcz30_1
             try clear hcz30_2
             try clear hcz38_0
             try clear hcz38_1
             try clear hcz38_2
             try clear hcz40_0
             try clear hcz40_1
             try clear hcz40_2
             try clear hcz8_0
             try clear hcz8_1
             try clear hcz8_2
             try clear hfz10_0
             try clear hfz10_1
             try clear hfz10_2
             try clear hfz23_0
             try clear hfz23_1
             try clear hfz23_2
             try clear hfz30_0
             try clear hfz30_1
             try clear hfz30_2
             try clear hfz38_0
             try clear hfz38_1
             try clear hfz38_2
             try clear hfz40_0
             try clear hfz40_1
             try clear hfz40_2
             try clear hfz8_0
             try clear hfz8_1
             try clear hfz8_2
             try clear hx16_0
             try clear hx19_0
             try clear hx367_0
             try clear p1
             try clear p16
             try clear p19
             try clear p2
             try clear p367
             try clear p6
             try clear q1
             try clear q16
             try clear q19
             try clear q367
             obtain ⟨x3_3, x9_3, rfl, HA, HK3, HO_3, BK355, HB⟩ := hrel
             have hl3_3 := (Kd.R_reads' HO_3.out).1
             rw [hl3_3] at HO_3
             (try simp only [hl3_3])
             (try simp only [hl3_3] at BK355)
             cases gk with
             | zero => exact absurd HA.out (by simp [spec_WallParts.l2])
             | succ k3 =>
              have H := HA.out
              clear HA
              simp only [spec_WallParts.l2] at H
              have HC42 := Aside0.mk H
              clear H
              go_upto_region 16 with (fail)
              repeat (go_quiet (fail); go_upto_region 16 with (fail))
              go_cut [66] (fun v66 wc => ∃ (kq : Nat) (x66_41 : Bool), v66 = .bool x66_41 ∧ Aside0 (spec_WallParts.j3 kq x3_3 x5_2 t365 (rd x3_2 t366) x9_3 x66_41 a0_0 a0_1 a0_2 = some r) ∧ Aside0 (kq ≤ k3) ∧ Aside0 (Kd.R (Kd.int .i64) 3 wc w.heap.size (fun _ => True) (.slice (some ad367) x3_3.length co32) x3_3) ∧ Aside0 (wc.heap[gb355]? = some (.cells #[.int .i64 a0_0, .int .i64 a0_1, .int .i64 a0_2] 31 (0, 0))) ∧ Aside0 (Below w.heap.size w wc))
              case first =>
               have H := HC42.out
               clear HC42
               by_cases c43 : x9_3 < (x3_3.length : Int)
               ·rw [if_pos c43] at H
                have c43b0 : decide (x9_3 < (x3_3.length : Int)) = true := decide_eq_true c43
                clear c43
                (first | rw [c43b0] | (simp only [i64_w, i32_w]; rw [c43b0]) | skip)
                replace H := Option.bind_eq_some_iff.mp H
                obtain ⟨t368, A440, H⟩ := H
                replace H : (spec_WallParts.j3 k3 x3_3 x5_2 t365 (rd x3_2 t366) x9_3 (!t368) a0_0 a0_1 a0_2) = some r := H
                have A44 := Aside0.mk A440
                clear A440
                have H' := Aside0.mk H
                clear H
                have hcz45_0 : wr.cell? ⟨gb355, 0, none⟩ = some (.int .i64 a0_0) := (blk_cell BK355.out 0).trans rfl
                have hcz45_1 : wr.cell? ⟨gb355, 1, none⟩ = some (.int .i64 a0_1) := (blk_cell BK355.out 1).trans rfl
                have hcz45_2 : wr.cell? ⟨gb355, 2, none⟩ = some (.int .i64 a0_2) := (blk_cell BK355.out 2).trans rfl
                have hfz45_0 := blk_frozen BK355.out 0
                have hfz45_1 := blk_frozen BK355.out 1
                have hfz45_2 := blk_frozen BK355.out 2
                go_wp2_with (first | (go_at_call 45; (with_reducible refine (spec_l03Bit.calls a0_2 x5_2 t368 _ A44.out).mono ?_); rintro e w' ⟨rfl, ⟨nd, rfl⟩⟩; (try first | exact ⟨rfl, _, World.drewN_drewN _ _ _⟩ | exact ⟨rfl, _, Eq.trans (World.drewN_drewN _ _ _) (congrArg (World.drewN _) (Nat.add_assoc _ _ _))⟩)))
                repeat (go_quiet (first | (go_at_call 45; (with_reducible refine (spec_l03Bit.calls a0_2 x5_2 t368 _ A44.out).mono ?_); rintro e w' ⟨rfl, ⟨nd, rfl⟩⟩; (try first | exact ⟨rfl, _, World.drewN_drewN _ _ _⟩ | exact ⟨rfl, _, Eq.trans (World.drewN_drewN _ _ _) (congrArg (World.drewN _) (Nat.add_assoc _ _ _))⟩))); try go_wp2_with (first | (go_at_call 45; (with_reducible refine (spec_l03Bit.calls a0_2 x5_2 t368 _ A44.out).mono ?_); rintro e w' ⟨rfl, ⟨nd, rfl⟩⟩; (try first | exact ⟨rfl, _, World.drewN_drewN _ _ _⟩ | exact ⟨rfl, _, Eq.trans (World.drewN_drewN _ _ _) (congrArg (World.drewN _) (Nat.add_assoc _ _ _))⟩))))
                go_meet
                case rel => exact ⟨_, (!t368), (by first | rfl | (simp; done) | (simp [*]; done)), H', ⟨by have := HK1.out; have := HK2.out; have := HK3.out; first | omega | exact Nat.le_refl _⟩, ⟨by (try simp only [hl3_2]); (try simp only [hl3_3]); (with_reducible repeat (first | apply Kd.R_alloc | apply Kd.R_drewN | apply Kd.R_drew)); exact HO_3.out⟩, ⟨by (try simp only [hl3_2]); (try simp only [hl3_3]); (with_reducible repeat (first | refine blk_drewN ?_ _ | refine blk_drew ?_ | refine blk_alloc ?_ _)); exact BK355.out⟩, ⟨hb_⟩⟩
               ·rw [if_neg c43] at H
                have c43b0 : decide (x9_3 < (x3_3.length : Int)) = false := decide_eq_false c43
                clear c43
                (first | rw [c43b0] | (simp only [i64_w, i32_w]; rw [c43b0]) | skip)
                have H' := Aside0.mk H
                clear H
                go_wp2
                repeat (go_quiet (fail); try go_wp2)
                go_meet
                case rel => exact ⟨_, (false), (by first | rfl | (simp; done) | (simp [*]; done)), H', ⟨by have := HK1.out; have := HK2.out; have := HK3.out; first | omega | exact Nat.le_refl _⟩, ⟨by (try simp only [hl3_2]); (try simp only [hl3_3]); (with_reducible repeat (first | apply Kd.R_alloc | apply Kd.R_drewN | apply Kd.R_drew)); exact HO_3.out⟩, ⟨by (try simp only [hl3_2]); (try simp only [hl3_3]); (with_reducible repeat (first | refine blk_drewN ?_ _ | refine blk_drew ?_ | refine blk_alloc ?_ _)); exact BK355.out⟩, ⟨hb_⟩⟩
              case rest =>
               clear HC42
               try clear c1
               try clear p1
               try clear q1
               try clear hx1
               try clear hf1
               try clear c2
               try clear p2
               try clear c3
               try clear p3
               try clear q3
               try clear hx3
               try clear c4
               try clear c5
               try clear c5b0
               try clear c5b1
               try clear c6
               try clear c6b0
               try clear c6b1
               try clear p6
               try clear c14
               try clear c14b0
               try clear c15
               try clear c15b0
               try clear p16
               try clear q16
               try clear hx16
               try clear hf16
               try clear c18
               try clear p19
               try clear q19
               try clear hx19
               try clear hf19
               try clear c23
               try clear c34
               try clear c34b0
               try clear c36
               try clear c36b0
               try clear p36
               try clear q36
               try clear hx36
               try clear c37
               try clear c37b0
               try clear c43
               try clear c43b0
               try clear hcz10_0
               try clear hcz10_1
               try clear hcz10_2
               try clear hcz23_0
               try clear hcz23_1
               try clear hcz23_2
               try clear hcz30_0
               try clear hcz30_1
               try clear hcz30_2
               try clear hcz38_0
               try clear hcz38_1
               try clear hcz38_2
               try clear hcz40_0
               try clear hcz40_1
               try clear hcz40_2
               try clear hcz45_0
               try clear hcz45_1
               try clear hcz45_2
               try clear hcz8_0
               try clear hcz8_1
               try clear hcz8_2
               try clear hfz10_0
               try clear hfz10_1
               try clear hfz10_2
               try clear hfz23_0
               try clear hfz23_1
               try clear hfz23_2
               try clear hfz30_0
               try clear hfz30_1
               try clear hfz30_2
               try clear hfz38_0
               try clear hfz38_1
               try clear hfz38_2
               try clear hfz40_0
               try clear hfz40_1
               try clear hfz40_2
               try clear hfz45_0
               try clear hfz45_1
               try clear hfz45_2
               try clear hfz8_0
               try clear hfz8_1
               try clear hfz8_2
               try clear hx16_0
               try clear hx19_0
               try clear hx367_0
               try clear p1
               try clear p16
               try clear p19
               try clear p2
               try clear p3
               try clear p36
               try clear p367
               try clear p6
               try clear q1
               try clear q16
               try clear q19
               try clear q3
               try clear q36
               try clear q367
               obtain ⟨kq, x66_41, rfl, HA, HJ41, HO_3, BK355, HB⟩ := hcut
               cases kq with
               | zero => exact absurd HA.out (by simp [spec_WallParts.j3])
               | succ kj41 =>
                have H := HA.out
                clear HA
                simp only [spec_WallParts.j3] at H
                by_cases c46 : x66_41 = true
                ·subst c46
                 have H1 : (if 0 ≤ x9_3 then (if x9_3 < (x3_3.length : Int) then (if (rd x3_3 x9_3) = (rd x3_2 t366) then (if 0 ≤ t365 then (if t365 < (x3_3.length : Int) then (spec_WallParts.l2 kj41 (x3_3.set (x9_3 : Int).toNat (rd x3_3 t365)) x5_2 t365 (rd x3_2 t366) (wrap64 (x9_3 + 1)) a0_0 a0_1 a0_2) else (none)) else (none)) else (spec_WallParts.l2 kj41 x3_3 x5_2 t365 (rd x3_2 t366) (wrap64 (x9_3 + 1)) a0_0 a0_1 a0_2)) else (none)) else (none)) = some r := by rw [if_pos rfl] at H; exact H
                 clear H
                 have H := H1
                 clear H1
                 by_cases c47 : 0 ≤ x9_3
                 ·rw [if_pos c47] at H
                  have c47b0 : decide (0 ≤ x9_3) = true := decide_eq_true c47
                  clear c47
                  by_cases c48 : x9_3 < (x3_3.length : Int)
                  ·rw [if_pos c48] at H
                   have c48b0 : decide (x9_3 < (x3_3.length : Int)) = true := decide_eq_true c48
                   clear c48
                   by_cases c49 : (rd x3_3 x9_3) = (rd x3_2 t366)
                   ·rw [if_pos c49] at H
                    have c49b0 : ((rd x3_3 x9_3) == (rd x3_2 t366)) = true := beq_iff_eq.mpr c49
                    have c49b1 : ((rd x3_3 x9_3) != (rd x3_2 t366)) = false := bne_eq_false_iff_eq.mpr c49
                    clear c49
                    by_cases c50 : 0 ≤ t365
                    ·rw [if_pos c50] at H
                     have c50b0 : decide (0 ≤ t365) = true := decide_eq_true c50
                     clear c50
                     by_cases c51 : t365 < (x3_3.length : Int)
                     ·rw [if_pos c51] at H
                      have c51b0 : decide (t365 < (x3_3.length : Int)) = true := decide_eq_true c51
                      clear c51
                      obtain ⟨y371, hy371⟩ : ∃ y_ : List Int, y_ = (x3_3.set (x9_3 : Int).toNat (rd x3_3 t365)) := ⟨_, rfl⟩
                      replace H : (spec_WallParts.l2 kj41 y371 x5_2 t365 (rd x3_2 t366) (wrap64 (x9_3 + 1)) a0_0 a0_1 a0_2) = some r := by first | (rw [hy371]; with_reducible exact H) | (have H2_ := (Option.bind_some _ _).symm.trans H; rw [hy371]; with_reducible exact H2_) | (have H2_ := (Option.bind_some _ _).symm.trans H; with_reducible exact H2_) | with_reducible exact H | (rw [hy371]; exact H) | exact H
                      have Ny371 := Aside0.mk hy371
                      clear hy371
                      have H' := Aside0.mk H
                      clear H
                      have p369 : 0 ≤ (x9_3 : Int) := of_decide_eq_true (by first | (with_reducible assumption) | assumption)
                      have q369 : x9_3 < (x3_3.length : Int) := of_decide_eq_true (by first | (with_reducible assumption) | assumption)
                      obtain ⟨ad369, e369, hx369_0⟩ := Kd.at_int (Kd.R_reads' HO_3.out).2.2 x9_3 p369 q369
                      obtain rfl : ad367 = ad369 := (by injection e369)
                      replace p369 := eq_true p369
                      replace q369 := eq_true q369
                      have p370 : 0 ≤ (t365 : Int) := of_decide_eq_true (by first | (with_reducible assumption) | assumption)
                      have q370 : t365 < (x3_3.length : Int) := of_decide_eq_true (by first | (with_reducible assumption) | assumption)
                      obtain ⟨ad370, e370, hx370_0⟩ := Kd.at_int (Kd.R_reads' HO_3.out).2.2 t365 p370 q370
                      obtain rfl : ad367 = ad370 := (by injection e370)
                      replace p370 := eq_true p370
                      replace q370 := eq_true q370
                      have p52 : 0 ≤ (x9_3 : Int) := of_decide_eq_true (by first | (with_reducible assumption) | assumption)
                      have q52 : (x9_3 : Int) < ((x3_3.length : Int) : Int) := of_decide_eq_true (by first | (with_reducible assumption) | assumption)
                      obtain ⟨go52, co52, eo52, gb52, gl52, cl52, HG52⟩ := Kd.R_form HO_3.out (by omega)
                      (first | cases eo52 | (injection eo52 with ea_ en_ ec_; (first | subst ea_ | (injection ea_ with ea_; subst ea_)); subst ec_; clear en_))
                      have GB52 := Aside0.mk gb52
                      have GG52 := Aside0.mk HG52
                      clear gb52 gl52 HG52
                      (first | simp only [add_plain] at hx367_0 | skip)
                      (first | simp only [add_plain] at hx369_0 | skip)
                      (first | simp only [add_plain] at hx370_0 | skip)
                      obtain ⟨hx52_0, hf52_0⟩ := Kd.R_celln 0 HO_3.out (x9_3 : Int) p52 q52
                      replace p52 := eq_true p52
                      replace q52 := eq_true q52
                      have HP53 := Kd.R_putg HO_3.out (x9_3 : Int) (rd x3_3 t365)
                      go_wp2_with (first | ((with_reducible refine gate_store (t := 3) (p := 81) rfl ?_); (try (rw [drewN_self wc]; generalize hq_ : World.drewN wc _ = wc; have n0_ := Aside0.mk (Kd.R_at hq_ HO_3.out); have n1_ := Aside0.mk (blk_at hq_ BK355.out); have n2_ := Aside0.mk (below_at hq_ HB.out); clear hq_ HO_3 BK355 HB; have HO_3 := n0_; have BK355 := n1_; have HB := n2_; clear n0_ n1_ n2_; (try (have HP53 := Kd.R_putg HO_3.out (x9_3 : Int) (rd x3_3 t365))))); refine store_event (t := 3) (p := 81) (v := ?vo_w54) (w1 := (wc.setCell ⟨go52, (x9_3 : Int).toNat, none⟩ (.int .i64 (rd x3_3 t365)))) ?hg ?ho ?hn ?hr ?_; (case ho => rfl); (case hg => rfl); (case hn => rfl); (case hr => first | (go_simp; done) | (go_simp; rfl)); intro w54 hw; have hg : wc.grownBy w54 (some go52) := (by rw [hw]; exact HP53.2); have hp_ : Kd.R (Kd.int .i64) 3 w54 w.heap.size (fun _ => True) (.slice (some ⟨go52, 0, none⟩) x3_3.length co32) y371 := (by rw [hw, Ny371.out]; exact HP53.1); clear HP53; have n0_ := Aside0.mk (hp_); have n1_ := Aside0.mk (blk_grown (g := gb355) (o := .cells #[.int .i64 a0_0, .int .i64 a0_1, .int .i64 a0_2] 31 (0, 0)) (kb_ BK355.out) hg (Kd.R_ne HO_3.out BK355.out (by decide))); have n2_ := Aside0.mk ((by rw [hw]; exact below_set (HB.out) GB52.out : Below w.heap.size w w54)); clear HO_3; clear BK355; clear HB; have HO_3 := n0_; have BK355 := n1_; have HB := n2_; clear n0_ n1_ n2_; clear hg hw hp_))
                      repeat (go_quiet (first | ((with_reducible refine gate_store (t := 3) (p := 81) rfl ?_); (try (rw [drewN_self wc]; generalize hq_ : World.drewN wc _ = wc; have n0_ := Aside0.mk (Kd.R_at hq_ HO_3.out); have n1_ := Aside0.mk (blk_at hq_ BK355.out); have n2_ := Aside0.mk (below_at hq_ HB.out); clear hq_ HO_3 BK355 HB; have HO_3 := n0_; have BK355 := n1_; have HB := n2_; clear n0_ n1_ n2_; (try (have HP53 := Kd.R_putg HO_3.out (x9_3 : Int) (rd x3_3 t365))))); refine store_event (t := 3) (p := 81) (v := ?vo_w54) (w1 := (wc.setCell ⟨go52, (x9_3 : Int).toNat, none⟩ (.int .i64 (rd x3_3 t365)))) ?hg ?ho ?hn ?hr ?_; (case ho => rfl); (case hg => rfl); (case hn => rfl); (case hr => first | (go_simp; done) | (go_simp; rfl)); intro w54 hw; have hg : wc.grownBy w54 (some go52) := (by rw [hw]; exact HP53.2); have hp_ : Kd.R (Kd.int .i64) 3 w54 w.heap.size (fun _ => True) (.slice (some ⟨go52, 0, none⟩) x3_3.length co32) y371 := (by rw [hw, Ny371.out]; exact HP53.1); clear HP53; have n0_ := Aside0.mk (hp_); have n1_ := Aside0.mk (blk_grown (g := gb355) (o := .cells #[.int .i64 a0_0, .int .i64 a0_1, .int .i64 a0_2] 31 (0, 0)) (kb_ BK355.out) hg (Kd.R_ne HO_3.out BK355.out (by decide))); have n2_ := Aside0.mk ((by rw [hw]; exact below_set (HB.out) GB52.out : Below w.heap.size w w54)); clear HO_3; clear BK355; clear HB; have HO_3 := n0_; have BK355 := n1_; have HB := n2_; clear n0_ n1_ n2_; clear hg hw hp_)); try go_wp2_with (first | ((with_reducible refine gate_store (t := 3) (p := 81) rfl ?_); (try (rw [drewN_self wc]; generalize hq_ : World.drewN wc _ = wc; have n0_ := Aside0.mk (Kd.R_at hq_ HO_3.out); have n1_ := Aside0.mk (blk_at hq_ BK355.out); have n2_ := Aside0.mk (below_at hq_ HB.out); clear hq_ HO_3 BK355 HB; have HO_3 := n0_; have BK355 := n1_; have HB := n2_; clear n0_ n1_ n2_; (try (have HP53 := Kd.R_putg HO_3.out (x9_3 : Int) (rd x3_3 t365))))); refine store_event (t := 3) (p := 81) (v := ?vo_w54) (w1 := (wc.setCell ⟨go52, (x9_3 : Int).toNat, none⟩ (.int .i64 (rd x3_3 t365)))) ?hg ?ho ?hn ?hr ?_; (case ho => rfl); (case hg => rfl); (case hn => rfl); (case hr => first | (go_simp; done) | (go_simp; rfl)); intro w54 hw; have hg : wc.grownBy w54 (some go52) := (by rw [hw]; exact HP53.2); have hp_ : Kd.R (Kd.int .i64) 3 w54 w.heap.size (fun _ => True) (.slice (some ⟨go52, 0, none⟩) x3_3.length co32) y371 := (by rw [hw, Ny371.out]; exact HP53.1); clear HP53; have n0_ := Aside0.mk (hp_); have n1_ := Aside0.mk (blk_grown (g := gb355) (o := .cells #[.int .i64 a0_0, .int .i64 a0_1, .int .i64 a0_2] 31 (0, 0)) (kb_ BK355.out) hg (Kd.R_ne HO_3.out BK355.out (by decide))); have n2_ := Aside0.mk ((by rw [hw]; exact below_set (HB.out) GB52.out : Below w.heap.size w w54)); clear HO_3; clear BK355; clear HB; have HO_3 := n0_; have BK355 := n1_; have HB := n2_; clear n0_ n1_ n2_; clear hg hw hp_)))
                      (try simp only [← hl3_3])
                      first | go_roundg kj41 | (refine Handed.intro kj41 ?measure ?_; rotate_left; go_step; (try simp only [add_plain]); (repeat apply Exists.intro); refine ⟨?rel, rfl⟩)
                      case measure => have := HK1.out; have := HK2.out; have := HK3.out; have := HJ41.out; omega
                      case rel => exact ⟨(y371), (wrap64 (x9_3 + 1)), (by first | rfl | (simp; done) | (simp [*]; done)), H', ⟨by have := HK1.out; have := HK2.out; have := HK3.out; have := HJ41.out; omega⟩, ⟨by (try simp only [hl3_2]); (try simp only [hl3_3]); (with_reducible repeat (first | apply Kd.R_alloc | apply Kd.R_drewN | apply Kd.R_drew)); exact HO_3.out⟩, ⟨by (try simp only [hl3_2]); (try simp only [hl3_3]); (with_reducible repeat (first | refine blk_drewN ?_ _ | refine blk_drew ?_ | refine blk_alloc ?_ _)); exact BK355.out⟩, ⟨hb_⟩⟩
                     ·rw [if_neg c51] at H
                      exact absurd H (by simp)
                    ·rw [if_neg c50] at H
                     exact absurd H (by simp)
                   ·rw [if_neg c49] at H
                    have c49b0 : ((rd x3_3 x9_3) == (rd x3_2 t366)) = false := beq_eq_false_iff_ne.mpr c49
                    have c49b1 : ((rd x3_3 x9_3) != (rd x3_2 t366)) = true := bne_iff_ne.mpr c49
                    have H' := Aside0.mk H
                    clear H
                    have p369 : 0 ≤ (x9_3 : Int) := of_decide_eq_true (by first | (with_reducible assumption) | assumption)
                    have q369 : x9_3 < (x3_3.length : Int) := of_decide_eq_true (by first | (with_reducible assumption) | assumption)
                    obtain ⟨ad369, e369, hx369_0⟩ := Kd.at_int (Kd.R_reads' HO_3.out).2.2 x9_3 p369 q369
                    obtain rfl : ad367 = ad369 := (by injection e369)
                    replace p369 := eq_true p369
                    replace q369 := eq_true q369
                    go_wp2
                    repeat (go_quiet (fail); try go_wp2)
                    (try simp only [← hl3_3])
                    first | go_roundg kj41 | (refine Handed.intro kj41 ?measure ?_; rotate_left; go_step; (try simp only [add_plain]); (repeat apply Exists.intro); refine ⟨?rel, rfl⟩)
                    case measure => have := HK1.out; have := HK2.out; have := HK3.out; have := HJ41.out; omega
                    case rel => exact ⟨(x3_3), (wrap64 (x9_3 + 1)), (by first | rfl | (simp; done) | (simp [*]; done)), H', ⟨by have := HK1.out; have := HK2.out; have := HK3.out; have := HJ41.out; omega⟩, ⟨by (try simp only [hl3_2]); (try simp only [hl3_3]); (with_reducible repeat (first | apply Kd.R_alloc | apply Kd.R_drewN | apply Kd.R_drew)); exact HO_3.out⟩, ⟨by (try simp only [hl3_2]); (try simp only [hl3_3]); (with_reducible repeat (first | refine blk_drewN ?_ _ | refine blk_drew ?_ | refine blk_alloc ?_ _)); exact BK355.out⟩, ⟨hb_⟩⟩
                  ·rw [if_neg c48] at H
                   exact absurd H (by simp)
                 ·rw [if_neg c47] at H
                  exact absurd H (by simp)
                ·replace c46 := Bool.eq_false_iff.mpr c46
                 subst c46
                 have H1 : (spec_WallParts.l1 kj41 x3_3 (wrap64 (x5_2 + 1)) a0_0 a0_1 a0_2) = some r := by rw [if_neg (show ¬ (false = true) by decide)] at H; exact H
                 clear H
                 have H := H1
                 clear H1
                 have H' := Aside0.mk H
                 clear H
                 go_wp2
                 repeat (go_quiet (fail); try go_wp2)
                 (try simp only [← hl3_2, ← hl3_3])
                 first | go_roundg kj41 | (refine Handed.intro kj41 ?measure ?_; rotate_left; go_step; (try simp only [add_plain]); (repeat apply Exists.intro); refine ⟨?rel, rfl⟩)
                 case measure => have := HK1.out; have := HK2.out; have := HK3.out; have := HJ41.out; omega
                 case rel => exact ⟨(x3_3), (wrap64 (x5_2 + 1)), (by first | rfl | (simp; done) | (simp [*]; done)), H', ⟨by have := HK1.out; have := HK2.out; have := HK3.out; have := HJ41.out; omega⟩, ⟨by (try simp only [hl3_2]); (try simp only [hl3_3]); (with_reducible repeat (first | apply Kd.R_alloc | apply Kd.R_drewN | apply Kd.R_drew)); exact HO_3.out⟩, ⟨by (try simp only [hl3_2]); (try simp only [hl3_3]); (with_reducible repeat (first | refine blk_drewN ?_ _ | refine blk_drew ?_ | refine blk_alloc ?_ _)); exact BK355.out⟩, ⟨hb_⟩⟩
           ·rw [if_neg c37] at H
            exact absurd H (by simp)
          ·rw [if_neg c36] at H
           exact absurd H (by simp)
         ·rw [if_neg c34] at H
          have c34b0 : decide (x5_2 < t364) = false := decide_eq_false c34
          clear c34
          have H' := Aside0.mk H
          clear H
          have hcz55_0 : wr.cell? ⟨gb355, 0, none⟩ = some (.int .i64 a0_0) := (blk_cell BK355.out 0).trans rfl
          have hcz55_1 : wr.cell? ⟨gb355, 1, none⟩ = some (.int .i64 a0_1) := (blk_cell BK355.out 1).trans rfl
          have hcz55_2 : wr.cell? ⟨gb355, 2, none⟩ = some (.int .i64 a0_2) := (blk_cell BK355.out 2).trans rfl
          have hfz55_0 := blk_frozen BK355.out 0
          have hfz55_1 := blk_frozen BK355.out 1
          have hfz55_2 := blk_frozen BK355.out 2
          go_wp2_with (first | (go_at_call 43; (with_reducible refine (spec_CountGaps.calls a0_0 a0_1 t364 _ A33.out).mono ?_); rintro e w56 ⟨rfl, hb⟩; have n0_ := Aside0.mk (Kd.R_below (kr_ HO_3.out) hb); have n1_ := Aside0.mk (blk_below (g := gb355) (o := .cells #[.int .i64 a0_0, .int .i64 a0_1, .int .i64 a0_2] 31 (0, 0)) (kb_ BK355.out) hb); have n2_ := Aside0.mk (below_step hb_ hb); clear HO_3; clear BK355; clear HB; have HO_3 := n0_; have BK355 := n1_; have HB := n2_; clear n0_ n1_ n2_; (try clear hb); (try clear hb2); (try clear hk); (try clear hi)))
          repeat (go_quiet (first | (go_at_call 43; (with_reducible refine (spec_CountGaps.calls a0_0 a0_1 t364 _ A33.out).mono ?_); rintro e w56 ⟨rfl, hb⟩; have n0_ := Aside0.mk (Kd.R_below (kr_ HO_3.out) hb); have n1_ := Aside0.mk (blk_below (g := gb355) (o := .cells #[.int .i64 a0_0, .int .i64 a0_1, .int .i64 a0_2] 31 (0, 0)) (kb_ BK355.out) hb); have n2_ := Aside0.mk (below_step hb_ hb); clear HO_3; clear BK355; clear HB; have HO_3 := n0_; have BK355 := n1_; have HB := n2_; clear n0_ n1_ n2_; (try clear hb); (try clear hb2); (try clear hk); (try clear hi))); try go_wp2_with (first | (go_at_call 43; (with_reducible refine (spec_CountGaps.calls a0_0 a0_1 t364 _ A33.out).mono ?_); rintro e w56 ⟨rfl, hb⟩; have n0_ := Aside0.mk (Kd.R_below (kr_ HO_3.out) hb); have n1_ := Aside0.mk (blk_below (g := gb355) (o := .cells #[.int .i64 a0_0, .int .i64 a0_1, .int .i64 a0_2] 31 (0, 0)) (kb_ BK355.out) hb); have n2_ := Aside0.mk (below_step hb_ hb); clear HO_3; clear BK355; clear HB; have HO_3 := n0_; have BK355 := n1_; have HB := n2_; clear n0_ n1_ n2_; (try clear hb); (try clear hb2); (try clear hk); (try clear hi))))
          go_loopg [10, 11] k2 (fun kq v10 v11 w' => ∃ (x10_3 : Int) (x11_3 : Int), v10 = .int .i64 x10_3 ∧ v11 = .int .i64 x11_3 ∧ Aside0 (spec_WallParts.l3 kq x3_2 x10_3 x11_3 = some r) ∧ Aside0 (kq ≤ k2) ∧ Aside0 (Kd.R (Kd.int .i64) 3 w' w.heap.size (fun _ => True) (.slice Ao32 x3_2.length co32) x3_2) ∧ Aside0 (w'.heap[gb355]? = some (.cells #[.int .i64 a0_0, .int .i64 a0_1, .int .i64 a0_2] 31 (0, 0))) ∧ Aside0 (Below w.heap.size w w'))
          case atStart => exact ⟨(0), (0), (by first | rfl | (simp; done) | (simp [*]; done)), (by first | rfl | (simp; done) | (simp [*]; done)), H', ⟨Nat.le_refl _⟩, ⟨by (try simp only [hl3_2]); (with_reducible repeat (first | apply Kd.R_alloc | apply Kd.R_drewN | apply Kd.R_drew)); exact HO_3.out⟩, ⟨by (try simp only [hl3_2]); (with_reducible repeat (first | refine blk_drewN ?_ _ | refine blk_drew ?_ | refine blk_alloc ?_ _)); exact BK355.out⟩, ⟨hb_⟩⟩
          case round =>
           clear H'
           try clear c1
           try clear p1
           try clear q1
           try clear hx1
           try clear hf1
           try clear c2
           try clear p2
           try clear c3
           try clear p3
           try clear q3
           try clear hx3
           try clear c4
           try clear c5
           try clear c5b0
           try clear c5b1
           try clear p5
           try clear q5
           try clear hx5
           try clear hf5
           try clear c6
           try clear c6b0
           try clear c6b1
           try clear p6
           try clear c14
           try clear c14b0
           try clear c15
           try clear c15b0
           try clear p16
           try clear q16
           try clear hx16
           try clear hf16
           try clear c18
           try clear p19
           try clear q19
           try clear hx19
           try clear hf19
           try clear c23
           try clear c34
           try clear c34b0
           try clear c36
           try clear c36b0
           try clear p36
           try clear q36
           try clear hx36
           try clear c37
           try clear c37b0
           try clear p37
           try clear q37
           try clear hx37
           try clear c43
           try clear c43b0
           try clear c46
           try clear c47
           try clear c47b0
           try clear c48
           try clear c48b0
           try clear c49
           try clear c49b0
           try clear c49b1
           try clear c50
           try clear c50b0
           try clear c51
           try clear c51b0
           try clear p52
           try clear q52
           try clear hx52
           try clear hf52
           try clear hcz10_0
           try clear hcz10_1
           try clear hcz10_2
           try clear hcz23_0
           try clear hcz23_1
           try clear hcz23_2
           try clear hcz30_0
           try clear hcz30_1
           try clear hcz30_2
           try clear hcz38_0
           try clear hcz38_1
           try clear hcz38_2
           try clear hcz40_0
           try clear hcz40_1
           try clear hcz40_2
           try clear hcz45_0
           try clear hcz45_1
           try clear hcz45_2
           try clear hcz55_0
           try clear hcz55_1
           try clear hcz55_2
           try clear hcz8_0
           try clear hcz8_1
           try clear hcz8_2
           try clear hfz10_0
           try clear hfz10_1
           try clear hfz10_2
           try clear hfz23_0
           try clear hfz23_1
           try clear hfz23_2
           try clear hfz30_0
           try clear hfz30_1
           try clear hfz30_2
           try clear hfz38_0
           try clear hfz38_1
           try clear hfz38_2
           try clear hfz40_0
           try clear hfz40_1
           try clear hfz40_2
           try clear hfz45_0
           try clear hfz45_1
           try clear hfz45_2
           try clear hfz55_0
           try clear hfz55_1
           try clear hfz55_2
           try clear hfz8_0
           try clear hfz8_1
           try clear hfz8_2
           try clear hx16_0
           try clear hx19_0
           try clear hx367_0
           try clear hx369_0
           try clear hx370_0
           try clear hx52_0
           try clear p1
           try clear p16
           try clear p19
           try clear p2
           try clear p3
           try clear p36
           try clear p367
           try clear p369
           try clear p370
           try clear p52
           try clear p6
           try clear q1
           try clear q16
           try clear q19
           try clear q3
           try clear q36
           try clear q367
           try clear q369
           try clear q370
           try clear q52
           obtain ⟨x10_3, x11_3, rfl, rfl, HA, HK3, HO_3, BK355, HB⟩ := hrel
           cases gk with
           | zero => exact absurd HA.out (by simp [spec_WallParts.l3])
           | succ k3 =>
            have H := HA.out
            clear HA
            simp only [spec_WallParts.l3] at H
            by_cases c57 : x11_3 < (x3_2.length : Int)
            ·rw [if_pos c57] at H
             have c57b0 : decide (x11_3 < (x3_2.length : Int)) = true := decide_eq_true c57
             clear c57
             have H' := Aside0.mk H
             clear H
             go_wp2
             repeat (go_quiet (fail); try go_wp2)
             go_loopg [12, 13] k3 (fun kq v12 v13 w' => ∃ (x12_4 : Bool) (x13_4 : Int), v12 = .bool x12_4 ∧ v13 = .int .i64 x13_4 ∧ Aside0 (spec_WallParts.l4 kq x3_2 x10_3 x11_3 x12_4 x13_4 = some r) ∧ Aside0 (kq ≤ k3) ∧ Aside0 (Kd.R (Kd.int .i64) 3 w' w.heap.size (fun _ => True) (.slice Ao32 x3_2.length co32) x3_2) ∧ Aside0 (w'.heap[gb355]? = some (.cells #[.int .i64 a0_0, .int .i64 a0_1, .int .i64 a0_2] 31 (0, 0))) ∧ Aside0 (Below w.heap.size w w'))
             case atStart => exact ⟨(true), (0), (by first | rfl | (simp; done) | (simp [*]; done)), (by first | rfl | (simp; done) | (simp [*]; done)), H', ⟨Nat.le_refl _⟩, ⟨by (try simp only [hl3_2]); (with_reducible repeat (first | apply Kd.R_alloc | apply Kd.R_drewN | apply Kd.R_drew)); exact HO_3.out⟩, ⟨by (try simp only [hl3_2]); (with_reducible repeat (first | refine blk_drewN ?_ _ | refine blk_drew ?_ | refine blk_alloc ?_ _)); exact BK355.out⟩, ⟨hb_⟩⟩
             case round =>
              clear H'
              try clear c1
              try clear p1
              try clear q1
              try clear hx1
              try clear hf1
              try clear c2
              try clear p2
              try clear c3
              try clear p3
              try clear q3
              try clear hx3
              try clear c4
              try clear c5
              try clear c5b0
              try clear c5b1
              try clear p5
              try clear q5
              try clear hx5
              try clear hf5
              try clear c6
              try clear c6b0
              try clear c6b1
              try clear p6
              try clear c14
              try clear c14b0
              try clear c15
              try clear c15b0
              try clear p16
              try clear q16
              try clear hx16
              try clear hf16
              try clear c18
              try clear p19
              try clear q19
              try clear hx19
              try clear hf19
              try clear c23
              try clear c34
              try clear c34b0
              try clear c36
              try clear c36b0
              try clear p36
              try clear q36
              try clear hx36
              try clear c37
              try clear c37b0
              try clear p37
              try clear q37
              try clear hx37
              try clear c43
              try clear c43b0
              try clear c46
              try clear c47
              try clear c47b0
              try clear c48
              try clear c48b0
              try clear c49
              try clear c49b0
              try clear c49b1
              try clear c50
              try clear c50b0
              try clear c51
              try clear c51b0
              try clear p52
              try clear q52
              try clear hx52
              try clear hf52
              try clear c57
              try clear c57b0
              try clear hcz10_0
              try clear hcz10_1
              try clear hcz10_2
              try clear hcz23_0
              try clear hcz23_1
              try clear hcz23_2
              try clear hcz30_0
              try clear hcz30_1
              try clear hcz30_2
              try clear hcz38_0
              try clear hcz38_1
              try clear hcz38_2
              try clear hcz40_0
              try clear hcz40_1
              try clear hcz40_2
              try clear hcz45_0
              try clear hcz45_1
              try clear hcz45_2
              try clear hcz55_0
              try clear hcz55_1
              try clear hcz55_2
              try clear hcz8_0
              try clear hcz8_1
              try clear hcz8_2
              try clear hfz10_0
              try clear hfz10_1
              try clear hfz10_2
              try clear hfz23_0
              try clear hfz23_1
              try clear hfz23_2
              try clear hfz30_0
              try clear hfz30_1
              try clear hfz30_2
              try clear hfz38_0
              try clear hfz38_1
              try clear hfz38_2
              try clear hfz40_0
              try clear hfz40_1
              try clear hfz40_2
              try clear hfz45_0
              try clear hfz45_1
              try clear hfz45_2
              try clear hfz55_0
              try clear hfz55_1
              try clear hfz55_2
              try clear hfz8_0
              try clear hfz8_1
              try clear hfz8_2
              try clear hx16_0
              try clear hx19_0
              try clear hx367_0
              try clear hx369_0
              try clear hx370_0
              try clear hx52_0
              try clear p1
              try clear p16
              try clear p19
              try clear p2
              try clear p3
              try clear p36
              try clear p367
              try clear p369
              try clear p37
              try clear p370
              try clear p5
              try clear p52
              try clear p6
              try clear q1
              try clear q16
              try clear q19
              try clear q3
              try clear q36
              try clear q367
              try clear q369
              try clear q37
              try clear q370
              try clear q5
              try clear q52
              obtain ⟨x12_4, x13_4, rfl, rfl, HA, HK4, HO_3, BK355, HB⟩ := hrel
              cases gk with
              | zero => exact absurd HA.out (by simp [spec_WallParts.l4])
              | succ k4 =>
               have H := HA.out
               clear HA
               simp only [spec_WallParts.l4] at H
               by_cases c58 : x13_4 < x11_3
               ·rw [if_pos c58] at H
                have c58b0 : decide (x13_4 < x11_3) = true := decide_eq_true c58
                clear c58
                by_cases c59 : x12_4 = true
                ·subst c59
                 have H1 : (if 0 ≤ x13_4 then (if x13_4 < (x3_2.length : Int) then (if 0 ≤ x11_3 then (if x11_3 < (x3_2.length : Int) then (spec_WallParts.l4 k4 x3_2 x10_3 x11_3 ((rd x3_2 x13_4) != (rd x3_2 x11_3)) (wrap64 (x13_4 + 1))) else (none)) else (none)) else (none)) else (none)) = some r := by rw [if_pos rfl] at H; exact H
                 clear H
                 have H := H1
                 clear H1
                 by_cases c60 : 0 ≤ x13_4
                 ·rw [if_pos c60] at H
                  have c60b0 : decide (0 ≤ x13_4) = true := decide_eq_true c60
                  clear c60
                  by_cases c61 : x13_4 < (x3_2.length : Int)
                  ·rw [if_pos c61] at H
                   have c61b0 : decide (x13_4 < (x3_2.length : Int)) = true := decide_eq_true c61
                   clear c61
                   by_cases c62 : 0 ≤ x11_3
                   ·rw [if_pos c62] at H
                    have c62b0 : decide (0 ≤ x11_3) = true := decide_eq_true c62
                    clear c62
                    by_cases c63 : x11_3 < (x3_2.length : Int)
                    ·rw [if_pos c63] at H
                     have c63b0 : decide (x11_3 < (x3_2.length : Int)) = true := decide_eq_true c63
                     clear c63
                     have H' := Aside0.mk H
                     clear H
                     have p372 : 0 ≤ (x13_4 : Int) := of_decide_eq_true (by first | (with_reducible assumption) | assumption)
                     have q372 : x13_4 < (x3_2.length : Int) := of_decide_eq_true (by first | (with_reducible assumption) | assumption)
                     obtain ⟨ad372, e372, hx372_0⟩ := Kd.at_int (Kd.R_reads' HO_3.out).2.2 x13_4 p372 q372
                     cases e372
                     replace p372 := eq_true p372
                     replace q372 := eq_true q372
                     have p373 : 0 ≤ (x11_3 : Int) := of_decide_eq_true (by first | (with_reducible assumption) | assumption)
                     have q373 : x11_3 < (x3_2.length : Int) := of_decide_eq_true (by first | (with_reducible assumption) | assumption)
                     obtain ⟨ad373, e373, hx373_0⟩ := Kd.at_int (Kd.R_reads' HO_3.out).2.2 x11_3 p373 q373
                     obtain rfl : ad372 = ad373 := (by injection e373)
                     replace p373 := eq_true p373
                     replace q373 := eq_true q373
                     go_wp2
                     repeat (go_quiet (fail); try go_wp2)
                     first | go_roundg k4 | (refine Handed.intro k4 ?measure ?_; rotate_left; go_step; (try simp only [add_plain]); (repeat apply Exists.intro); refine ⟨?rel, rfl⟩)
                     case measure => have := HK1.out; have := HK2.out; have := HK3.out; have := HK4.out; omega
                     case rel => exact ⟨(((rd x3_2 x13_4) != (rd x3_2 x11_3))), (wrap64 (x13_4 + 1)), (by first | rfl | (simp; done) | (simp [*]; done)), (by first | rfl | (simp; done) | (simp [*]; done)), H', ⟨by have := HK1.out; have := HK2.out; have := HK3.out; have := HK4.out; omega⟩, ⟨by (try simp only [hl3_2]); (with_reducible repeat (first | apply Kd.R_alloc | apply Kd.R_drewN | apply Kd.R_drew)); exact HO_3.out⟩, ⟨by (try simp only [hl3_2]); (with_reducible repeat (first | refine blk_drewN ?_ _ | refine blk_drew ?_ | refine blk_alloc ?_ _)); exact BK355.out⟩, ⟨hb_⟩⟩
                    ·rw [if_neg c63] at H
                     exact absurd H (by simp)
                   ·rw [if_neg c62] at H
                    exact absurd H (by simp)
                  ·rw [if_neg c61] at H
                   exact absurd H (by simp)
                 ·rw [if_neg c60] at H
                  exact absurd H (by simp)
                ·replace c59 := Bool.eq_false_iff.mpr c59
                 subst c59
                 have H1 : (spec_WallParts.l4 k4 x3_2 x10_3 x11_3 false (wrap64 (x13_4 + 1))) = some r := by rw [if_neg (show ¬ (false = true) by decide)] at H; exact H
                 clear H
                 have H := H1
                 clear H1
                 have H' := Aside0.mk H
                 clear H
                 go_wp2
                 repeat (go_quiet (fail); try go_wp2)
                 first | go_roundg k4 | (refine Handed.intro k4 ?measure ?_; rotate_left; go_step; (try simp only [add_plain]); (repeat apply Exists.intro); refine ⟨?rel, rfl⟩)
                 case measure => have := HK1.out; have := HK2.out; have := HK3.out; have := HK4.out; omega
                 case rel => exact ⟨(false), (wrap64 (x13_4 + 1)), (by first | rfl | (simp; done) | (simp [*]; done)), (by first | rfl | (simp; done) | (simp [*]; done)), H', ⟨by have := HK1.out; have := HK2.out; have := HK3.out; have := HK4.out; omega⟩, ⟨by (try simp only [hl3_2]); (with_reducible repeat (first | apply Kd.R_alloc | apply Kd.R_drewN | apply Kd.R_drew)); exact HO_3.out⟩, ⟨by (try simp only [hl3_2]); (with_reducible repeat (first | refine blk_drewN ?_ _ | refine blk_drew ?_ | refine blk_alloc ?_ _)); exact BK355.out⟩, ⟨hb_⟩⟩
               ·rw [if_neg c58] at H
                have c58b0 : decide (x13_4 < x11_3) = false := decide_eq_false c58
                clear c58
                by_cases c64 : x12_4 = true
                ·subst c64
                 have H1 : (spec_WallParts.l3 k4 x3_2 (wrap64 (x10_3 + 1)) (wrap64 (x11_3 + 1))) = some r := by rw [if_pos rfl] at H; exact H
                 clear H
                 have H := H1
                 clear H1
                 have H' := Aside0.mk H
                 clear H
                 go_wp2
                 repeat (go_quiet (fail); try go_wp2)
                 first | go_roundg k4 | (refine Handed.intro k4 ?measure ?_; rotate_left; go_step; (try simp only [add_plain]); (repeat apply Exists.intro); refine ⟨?rel, rfl⟩)
                 case measure => have := HK1.out; have := HK2.out; have := HK3.out; have := HK4.out; omega
                 case rel => exact ⟨(wrap64 (x10_3 + 1)), (wrap64 (x11_3 + 1)), (by first | rfl | (simp; done) | (simp [*]; done)), (by first | rfl | (simp; done) | (simp [*]; done)), H', ⟨by have := HK1.out; have := HK2.out; have := HK3.out; have := HK4.out; omega⟩, ⟨by (try simp only [hl3_2]); (with_reducible repeat (first | apply Kd.R_alloc | apply Kd.R_drewN | apply Kd.R_drew)); exact HO_3.out⟩, ⟨by (try simp only [hl3_2]); (with_reducible repeat (first | refine blk_drewN ?_ _ | refine blk_drew ?_ | refine blk_alloc ?_ _)); exact BK355.out⟩, ⟨hb_⟩⟩
                ·replace c64 := Bool.eq_false_iff.mpr c64
                 subst c64
                 have H1 : (spec_WallParts.l3 k4 x3_2 x10_3 (wrap64 (x11_3 + 1))) = some r := by rw [if_neg (show ¬ (false = true) by decide)] at H; exact H
                 clear H
                 have H := H1
                 clear H1
                 have H' := Aside0.mk H
                 clear H
                 go_wp2
                 repeat (go_quiet (fail); try go_wp2)
                 first | go_roundg k4 | (refine Handed.intro k4 ?measure ?_; rotate_left; go_step; (try simp only [add_plain]); (repeat apply Exists.intro); refine ⟨?rel, rfl⟩)
                 case measure => have := HK1.out; have := HK2.out; have := HK3.out; have := HK4.out; omega
                 case rel => exact ⟨(x10_3), (wrap64 (x11_3 + 1)), (by first | rfl | (simp; done) | (simp [*]; done)), (by first | rfl | (simp; done) | (simp [*]; done)), H', ⟨by have := HK1.out; have := HK2.out; have := HK3.out; have := HK4.out; omega⟩, ⟨by (try simp only [hl3_2]); (with_reducible repeat (first | apply Kd.R_alloc | apply Kd.R_drewN | apply Kd.R_drew)); exact HO_3.out⟩, ⟨by (try simp only [hl3_2]); (with_reducible repeat (first | refine blk_drewN ?_ _ | refine blk_drew ?_ | refine blk_alloc ?_ _)); exact BK355.out⟩, ⟨hb_⟩⟩
            ·rw [if_neg c57] at H
             have c57b0 : decide (x11_3 < (x3_2.length : Int)) = false := decide_eq_false c57
             clear c57
             obtain rfl := Option.some.inj H
             go_wp2
             repeat (go_quiet (fail); try go_wp2)
             go_ret
             exact ⟨er_, hb_⟩
   ·rw [if_neg c6] at H
    exact absurd H (by simp)
  ·rw [if_neg c5] at H
   exact absurd H (by simp)
 ·replace c3 := Bool.eq_false_iff.mpr c3
  subst c3
  have H1 : (some 0) = some r := by rw [if_neg (show ¬ (false = true) by decide)] at H; exact H
  clear H
  have H := H1
  clear H1
  obtain rfl := Option.some.inj H
  go_enter Try.func23, Try.ntmps23
  go_wp2_with (first | ((with_reducible refine gate_dst (N := 1) rfl ?_); refine box_event ?hg (N := 1) ?hd (cs := #[.int .i64 a0_0, .int .i64 a0_1, .int .i64 a0_2]) (t := 31) ?hr ?_; (case hd => rfl); (case hg => rfl); (case hr => first | (go_simp; done) | (go_simp; rfl)); intro gb355 hg w65 hbox hb; have n0_ := Aside0.mk (below_step hb_ hb); have n1_ := Aside0.mk (hbox); have n2_ := Aside0.mk ((by rw [hg]; exact (below_size hb_) : w.heap.size ≤ gb355)); have n3_ := Aside0.mk ((by rw [hg]; exact (below_size hb_) : w.heap.size ≤ gb355)); clear HB; have HB := n0_; have BK355 := n1_; have GW355 := n2_; have GE355 := n3_; clear n0_ n1_ n2_ n3_; clear hb hbox hg; have hcz66_0 := cz_ (.int .i64 a0_0) BK355.out 0; have hcz66_1 := cz_ (.int .i64 a0_1) BK355.out 1; have hcz66_2 := cz_ (.int .i64 a0_2) BK355.out 2; have hfz66_0 := blk_frozen BK355.out 0; have hfz66_1 := blk_frozen BK355.out 1; have hfz66_2 := blk_frozen BK355.out 2) | (go_at_call 40; (with_reducible refine (spec_MazeOk.calls a0_0 a0_1 a0_2 false _ A2.out).mono ?_); rintro e w67 ⟨rfl, hb⟩; have n0_ := Aside0.mk (blk_below (g := gb355) (o := .cells #[.int .i64 a0_0, .int .i64 a0_1, .int .i64 a0_2] 31 (0, 0)) (kb_ BK355.out) hb); have n1_ := Aside0.mk (below_step hb_ hb); clear BK355; clear HB; have BK355 := n0_; have HB := n1_; clear n0_ n1_; (try clear hb); (try clear hb2); (try clear hk); (try clear hi)))
  repeat (go_quiet (first | ((with_reducible refine gate_dst (N := 1) rfl ?_); refine box_event ?hg (N := 1) ?hd (cs := #[.int .i64 a0_0, .int .i64 a0_1, .int .i64 a0_2]) (t := 31) ?hr ?_; (case hd => rfl); (case hg => rfl); (case hr => first | (go_simp; done) | (go_simp; rfl)); intro gb355 hg w65 hbox hb; have n0_ := Aside0.mk (below_step hb_ hb); have n1_ := Aside0.mk (hbox); have n2_ := Aside0.mk ((by rw [hg]; exact (below_size hb_) : w.heap.size ≤ gb355)); have n3_ := Aside0.mk ((by rw [hg]; exact (below_size hb_) : w.heap.size ≤ gb355)); clear HB; have HB := n0_; have BK355 := n1_; have GW355 := n2_; have GE355 := n3_; clear n0_ n1_ n2_ n3_; clear hb hbox hg; have hcz66_0 := cz_ (.int .i64 a0_0) BK355.out 0; have hcz66_1 := cz_ (.int .i64 a0_1) BK355.out 1; have hcz66_2 := cz_ (.int .i64 a0_2) BK355.out 2; have hfz66_0 := blk_frozen BK355.out 0; have hfz66_1 := blk_frozen BK355.out 1; have hfz66_2 := blk_frozen BK355.out 2) | (go_at_call 40; (with_reducible refine (spec_MazeOk.calls a0_0 a0_1 a0_2 false _ A2.out).mono ?_); rintro e w67 ⟨rfl, hb⟩; have n0_ := Aside0.mk (blk_below (g := gb355) (o := .cells #[.int .i64 a0_0, .int .i64 a0_1, .int .i64 a0_2] 31 (0, 0)) (kb_ BK355.out) hb); have n1_ := Aside0.mk (below_step hb_ hb); clear BK355; clear HB; have BK355 := n0_; have HB := n1_; clear n0_ n1_; (try clear hb); (try clear hb2); (try clear hk); (try clear hi))); try go_wp2_with (first | ((with_reducible refine gate_dst (N := 1) rfl ?_); refine box_event ?hg (N := 1) ?hd (cs := #[.int .i64 a0_0, .int .i64 a0_1, .int .i64 a0_2]) (t := 31) ?hr ?_; (case hd => rfl); (case hg => rfl); (case hr => first | (go_simp; done) | (go_simp; rfl)); intro gb355 hg w65 hbox hb; have n0_ := Aside0.mk (below_step hb_ hb); have n1_ := Aside0.mk (hbox); have n2_ := Aside0.mk ((by rw [hg]; exact (below_size hb_) : w.heap.size ≤ gb355)); have n3_ := Aside0.mk ((by rw [hg]; exact (below_size hb_) : w.heap.size ≤ gb355)); clear HB; have HB := n0_; have BK355 := n1_; have GW355 := n2_; have GE355 := n3_; clear n0_ n1_ n2_ n3_; clear hb hbox hg; have hcz66_0 := cz_ (.int .i64 a0_0) BK355.out 0; have hcz66_1 := cz_ (.int .i64 a0_1) BK355.out 1; have hcz66_2 := cz_ (.int .i64 a0_2) BK355.out 2; have hfz66_0 := blk_frozen BK355.out 0; have hfz66_1 := blk_frozen BK355.out 1; have hfz66_2 := blk_frozen BK355.out 2) | (go_at_call 40; (with_reducible refine (spec_MazeOk.calls a0_0 a0_1 a0_2 false _ A2.out).mono ?_); rintro e w67 ⟨rfl, hb⟩; have n0_ := Aside0.mk (blk_below (g := gb355) (o := .cells #[.int .i64 a0_0, .int .i64 a0_1, .int .i64 a0_2] 31 (0, 0)) (kb_ BK355.out) hb); have n1_ := Aside0.mk (below_step hb_ hb); clear BK355; clear HB; have BK355 := n0_; have HB := n1_; clear n0_ n1_; (try clear hb); (try clear hb2); (try clear hk); (try clear hi))))
  go_ret
  exact ⟨er_, hb_⟩

end Go.Proofs.Ytkbfknodibnkgaa.Q
