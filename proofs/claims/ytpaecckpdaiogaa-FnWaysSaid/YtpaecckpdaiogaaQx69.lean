/- Plain Lean functions of Go functions, and for each the proof that its call comes to just that answer. Conditions: in each theorem's statement. -/
import Derived.Test.YtpaecckpdaiogaaQx0
import Derived.Test.YtpaecckpdaiogaaQx7
import Derived.Test.YtpaecckpdaiogaaQx8
import Derived.Test.YtpaecckpdaiogaaQx42
import Derived.Test.YtpaecckpdaiogaaQx56
namespace Go.Proofs.Ytpaecckpdaiogaa.Q
open Go.RowKit Go.Proofs.YtpaecckpdaiogaaW.PrintWords Go.Proofs.YtpaecckpdaiogaaW.PrintLast
attribute [local go_sem] max2_int min2_int max_two min_two   -- for this text's walks alone
set_option linter.unusedVariables false
set_option linter.unusedSimpArgs false

/-! ### impl_WayBetween: function 57 -/
mutual
def impl_WayBetween.l0 : Nat → Int → List Int → List Int → Int → Int → Int → Int → Option (List Int × Bool)
 | 0, _, _, _, _, _, _, _ => none
 | k + 1, x2, x8, x9, x10, x765000, x765001, x765002 => if x10 = x2 then (some (x9, true)) else ((impl_WaysFrom.f k x765000 x765001 x765002 x10).bind fun t769 => (impl_WayBetween.l1 k x2 x8 x9 x10 t769 (t769.length : Int) 0 x765000 x765001 x765002))
def impl_WayBetween.l1 : Nat → Int → List Int → List Int → Int → List Int → Int → Int → Int → Int → Int → Option (List Int × Bool)
 | 0, _, _, _, _, _, _, _, _, _, _ => none
 | k + 1, x2, x8, x9, x10, x28, x29, x30, x765000, x765001, x765002 => if x30 < x29 then (if 0 ≤ x30 then (if x30 < (x28.length : Int) then ((impl_Step.f k x765000 x765001 x765002 x10 (rd x28 x30)).bind fun t773 => (if 0 ≤ t773 then (if t773 < (x8.length : Int) then (if 0 ≤ x10 then (if x10 < (x8.length : Int) then (if (rd x8 t773) < (rd x8 x10) then (if x9.length < 17592186044416 then (impl_WayBetween.l0 k x2 x8 (x9 ++ [rd x28 x30]) t773 x765000 x765001 x765002) else (none)) else (impl_WayBetween.l1 k x2 x8 x9 x10 x28 x29 (wrap64 (x30 + 1)) x765000 x765001 x765002)) else (none)) else (none)) else (none)) else (none))) else (none)) else (none)) else (impl_WayBetween.l0 k x2 x8 x9 x10 x765000 x765001 x765002)
end
def impl_WayBetween.f (k : Nat) (a0_0 : Int) (a0_1 : Int) (a0_2 : Int) (a1 : Int) (a2 : Int) : Option (List Int × Bool) := (impl_DistanceOf.f k a0_0 a0_1 a0_2 a1 a2).bind fun t765 => (if t765 < 0 then (some (([] : List Int), false)) else ((impl_distances.f k a0_0 a0_1 a0_2 a2).bind fun t766 => (impl_WayBetween.l0 k a2 t766 ([] : List Int) a1 a0_0 a0_1 a0_2)))
theorem impl_WayBetween.mono_l : ∀ k, (∀ y0 y1 y2 y3 y4 y5 y6, LeO (impl_WayBetween.l0 k y0 y1 y2 y3 y4 y5 y6) (impl_WayBetween.l0 (k + 1) y0 y1 y2 y3 y4 y5 y6)) ∧ (∀ y0 y1 y2 y3 y4 y5 y6 y7 y8 y9, LeO (impl_WayBetween.l1 k y0 y1 y2 y3 y4 y5 y6 y7 y8 y9) (impl_WayBetween.l1 (k + 1) y0 y1 y2 y3 y4 y5 y6 y7 y8 y9))
 | 0 => ⟨fun _ _ _ _ _ _ _ r h => by simp [impl_WayBetween.l0] at h, fun _ _ _ _ _ _ _ _ _ _ r h => by simp [impl_WayBetween.l1] at h⟩
 | k + 1 => by
  obtain ⟨ih0, ih1⟩ := impl_WayBetween.mono_l k
  refine ⟨?_, ?_⟩
  ·intro y0 y1 y2 y3 y4 y5 y6
   unfold impl_WayBetween.l0
   repeat' first
   | (with_reducible exact ih0 _ _ _ _ _ _ _)
   | (with_reducible exact ih1 _ _ _ _ _ _ _ _ _ _)
   | (with_reducible exact impl_DistanceOf.mono _ _ _ _ _ _)
   | (with_reducible exact impl_Step.mono _ _ _ _ _ _)
   | (with_reducible exact impl_WaysFrom.mono _ _ _ _ _)
   | (with_reducible exact impl_distances.mono _ _ _ _ _)
   | (with_reducible exact LeO.refl _)
   | (with_reducible exact LeO.none _)
   | (with_reducible refine LeO.ite ?_ ?_)
   | (with_reducible refine LeO.bind ?_ (fun _ => ?_))
   | exact ih0 _ _ _ _ _ _ _
   | exact ih1 _ _ _ _ _ _ _ _ _ _
   | exact impl_DistanceOf.mono _ _ _ _ _ _
   | exact impl_Step.mono _ _ _ _ _ _
   | exact impl_WaysFrom.mono _ _ _ _ _
   | exact impl_distances.mono _ _ _ _ _
   | exact LeO.none _
   | refine LeO.ite ?_ ?_
   | refine LeO.bind ?_ (fun _ => ?_)
  ·intro y0 y1 y2 y3 y4 y5 y6 y7 y8 y9
   unfold impl_WayBetween.l1
   repeat' first
   | (with_reducible exact ih0 _ _ _ _ _ _ _)
   | (with_reducible exact ih1 _ _ _ _ _ _ _ _ _ _)
   | (with_reducible exact impl_DistanceOf.mono _ _ _ _ _ _)
   | (with_reducible exact impl_Step.mono _ _ _ _ _ _)
   | (with_reducible exact impl_WaysFrom.mono _ _ _ _ _)
   | (with_reducible exact impl_distances.mono _ _ _ _ _)
   | (with_reducible exact LeO.refl _)
   | (with_reducible exact LeO.none _)
   | (with_reducible refine LeO.ite ?_ ?_)
   | (with_reducible refine LeO.bind ?_ (fun _ => ?_))
   | exact ih0 _ _ _ _ _ _ _
   | exact ih1 _ _ _ _ _ _ _ _ _ _
   | exact impl_DistanceOf.mono _ _ _ _ _ _
   | exact impl_Step.mono _ _ _ _ _ _
   | exact impl_WaysFrom.mono _ _ _ _ _
   | exact impl_distances.mono _ _ _ _ _
   | exact LeO.none _
   | refine LeO.ite ?_ ?_
   | refine LeO.bind ?_ (fun _ => ?_)
theorem impl_WayBetween.mono : ∀ a0 a1 a2 a3 a4 k, LeO (impl_WayBetween.f k a0 a1 a2 a3 a4) (impl_WayBetween.f (k + 1) a0 a1 a2 a3 a4) := by
 intro a0 a1 a2 a3 a4 k
 obtain ⟨ih0, ih1⟩ := impl_WayBetween.mono_l k
 unfold impl_WayBetween.f
 repeat' first
   | (with_reducible exact ih0 _ _ _ _ _ _ _)
   | (with_reducible exact ih1 _ _ _ _ _ _ _ _ _ _)
   | (with_reducible exact impl_DistanceOf.mono _ _ _ _ _ _)
   | (with_reducible exact impl_Step.mono _ _ _ _ _ _)
   | (with_reducible exact impl_WaysFrom.mono _ _ _ _ _)
   | (with_reducible exact impl_distances.mono _ _ _ _ _)
   | (with_reducible exact LeO.refl _)
   | (with_reducible exact LeO.none _)
   | (with_reducible refine LeO.ite ?_ ?_)
   | (with_reducible refine LeO.bind ?_ (fun _ => ?_))
   | exact ih0 _ _ _ _ _ _ _
   | exact ih1 _ _ _ _ _ _ _ _ _ _
   | exact impl_DistanceOf.mono _ _ _ _ _ _
   | exact impl_Step.mono _ _ _ _ _ _
   | exact impl_WaysFrom.mono _ _ _ _ _
   | exact impl_distances.mono _ _ _ _ _
   | exact LeO.none _
   | refine LeO.ite ?_ ?_
   | refine LeO.bind ?_ (fun _ => ?_)
set_option maxHeartbeats 8000000 in
set_option maxRecDepth 100000 in
theorem impl_WayBetween.calls (k : Nat) (a0_0 : Int) (a0_1 : Int) (a0_2 : Int) (a1 : Int) (a2 : Int) (r1 : List Int) (r2 : Bool) (w : World) (h : impl_WayBetween.f k a0_0 a0_1 a0_2 a1 a2 = some (r1, r2)) :
  Calls Try.prog 57 #[.agg #[.int .i64 a0_0, .int .i64 a0_1, .int .i64 a0_2], .int .i64 a1, .int .i64 a2] w fun e w' => ∃ v0_ : Value, e = .returned (.tuple #[v0_, .bool r2]) ∧ Kd.R (Kd.int .i64) 3 w' w.heap.size (fun _ => True) v0_ r1 ∧ Below w.heap.size w w' := by
 have hu30 := Try.underlying30
 have HB := Aside0.mk (Below.refl w.heap.size w)
 have H : ((impl_DistanceOf.f k a0_0 a0_1 a0_2 a1 a2).bind fun t765 => (if t765 < 0 then (some (([] : List Int), false)) else ((impl_distances.f k a0_0 a0_1 a0_2 a2).bind fun t766 => (impl_WayBetween.l0 k a2 t766 ([] : List Int) a1 a0_0 a0_1 a0_2)))) = some (r1, r2) := h
 clear h
 replace H := Option.bind_eq_some_iff.mp H
 obtain ⟨t765, A40, H⟩ := H
 replace H : (if t765 < 0 then (some (([] : List Int), false)) else ((impl_distances.f k a0_0 a0_1 a0_2 a2).bind fun t766 => (impl_WayBetween.l0 k a2 t766 ([] : List Int) a1 a0_0 a0_1 a0_2))) = some (r1, r2) := H
 have A4 := Aside0.mk A40
 clear A40
 by_cases c5 : t765 < 0
 ·rw [if_pos c5] at H
  have c5b0 : decide (t765 < 0) = true := decide_eq_true c5
  clear c5
  simp only [Option.some.injEq, Prod.mk.injEq] at H
  obtain ⟨rfl, rfl⟩ := H
  go_enter Try.func57, Try.ntmps57
  go_wp2_with (first | ((with_reducible refine gate_dst (N := 3) rfl ?_); refine box_event ?hg (N := 3) ?hd (cs := #[.int .i64 a0_0, .int .i64 a0_1, .int .i64 a0_2]) (t := 30) ?hr ?_; (case hd => rfl); (case hg => rfl); (case hr => first | (go_simp; done) | (go_simp; rfl)); intro gb764 hg w6 hbox hb; have n0_ := Aside0.mk (below_step hb_ hb); have n1_ := Aside0.mk (hbox); have n2_ := Aside0.mk ((by rw [hg]; exact (below_size hb_) : w.heap.size ≤ gb764)); have n3_ := Aside0.mk ((by rw [hg]; exact (below_size hb_) : w.heap.size ≤ gb764)); clear HB; have HB := n0_; have BK764 := n1_; have GW764 := n2_; have GE764 := n3_; clear n0_ n1_ n2_ n3_; clear hb hbox hg; have hcz7_0 := cz_ (.int .i64 a0_0) BK764.out 0; have hcz7_1 := cz_ (.int .i64 a0_1) BK764.out 1; have hcz7_2 := cz_ (.int .i64 a0_2) BK764.out 2; have hfz7_0 := blk_frozen BK764.out 0; have hfz7_1 := blk_frozen BK764.out 1; have hfz7_2 := blk_frozen BK764.out 2) | (go_at_call 51; (with_reducible refine (impl_DistanceOf.calls k a0_0 a0_1 a0_2 a1 a2 t765 _ A4.out).mono ?_); rintro e w8 ⟨rfl, hb⟩; have n0_ := Aside0.mk (blk_below (g := gb764) (o := .cells #[.int .i64 a0_0, .int .i64 a0_1, .int .i64 a0_2] 30 (0, 0)) (kb_ BK764.out) hb); have n1_ := Aside0.mk (below_step hb_ hb); clear BK764; clear HB; have BK764 := n0_; have HB := n1_; clear n0_ n1_; (try clear hb); (try clear hb2); (try clear hk); (try clear hi)))
  repeat (go_quiet (first | ((with_reducible refine gate_dst (N := 3) rfl ?_); refine box_event ?hg (N := 3) ?hd (cs := #[.int .i64 a0_0, .int .i64 a0_1, .int .i64 a0_2]) (t := 30) ?hr ?_; (case hd => rfl); (case hg => rfl); (case hr => first | (go_simp; done) | (go_simp; rfl)); intro gb764 hg w6 hbox hb; have n0_ := Aside0.mk (below_step hb_ hb); have n1_ := Aside0.mk (hbox); have n2_ := Aside0.mk ((by rw [hg]; exact (below_size hb_) : w.heap.size ≤ gb764)); have n3_ := Aside0.mk ((by rw [hg]; exact (below_size hb_) : w.heap.size ≤ gb764)); clear HB; have HB := n0_; have BK764 := n1_; have GW764 := n2_; have GE764 := n3_; clear n0_ n1_ n2_ n3_; clear hb hbox hg; have hcz7_0 := cz_ (.int .i64 a0_0) BK764.out 0; have hcz7_1 := cz_ (.int .i64 a0_1) BK764.out 1; have hcz7_2 := cz_ (.int .i64 a0_2) BK764.out 2; have hfz7_0 := blk_frozen BK764.out 0; have hfz7_1 := blk_frozen BK764.out 1; have hfz7_2 := blk_frozen BK764.out 2) | (go_at_call 51; (with_reducible refine (impl_DistanceOf.calls k a0_0 a0_1 a0_2 a1 a2 t765 _ A4.out).mono ?_); rintro e w8 ⟨rfl, hb⟩; have n0_ := Aside0.mk (blk_below (g := gb764) (o := .cells #[.int .i64 a0_0, .int .i64 a0_1, .int .i64 a0_2] 30 (0, 0)) (kb_ BK764.out) hb); have n1_ := Aside0.mk (below_step hb_ hb); clear BK764; clear HB; have BK764 := n0_; have HB := n1_; clear n0_ n1_; (try clear hb); (try clear hb2); (try clear hk); (try clear hi))); try go_wp2_with (first | ((with_reducible refine gate_dst (N := 3) rfl ?_); refine box_event ?hg (N := 3) ?hd (cs := #[.int .i64 a0_0, .int .i64 a0_1, .int .i64 a0_2]) (t := 30) ?hr ?_; (case hd => rfl); (case hg => rfl); (case hr => first | (go_simp; done) | (go_simp; rfl)); intro gb764 hg w6 hbox hb; have n0_ := Aside0.mk (below_step hb_ hb); have n1_ := Aside0.mk (hbox); have n2_ := Aside0.mk ((by rw [hg]; exact (below_size hb_) : w.heap.size ≤ gb764)); have n3_ := Aside0.mk ((by rw [hg]; exact (below_size hb_) : w.heap.size ≤ gb764)); clear HB; have HB := n0_; have BK764 := n1_; have GW764 := n2_; have GE764 := n3_; clear n0_ n1_ n2_ n3_; clear hb hbox hg; have hcz7_0 := cz_ (.int .i64 a0_0) BK764.out 0; have hcz7_1 := cz_ (.int .i64 a0_1) BK764.out 1; have hcz7_2 := cz_ (.int .i64 a0_2) BK764.out 2; have hfz7_0 := blk_frozen BK764.out 0; have hfz7_1 := blk_frozen BK764.out 1; have hfz7_2 := blk_frozen BK764.out 2) | (go_at_call 51; (with_reducible refine (impl_DistanceOf.calls k a0_0 a0_1 a0_2 a1 a2 t765 _ A4.out).mono ?_); rintro e w8 ⟨rfl, hb⟩; have n0_ := Aside0.mk (blk_below (g := gb764) (o := .cells #[.int .i64 a0_0, .int .i64 a0_1, .int .i64 a0_2] 30 (0, 0)) (kb_ BK764.out) hb); have n1_ := Aside0.mk (below_step hb_ hb); clear BK764; clear HB; have BK764 := n0_; have HB := n1_; clear n0_ n1_; (try clear hb); (try clear hb2); (try clear hk); (try clear hi))))
  go_ret2
  exact ⟨_, er_, by first | exact Kd.R_nil _ _ _ _ _ | exact Kd.N_nil _ _ _ _ _ | exact Kd.V_nil _ _ _ _ _ | exact Kd.Q_nil _ _ _ _ _ | exact Kd.S_nil _ _ _ _ _, hb_⟩
 ·rw [if_neg c5] at H
  have c5b0 : decide (t765 < 0) = false := decide_eq_false c5
  clear c5
  replace H := Option.bind_eq_some_iff.mp H
  obtain ⟨t766, A90, H⟩ := H
  replace H : (impl_WayBetween.l0 k a2 t766 ([] : List Int) a1 a0_0 a0_1 a0_2) = some (r1, r2) := H
  have A9 := Aside0.mk A90
  clear A90
  have H' := Aside0.mk H
  clear H
  go_enter Try.func57, Try.ntmps57
  go_wp2_with (first | ((with_reducible refine gate_dst (N := 3) rfl ?_); refine box_event ?hg (N := 3) ?hd (cs := #[.int .i64 a0_0, .int .i64 a0_1, .int .i64 a0_2]) (t := 30) ?hr ?_; (case hd => rfl); (case hg => rfl); (case hr => first | (go_simp; done) | (go_simp; rfl)); intro gb764 hg w10 hbox hb; have n0_ := Aside0.mk (below_step hb_ hb); have n1_ := Aside0.mk (hbox); have n2_ := Aside0.mk ((by rw [hg]; exact (below_size hb_) : w.heap.size ≤ gb764)); have n3_ := Aside0.mk ((by rw [hg]; exact (below_size hb_) : w.heap.size ≤ gb764)); clear HB; have HB := n0_; have BK764 := n1_; have GW764 := n2_; have GE764 := n3_; clear n0_ n1_ n2_ n3_; clear hb hbox hg; have hcz11_0 := cz_ (.int .i64 a0_0) BK764.out 0; have hcz11_1 := cz_ (.int .i64 a0_1) BK764.out 1; have hcz11_2 := cz_ (.int .i64 a0_2) BK764.out 2; have hfz11_0 := blk_frozen BK764.out 0; have hfz11_1 := blk_frozen BK764.out 1; have hfz11_2 := blk_frozen BK764.out 2) | (go_at_call 51; (with_reducible refine (impl_DistanceOf.calls k a0_0 a0_1 a0_2 a1 a2 t765 _ A4.out).mono ?_); rintro e w12 ⟨rfl, hb⟩; have n0_ := Aside0.mk (blk_below (g := gb764) (o := .cells #[.int .i64 a0_0, .int .i64 a0_1, .int .i64 a0_2] 30 (0, 0)) (kb_ BK764.out) hb); have n1_ := Aside0.mk (below_step hb_ hb); clear BK764; clear HB; have BK764 := n0_; have HB := n1_; clear n0_ n1_; (try clear hb); (try clear hb2); (try clear hk); (try clear hi); have hcz13_0 := cz_ (.int .i64 a0_0) BK764.out 0; have hcz13_1 := cz_ (.int .i64 a0_1) BK764.out 1; have hcz13_2 := cz_ (.int .i64 a0_2) BK764.out 2; have hfz13_0 := blk_frozen BK764.out 0; have hfz13_1 := blk_frozen BK764.out 1; have hfz13_2 := blk_frozen BK764.out 2) | (go_at_call 102; (with_reducible refine (impl_distances.calls k a0_0 a0_1 a0_2 a2 t766 _ A9.out).mono ?_); rintro e w14 ⟨v767, rfl, ho0, hb⟩; have n0_ := Aside0.mk (Kd.R_lower ho0 (below_size hb_)); have n1_ := Aside0.mk (blk_below (g := gb764) (o := .cells #[.int .i64 a0_0, .int .i64 a0_1, .int .i64 a0_2] 30 (0, 0)) (kb_ BK764.out) hb); have n2_ := Aside0.mk (below_step hb_ hb); clear BK764; clear HB; have HO768 := n0_; have BK764 := n1_; have HB := n2_; clear n0_ n1_ n2_; (try clear hb); (try clear hb2); (try clear hk); (try clear hi); (try clear ho0)))
  repeat (go_quiet (first | ((with_reducible refine gate_dst (N := 3) rfl ?_); refine box_event ?hg (N := 3) ?hd (cs := #[.int .i64 a0_0, .int .i64 a0_1, .int .i64 a0_2]) (t := 30) ?hr ?_; (case hd => rfl); (case hg => rfl); (case hr => first | (go_simp; done) | (go_simp; rfl)); intro gb764 hg w10 hbox hb; have n0_ := Aside0.mk (below_step hb_ hb); have n1_ := Aside0.mk (hbox); have n2_ := Aside0.mk ((by rw [hg]; exact (below_size hb_) : w.heap.size ≤ gb764)); have n3_ := Aside0.mk ((by rw [hg]; exact (below_size hb_) : w.heap.size ≤ gb764)); clear HB; have HB := n0_; have BK764 := n1_; have GW764 := n2_; have GE764 := n3_; clear n0_ n1_ n2_ n3_; clear hb hbox hg; have hcz11_0 := cz_ (.int .i64 a0_0) BK764.out 0; have hcz11_1 := cz_ (.int .i64 a0_1) BK764.out 1; have hcz11_2 := cz_ (.int .i64 a0_2) BK764.out 2; have hfz11_0 := blk_frozen BK764.out 0; have hfz11_1 := blk_frozen BK764.out 1; have hfz11_2 := blk_frozen BK764.out 2) | (go_at_call 51; (with_reducible refine (impl_DistanceOf.calls k a0_0 a0_1 a0_2 a1 a2 t765 _ A4.out).mono ?_); rintro e w12 ⟨rfl, hb⟩; have n0_ := Aside0.mk (blk_below (g := gb764) (o := .cells #[.int .i64 a0_0, .int .i64 a0_1, .int .i64 a0_2] 30 (0, 0)) (kb_ BK764.out) hb); have n1_ := Aside0.mk (below_step hb_ hb); clear BK764; clear HB; have BK764 := n0_; have HB := n1_; clear n0_ n1_; (try clear hb); (try clear hb2); (try clear hk); (try clear hi); have hcz13_0 := cz_ (.int .i64 a0_0) BK764.out 0; have hcz13_1 := cz_ (.int .i64 a0_1) BK764.out 1; have hcz13_2 := cz_ (.int .i64 a0_2) BK764.out 2; have hfz13_0 := blk_frozen BK764.out 0; have hfz13_1 := blk_frozen BK764.out 1; have hfz13_2 := blk_frozen BK764.out 2) | (go_at_call 102; (with_reducible refine (impl_distances.calls k a0_0 a0_1 a0_2 a2 t766 _ A9.out).mono ?_); rintro e w14 ⟨v767, rfl, ho0, hb⟩; have n0_ := Aside0.mk (Kd.R_lower ho0 (below_size hb_)); have n1_ := Aside0.mk (blk_below (g := gb764) (o := .cells #[.int .i64 a0_0, .int .i64 a0_1, .int .i64 a0_2] 30 (0, 0)) (kb_ BK764.out) hb); have n2_ := Aside0.mk (below_step hb_ hb); clear BK764; clear HB; have HO768 := n0_; have BK764 := n1_; have HB := n2_; clear n0_ n1_ n2_; (try clear hb); (try clear hb2); (try clear hk); (try clear hi); (try clear ho0))); try go_wp2_with (first | ((with_reducible refine gate_dst (N := 3) rfl ?_); refine box_event ?hg (N := 3) ?hd (cs := #[.int .i64 a0_0, .int .i64 a0_1, .int .i64 a0_2]) (t := 30) ?hr ?_; (case hd => rfl); (case hg => rfl); (case hr => first | (go_simp; done) | (go_simp; rfl)); intro gb764 hg w10 hbox hb; have n0_ := Aside0.mk (below_step hb_ hb); have n1_ := Aside0.mk (hbox); have n2_ := Aside0.mk ((by rw [hg]; exact (below_size hb_) : w.heap.size ≤ gb764)); have n3_ := Aside0.mk ((by rw [hg]; exact (below_size hb_) : w.heap.size ≤ gb764)); clear HB; have HB := n0_; have BK764 := n1_; have GW764 := n2_; have GE764 := n3_; clear n0_ n1_ n2_ n3_; clear hb hbox hg; have hcz11_0 := cz_ (.int .i64 a0_0) BK764.out 0; have hcz11_1 := cz_ (.int .i64 a0_1) BK764.out 1; have hcz11_2 := cz_ (.int .i64 a0_2) BK764.out 2; have hfz11_0 := blk_frozen BK764.out 0; have hfz11_1 := blk_frozen BK764.out 1; have hfz11_2 := blk_frozen BK764.out 2) | (go_at_call 51; (with_reducible refine (impl_DistanceOf.calls k a0_0 a0_1 a0_2 a1 a2 t765 _ A4.out).mono ?_); rintro e w12 ⟨rfl, hb⟩; have n0_ := Aside0.mk (blk_below (g := gb764) (o := .cells #[.int .i64 a0_0, .int .i64 a0_1, .int .i64 a0_2] 30 (0, 0)) (kb_ BK764.out) hb); have n1_ := Aside0.mk (below_step hb_ hb); clear BK764; clear HB; have BK764 := n0_; have HB := n1_; clear n0_ n1_; (try clear hb); (try clear hb2); (try clear hk); (try clear hi); have hcz13_0 := cz_ (.int .i64 a0_0) BK764.out 0; have hcz13_1 := cz_ (.int .i64 a0_1) BK764.out 1; have hcz13_2 := cz_ (.int .i64 a0_2) BK764.out 2; have hfz13_0 := blk_frozen BK764.out 0; have hfz13_1 := blk_frozen BK764.out 1; have hfz13_2 := blk_frozen BK764.out 2) | (go_at_call 102; (with_reducible refine (impl_distances.calls k a0_0 a0_1 a0_2 a2 t766 _ A9.out).mono ?_); rintro e w14 ⟨v767, rfl, ho0, hb⟩; have n0_ := Aside0.mk (Kd.R_lower ho0 (below_size hb_)); have n1_ := Aside0.mk (blk_below (g := gb764) (o := .cells #[.int .i64 a0_0, .int .i64 a0_1, .int .i64 a0_2] 30 (0, 0)) (kb_ BK764.out) hb); have n2_ := Aside0.mk (below_step hb_ hb); clear BK764; clear HB; have HO768 := n0_; have BK764 := n1_; have HB := n2_; clear n0_ n1_ n2_; (try clear hb); (try clear hb2); (try clear hk); (try clear hi); (try clear ho0))))
  go_loopg [9, 10] k (fun kq v9 v10 w' => ∃ (x9_1 : List Int) (x10_1 : Int), v10 = .int .i64 x10_1 ∧ Aside0 (impl_WayBetween.l0 kq a2 t766 x9_1 x10_1 a0_0 a0_1 a0_2 = some (r1, r2)) ∧ Aside0 (kq ≤ k) ∧ Aside0 (Kd.R (Kd.int .i64) 3 w' w.heap.size (fun k_ => some k_ ≠ (v9 : Value).ownBlock) v767 t766) ∧ Aside0 (Kd.R (Kd.int .i64) 3 w' w.heap.size (fun k_ => some k_ ≠ (v767 : Value).ownBlock) v9 x9_1) ∧ Aside0 (w'.heap[gb764]? = some (.cells #[.int .i64 a0_0, .int .i64 a0_1, .int .i64 a0_2] 30 (0, 0))) ∧ Aside0 (Below w.heap.size w w'))
  case atStart => exact ⟨(([] : List Int)), (a1), (by first | rfl | (simp; done) | (simp [*]; done)), H', ⟨Nat.le_refl _⟩, ⟨by (with_reducible repeat (first | apply Kd.R_alloc | apply Kd.R_drewN | apply Kd.R_drew)); exact Kd.R_mono HO768.out (fun _ hk => (by simp [Value.ownBlock]))⟩, ⟨by first | exact Kd.R_nil _ _ _ _ _ | exact Kd.N_nil _ _ _ _ _ | exact Kd.V_nil _ _ _ _ _ | exact Kd.Q_nil _ _ _ _ _ | exact Kd.S_nil _ _ _ _ _⟩, ⟨kb_ BK764.out⟩, ⟨hb_⟩⟩
  case round =>
   clear H'
   try clear p2
   try clear c5
   try clear c5b0
   try clear hcz11_0
   try clear hcz11_1
   try clear hcz11_2
   try clear hcz13_0
   try clear hcz13_1
   try clear hcz13_2
   try clear hcz7_0
   try clear hcz7_1
   try clear hcz7_2
   try clear hfz11_0
   try clear hfz11_1
   try clear hfz11_2
   try clear hfz13_0
   try clear hfz13_1
   try clear hfz13_2
   try clear hfz7_0
   try clear hfz7_1
   try clear hfz7_2
   obtain ⟨x9_1, x10_1, rfl, HA, HK1, HO_8, HO_9, BK764, HB⟩ := hrel
   cases gk with
   | zero => exact absurd HA.out (by simp [impl_WayBetween.l0])
   | succ k1 =>
    have H := HA.out
    clear HA
    simp only [impl_WayBetween.l0] at H
    by_cases c15 : x10_1 = a2
    ·rw [if_pos c15] at H
     have c15b0 : (x10_1 == a2) = true := beq_iff_eq.mpr c15
     have c15b1 : (x10_1 != a2) = false := bne_eq_false_iff_eq.mpr c15
     clear c15
     simp only [Option.some.injEq, Prod.mk.injEq] at H
     obtain ⟨rfl, rfl⟩ := H
     go_wp2
     repeat (go_quiet (fail); try go_wp2)
     go_ret2
     exact ⟨_, er_, by (with_reducible repeat (first | apply Kd.R_alloc | apply Kd.R_drewN | apply Kd.R_drew)); exact Kd.R_mono HO_9.out (fun _ hk => trivial), hb_⟩
    ·rw [if_neg c15] at H
     have c15b0 : (x10_1 == a2) = false := beq_eq_false_iff_ne.mpr c15
     have c15b1 : (x10_1 != a2) = true := bne_iff_ne.mpr c15
     replace H := Option.bind_eq_some_iff.mp H
     obtain ⟨t769, A160, H⟩ := H
     replace H : (impl_WayBetween.l1 k1 a2 t766 x9_1 x10_1 t769 (t769.length : Int) 0 a0_0 a0_1 a0_2) = some (r1, r2) := H
     have A16 := Aside0.mk A160
     clear A160
     have H' := Aside0.mk H
     clear H
     have hcz17_0 : wr.cell? ⟨gb764, 0, none⟩ = some (.int .i64 a0_0) := (blk_cell BK764.out 0).trans rfl
     have hcz17_1 : wr.cell? ⟨gb764, 1, none⟩ = some (.int .i64 a0_1) := (blk_cell BK764.out 1).trans rfl
     have hcz17_2 : wr.cell? ⟨gb764, 2, none⟩ = some (.int .i64 a0_2) := (blk_cell BK764.out 2).trans rfl
     have hfz17_0 := blk_frozen BK764.out 0
     have hfz17_1 := blk_frozen BK764.out 1
     have hfz17_2 := blk_frozen BK764.out 2
     go_wp2_with (first | (go_at_call 41; (with_reducible refine (impl_WaysFrom.calls k1 a0_0 a0_1 a0_2 x10_1 t769 _ A16.out).mono ?_); rintro e w18 ⟨v770, rfl, ho0, hb⟩; have n0_ := Aside0.mk (Kd.R_elder' (kr_ HO_8.out) (Kd.R_base ho0) hb); have n1_ := Aside0.mk (Kd.R_elder' (kr_ HO_9.out) (Kd.R_base ho0) hb); have n2_ := Aside0.mk (Kd.R_lower (Kd.R_new' (Kd.R_new' ho0 (Kd.R_lt (kr_ HO_8.out))) (Kd.R_lt (kr_ HO_9.out))) (below_size hb_)); have n3_ := Aside0.mk (blk_below (g := gb764) (o := .cells #[.int .i64 a0_0, .int .i64 a0_1, .int .i64 a0_2] 30 (0, 0)) (kb_ BK764.out) hb); have n4_ := Aside0.mk (below_step hb_ hb); clear HO_8; clear HO_9; clear BK764; clear HB; have HO_8 := n0_; have HO_9 := n1_; have HO771 := n2_; have BK764 := n3_; have HB := n4_; clear n0_ n1_ n2_ n3_ n4_; (try clear hb); (try clear hb2); (try clear hk); (try clear hi); (try clear ho0); obtain ⟨Ao19, co19, eo19⟩ := Kd.R_slice HO771.out; subst eo19))
     repeat (go_quiet (first | (go_at_call 41; (with_reducible refine (impl_WaysFrom.calls k1 a0_0 a0_1 a0_2 x10_1 t769 _ A16.out).mono ?_); rintro e w18 ⟨v770, rfl, ho0, hb⟩; have n0_ := Aside0.mk (Kd.R_elder' (kr_ HO_8.out) (Kd.R_base ho0) hb); have n1_ := Aside0.mk (Kd.R_elder' (kr_ HO_9.out) (Kd.R_base ho0) hb); have n2_ := Aside0.mk (Kd.R_lower (Kd.R_new' (Kd.R_new' ho0 (Kd.R_lt (kr_ HO_8.out))) (Kd.R_lt (kr_ HO_9.out))) (below_size hb_)); have n3_ := Aside0.mk (blk_below (g := gb764) (o := .cells #[.int .i64 a0_0, .int .i64 a0_1, .int .i64 a0_2] 30 (0, 0)) (kb_ BK764.out) hb); have n4_ := Aside0.mk (below_step hb_ hb); clear HO_8; clear HO_9; clear BK764; clear HB; have HO_8 := n0_; have HO_9 := n1_; have HO771 := n2_; have BK764 := n3_; have HB := n4_; clear n0_ n1_ n2_ n3_ n4_; (try clear hb); (try clear hb2); (try clear hk); (try clear hi); (try clear ho0); obtain ⟨Ao19, co19, eo19⟩ := Kd.R_slice HO771.out; subst eo19)); try go_wp2_with (first | (go_at_call 41; (with_reducible refine (impl_WaysFrom.calls k1 a0_0 a0_1 a0_2 x10_1 t769 _ A16.out).mono ?_); rintro e w18 ⟨v770, rfl, ho0, hb⟩; have n0_ := Aside0.mk (Kd.R_elder' (kr_ HO_8.out) (Kd.R_base ho0) hb); have n1_ := Aside0.mk (Kd.R_elder' (kr_ HO_9.out) (Kd.R_base ho0) hb); have n2_ := Aside0.mk (Kd.R_lower (Kd.R_new' (Kd.R_new' ho0 (Kd.R_lt (kr_ HO_8.out))) (Kd.R_lt (kr_ HO_9.out))) (below_size hb_)); have n3_ := Aside0.mk (blk_below (g := gb764) (o := .cells #[.int .i64 a0_0, .int .i64 a0_1, .int .i64 a0_2] 30 (0, 0)) (kb_ BK764.out) hb); have n4_ := Aside0.mk (below_step hb_ hb); clear HO_8; clear HO_9; clear BK764; clear HB; have HO_8 := n0_; have HO_9 := n1_; have HO771 := n2_; have BK764 := n3_; have HB := n4_; clear n0_ n1_ n2_ n3_ n4_; (try clear hb); (try clear hb2); (try clear hk); (try clear hi); (try clear ho0); obtain ⟨Ao19, co19, eo19⟩ := Kd.R_slice HO771.out; subst eo19)))
     go_loopg [9, 10, 30] k1 (fun kq v9 v10 v30 w' => ∃ (x9_2 : List Int) (x10_2 : Int) (x30_2 : Int), v10 = .int .i64 x10_2 ∧ v30 = .int .i64 x30_2 ∧ Aside0 (impl_WayBetween.l1 kq a2 t766 x9_2 x10_2 t769 (t769.length : Int) x30_2 a0_0 a0_1 a0_2 = some (r1, r2)) ∧ Aside0 (kq ≤ k1) ∧ Aside0 (Kd.R (Kd.int .i64) 3 w' w.heap.size (fun k_ => some k_ ≠ (v9 : Value).ownBlock ∧ some k_ ≠ ((.slice Ao19 t769.length co19) : Value).ownBlock) v767 t766) ∧ Aside0 (Kd.R (Kd.int .i64) 3 w' w.heap.size (fun k_ => some k_ ≠ (v767 : Value).ownBlock ∧ some k_ ≠ ((.slice Ao19 t769.length co19) : Value).ownBlock) v9 x9_2) ∧ Aside0 (Kd.R (Kd.int .i64) 3 w' w.heap.size (fun k_ => some k_ ≠ (v767 : Value).ownBlock ∧ some k_ ≠ (v9 : Value).ownBlock) (.slice Ao19 t769.length co19) t769) ∧ Aside0 (w'.heap[gb764]? = some (.cells #[.int .i64 a0_0, .int .i64 a0_1, .int .i64 a0_2] 30 (0, 0))) ∧ Aside0 (Below w.heap.size w w'))
     case atStart => exact ⟨(x9_1), (x10_1), (0), (by first | rfl | (simp; done) | (simp [*]; done)), (by first | rfl | (simp; done) | (simp [*]; done)), H', ⟨Nat.le_refl _⟩, ⟨kr_ HO_8.out⟩, ⟨kr_ HO_9.out⟩, ⟨by (with_reducible repeat (first | apply Kd.R_alloc | apply Kd.R_drewN | apply Kd.R_drew)); exact Kd.R_mono HO771.out (fun _ hk => ⟨hk.1.2, hk.2⟩)⟩, ⟨kb_ BK764.out⟩, ⟨hb_⟩⟩
     case round =>
      clear H'
      try clear c1
      try clear p2
      try clear c5
      try clear c5b0
      try clear c15
      try clear c15b0
      try clear c15b1
      try clear hcz11_0
      try clear hcz11_1
      try clear hcz11_2
      try clear hcz13_0
      try clear hcz13_1
      try clear hcz13_2
      try clear hcz17_0
      try clear hcz17_1
      try clear hcz17_2
      try clear hcz7_0
      try clear hcz7_1
      try clear hcz7_2
      try clear hfz11_0
      try clear hfz11_1
      try clear hfz11_2
      try clear hfz13_0
      try clear hfz13_1
      try clear hfz13_2
      try clear hfz17_0
      try clear hfz17_1
      try clear hfz17_2
      try clear hfz7_0
      try clear hfz7_1
      try clear hfz7_2
      try clear p2
      obtain ⟨x9_2, x10_2, x30_2, rfl, rfl, HA, HK2, HO_8, HO_9, HO_28, BK764, HB⟩ := hrel
      cases gk with
      | zero => exact absurd HA.out (by simp [impl_WayBetween.l1])
      | succ k2 =>
       have H := HA.out
       clear HA
       simp only [impl_WayBetween.l1] at H
       by_cases c20 : x30_2 < (t769.length : Int)
       ·rw [if_pos c20] at H
        have c20b0 : decide (x30_2 < (t769.length : Int)) = true := decide_eq_true c20
        clear c20
        by_cases c21 : 0 ≤ x30_2
        ·rw [if_pos c21] at H
         have c21b0 : decide (0 ≤ x30_2) = true := decide_eq_true c21
         clear c21
         by_cases c22 : x30_2 < (t769.length : Int)
         ·rw [if_pos c22] at H
          have c22b0 : decide (x30_2 < (t769.length : Int)) = true := decide_eq_true c22
          clear c22
          replace H := Option.bind_eq_some_iff.mp H
          obtain ⟨t773, A230, H⟩ := H
          replace H : (if 0 ≤ t773 then (if t773 < (t766.length : Int) then (if 0 ≤ x10_2 then (if x10_2 < (t766.length : Int) then (if (rd t766 t773) < (rd t766 x10_2) then (if x9_2.length < 17592186044416 then (impl_WayBetween.l0 k2 a2 t766 (x9_2 ++ [rd t769 x30_2]) t773 a0_0 a0_1 a0_2) else (none)) else (impl_WayBetween.l1 k2 a2 t766 x9_2 x10_2 t769 (t769.length : Int) (wrap64 (x30_2 + 1)) a0_0 a0_1 a0_2)) else (none)) else (none)) else (none)) else (none)) = some (r1, r2) := H
          have A23 := Aside0.mk A230
          clear A230
          by_cases c24 : 0 ≤ t773
          ·rw [if_pos c24] at H
           have c24b0 : decide (0 ≤ t773) = true := decide_eq_true c24
           clear c24
           by_cases c25 : t773 < (t766.length : Int)
           ·rw [if_pos c25] at H
            have c25b0 : decide (t773 < (t766.length : Int)) = true := decide_eq_true c25
            clear c25
            by_cases c26 : 0 ≤ x10_2
            ·rw [if_pos c26] at H
             have c26b0 : decide (0 ≤ x10_2) = true := decide_eq_true c26
             clear c26
             by_cases c27 : x10_2 < (t766.length : Int)
             ·rw [if_pos c27] at H
              have c27b0 : decide (x10_2 < (t766.length : Int)) = true := decide_eq_true c27
              clear c27
              by_cases c28 : (rd t766 t773) < (rd t766 x10_2)
              ·rw [if_pos c28] at H
               have c28b0 : decide ((rd t766 t773) < (rd t766 x10_2)) = true := decide_eq_true c28
               clear c28
               by_cases c29 : x9_2.length < 17592186044416
               ·rw [if_pos c29] at H
                have LMc29 := Aside0.mk c29
                clear c29
                obtain ⟨y776, hy776⟩ : ∃ y_ : List Int, y_ = (x9_2 ++ [rd t769 x30_2]) := ⟨_, rfl⟩
                replace H : (impl_WayBetween.l0 k2 a2 t766 y776 t773 a0_0 a0_1 a0_2) = some (r1, r2) := by first | (rw [hy776]; with_reducible exact H) | (have H2_ := (Option.bind_some _ _).symm.trans H; rw [hy776]; with_reducible exact H2_) | (have H2_ := (Option.bind_some _ _).symm.trans H; with_reducible exact H2_) | with_reducible exact H | (rw [hy776]; exact H) | exact H
                have Ny776 := Aside0.mk hy776
                clear hy776
                have H' := Aside0.mk H
                clear H
                have p772 : 0 ≤ (x30_2 : Int) := of_decide_eq_true (by first | (with_reducible assumption) | assumption)
                have q772 : x30_2 < (t769.length : Int) := of_decide_eq_true (by first | (with_reducible assumption) | assumption)
                obtain ⟨ad772, e772, hx772_0⟩ := Kd.at_int (Kd.R_reads' HO_28.out).2.2 x30_2 p772 q772
                cases e772
                replace p772 := eq_true p772
                replace q772 := eq_true q772
                have hcz30_0 : wr.cell? ⟨gb764, 0, none⟩ = some (.int .i64 a0_0) := (blk_cell BK764.out 0).trans rfl
                have hcz30_1 : wr.cell? ⟨gb764, 1, none⟩ = some (.int .i64 a0_1) := (blk_cell BK764.out 1).trans rfl
                have hcz30_2 : wr.cell? ⟨gb764, 2, none⟩ = some (.int .i64 a0_2) := (blk_cell BK764.out 2).trans rfl
                have hfz30_0 := blk_frozen BK764.out 0
                have hfz30_1 := blk_frozen BK764.out 1
                have hfz30_2 := blk_frozen BK764.out 2
                go_wp2_with (first | (go_at_call 42; (with_reducible refine (impl_Step.calls k2 a0_0 a0_1 a0_2 x10_2 (rd t769 x30_2) t773 _ A23.out).mono ?_); rintro e w31 ⟨rfl, hb⟩; have n0_ := Aside0.mk (Kd.R_below (kr_ HO_8.out) hb); have n1_ := Aside0.mk (Kd.R_below (kr_ HO_9.out) hb); have n2_ := Aside0.mk (Kd.R_below (kr_ HO_28.out) hb); have n3_ := Aside0.mk (blk_below (g := gb764) (o := .cells #[.int .i64 a0_0, .int .i64 a0_1, .int .i64 a0_2] 30 (0, 0)) (kb_ BK764.out) hb); have n4_ := Aside0.mk (below_step hb_ hb); clear HO_8; clear HO_9; clear HO_28; clear BK764; clear HB; have HO_8 := n0_; have HO_9 := n1_; have HO_28 := n2_; have BK764 := n3_; have HB := n4_; clear n0_ n1_ n2_ n3_ n4_; (try clear hb); (try clear hb2); (try clear hk); (try clear hi); obtain ⟨Ao32, co32, eo32⟩ := Kd.R_slice HO_8.out; subst eo32; have p774 : 0 ≤ (t773 : Int) := of_decide_eq_true (by first | (with_reducible assumption) | assumption); have q774 : t773 < (t766.length : Int) := of_decide_eq_true (by first | (with_reducible assumption) | assumption); obtain ⟨ad774, e774, hx774_0⟩ := Kd.at_int (Kd.R_reads' HO_8.out).2.2 t773 p774 q774; cases e774; replace p774 := eq_true p774; replace q774 := eq_true q774; have p775 : 0 ≤ (x10_2 : Int) := of_decide_eq_true (by first | (with_reducible assumption) | assumption); have q775 : x10_2 < (t766.length : Int) := of_decide_eq_true (by first | (with_reducible assumption) | assumption); obtain ⟨ad775, e775, hx775_0⟩ := Kd.at_int (Kd.R_reads' HO_8.out).2.2 x10_2 p775 q775; obtain rfl : ad774 = ad775 := (by injection e775); replace p775 := eq_true p775; replace q775 := eq_true q775) | ((with_reducible refine gate_builtin (b := .append) (xs := #[.tmp 47, .tmp 49]) rfl ?_); at_builtin; refine Kd.R_append (Kd.int .i64) (w0 := w) w.heap.size rfl (.tmp 47) (.tmp 49) 26 3 (.int .i64 0) 8 rfl Try.underlying26 info3 rfl (by decide) (by omega) u9 x9_2 (rd t769 x30_2) [.int .i64 (rd t769 x30_2)] (fun k_ => some k_ ≠ (.slice (some ad774) t766.length co32 : Value).ownBlock ∧ some k_ ≠ (.slice (some ad772) t769.length co19 : Value).ownBlock) (fun _ => False) rfl rfl ?aP (fun _ hk => hk.elim) ?aF ?aO ?aB ?aS ?aL ?_; (case aP => exact rfl); (case aB => exact hb_); (case aF => exact (fun k_ hk => ⟨Kd.fresh' (Kd.R_lt (kr_ HO_8.out)) k_ hk, Kd.fresh' (Kd.R_lt (kr_ HO_28.out)) k_ hk⟩)); (case aO => exact (kr_ HO_9.out)); (case aS => exact (below_size hb_)); (case aL => have := LMc29.out; omega); intro v777 w33 ho hb hg hat; rw [← Ny776.out] at ho; have n0_ := Aside0.mk (Kd.R_after (ok := (fun k_ => some k_ ≠ (.slice (some ad772) t769.length co19 : Value).ownBlock)) (by (with_reducible repeat (first | apply Kd.R_alloc | apply Kd.R_drewN | apply Kd.R_drew)); exact Kd.R_mono HO_8.out (fun _ hk => ⟨hk.2, hk.1⟩)) hg hat); have n1_ := Aside0.mk (Kd.R_after (ok := (fun k_ => some k_ ≠ (.slice (some ad774) t766.length co32 : Value).ownBlock)) (kr_ HO_28.out) hg hat); have n2_ := Aside0.mk (blk_grown (g := gb764) (o := .cells #[.int .i64 a0_0, .int .i64 a0_1, .int .i64 a0_2] 30 (0, 0)) (kb_ BK764.out) hg (Kd.R_ne HO_9.out BK764.out (by decide))); have n3_ := Aside0.mk (hb); have n4_ := Aside0.mk (ho); clear HO_8; clear HO_28; clear BK764; clear HB; clear HO_9; have HO_8 := n0_; have HO_28 := n1_; have BK764 := n2_; have HB := n3_; have HO778 := n4_; clear n0_ n1_ n2_ n3_ n4_; clear ho hb hg hat))
                repeat (go_quiet (first | (go_at_call 42; (with_reducible refine (impl_Step.calls k2 a0_0 a0_1 a0_2 x10_2 (rd t769 x30_2) t773 _ A23.out).mono ?_); rintro e w31 ⟨rfl, hb⟩; have n0_ := Aside0.mk (Kd.R_below (kr_ HO_8.out) hb); have n1_ := Aside0.mk (Kd.R_below (kr_ HO_9.out) hb); have n2_ := Aside0.mk (Kd.R_below (kr_ HO_28.out) hb); have n3_ := Aside0.mk (blk_below (g := gb764) (o := .cells #[.int .i64 a0_0, .int .i64 a0_1, .int .i64 a0_2] 30 (0, 0)) (kb_ BK764.out) hb); have n4_ := Aside0.mk (below_step hb_ hb); clear HO_8; clear HO_9; clear HO_28; clear BK764; clear HB; have HO_8 := n0_; have HO_9 := n1_; have HO_28 := n2_; have BK764 := n3_; have HB := n4_; clear n0_ n1_ n2_ n3_ n4_; (try clear hb); (try clear hb2); (try clear hk); (try clear hi); obtain ⟨Ao32, co32, eo32⟩ := Kd.R_slice HO_8.out; subst eo32; have p774 : 0 ≤ (t773 : Int) := of_decide_eq_true (by first | (with_reducible assumption) | assumption); have q774 : t773 < (t766.length : Int) := of_decide_eq_true (by first | (with_reducible assumption) | assumption); obtain ⟨ad774, e774, hx774_0⟩ := Kd.at_int (Kd.R_reads' HO_8.out).2.2 t773 p774 q774; cases e774; replace p774 := eq_true p774; replace q774 := eq_true q774; have p775 : 0 ≤ (x10_2 : Int) := of_decide_eq_true (by first | (with_reducible assumption) | assumption); have q775 : x10_2 < (t766.length : Int) := of_decide_eq_true (by first | (with_reducible assumption) | assumption); obtain ⟨ad775, e775, hx775_0⟩ := Kd.at_int (Kd.R_reads' HO_8.out).2.2 x10_2 p775 q775; obtain rfl : ad774 = ad775 := (by injection e775); replace p775 := eq_true p775; replace q775 := eq_true q775) | ((with_reducible refine gate_builtin (b := .append) (xs := #[.tmp 47, .tmp 49]) rfl ?_); at_builtin; refine Kd.R_append (Kd.int .i64) (w0 := w) w.heap.size rfl (.tmp 47) (.tmp 49) 26 3 (.int .i64 0) 8 rfl Try.underlying26 info3 rfl (by decide) (by omega) u9 x9_2 (rd t769 x30_2) [.int .i64 (rd t769 x30_2)] (fun k_ => some k_ ≠ (.slice (some ad774) t766.length co32 : Value).ownBlock ∧ some k_ ≠ (.slice (some ad772) t769.length co19 : Value).ownBlock) (fun _ => False) rfl rfl ?aP (fun _ hk => hk.elim) ?aF ?aO ?aB ?aS ?aL ?_; (case aP => exact rfl); (case aB => exact hb_); (case aF => exact (fun k_ hk => ⟨Kd.fresh' (Kd.R_lt (kr_ HO_8.out)) k_ hk, Kd.fresh' (Kd.R_lt (kr_ HO_28.out)) k_ hk⟩)); (case aO => exact (kr_ HO_9.out)); (case aS => exact (below_size hb_)); (case aL => have := LMc29.out; omega); intro v777 w33 ho hb hg hat; rw [← Ny776.out] at ho; have n0_ := Aside0.mk (Kd.R_after (ok := (fun k_ => some k_ ≠ (.slice (some ad772) t769.length co19 : Value).ownBlock)) (by (with_reducible repeat (first | apply Kd.R_alloc | apply Kd.R_drewN | apply Kd.R_drew)); exact Kd.R_mono HO_8.out (fun _ hk => ⟨hk.2, hk.1⟩)) hg hat); have n1_ := Aside0.mk (Kd.R_after (ok := (fun k_ => some k_ ≠ (.slice (some ad774) t766.length co32 : Value).ownBlock)) (kr_ HO_28.out) hg hat); have n2_ := Aside0.mk (blk_grown (g := gb764) (o := .cells #[.int .i64 a0_0, .int .i64 a0_1, .int .i64 a0_2] 30 (0, 0)) (kb_ BK764.out) hg (Kd.R_ne HO_9.out BK764.out (by decide))); have n3_ := Aside0.mk (hb); have n4_ := Aside0.mk (ho); clear HO_8; clear HO_28; clear BK764; clear HB; clear HO_9; have HO_8 := n0_; have HO_28 := n1_; have BK764 := n2_; have HB := n3_; have HO778 := n4_; clear n0_ n1_ n2_ n3_ n4_; clear ho hb hg hat)); try go_wp2_with (first | (go_at_call 42; (with_reducible refine (impl_Step.calls k2 a0_0 a0_1 a0_2 x10_2 (rd t769 x30_2) t773 _ A23.out).mono ?_); rintro e w31 ⟨rfl, hb⟩; have n0_ := Aside0.mk (Kd.R_below (kr_ HO_8.out) hb); have n1_ := Aside0.mk (Kd.R_below (kr_ HO_9.out) hb); have n2_ := Aside0.mk (Kd.R_below (kr_ HO_28.out) hb); have n3_ := Aside0.mk (blk_below (g := gb764) (o := .cells #[.int .i64 a0_0, .int .i64 a0_1, .int .i64 a0_2] 30 (0, 0)) (kb_ BK764.out) hb); have n4_ := Aside0.mk (below_step hb_ hb); clear HO_8; clear HO_9; clear HO_28; clear BK764; clear HB; have HO_8 := n0_; have HO_9 := n1_; have HO_28 := n2_; have BK764 := n3_; have HB := n4_; clear n0_ n1_ n2_ n3_ n4_; (try clear hb); (try clear hb2); (try clear hk); (try clear hi); obtain ⟨Ao32, co32, eo32⟩ := Kd.R_slice HO_8.out; subst eo32; have p774 : 0 ≤ (t773 : Int) := of_decide_eq_true (by first | (with_reducible assumption) | assumption); have q774 : t773 < (t766.length : Int) := of_decide_eq_true (by first | (with_reducible assumption) | assumption); obtain ⟨ad774, e774, hx774_0⟩ := Kd.at_int (Kd.R_reads' HO_8.out).2.2 t773 p774 q774; cases e774; replace p774 := eq_true p774; replace q774 := eq_true q774; have p775 : 0 ≤ (x10_2 : Int) := of_decide_eq_true (by first | (with_reducible assumption) | assumption); have q775 : x10_2 < (t766.length : Int) := of_decide_eq_true (by first | (with_reducible assumption) | assumption); obtain ⟨ad775, e775, hx775_0⟩ := Kd.at_int (Kd.R_reads' HO_8.out).2.2 x10_2 p775 q775; obtain rfl : ad774 = ad775 := (by injection e775); replace p775 := eq_true p775; replace q775 := eq_true q775) | ((with_reducible refine gate_builtin (b := .append) (xs := #[.tmp 47, .tmp 49]) rfl ?_); at_builtin; refine Kd.R_append (Kd.int .i64) (w0 := w) w.heap.size rfl (.tmp 47) (.tmp 49) 26 3 (.int .i64 0) 8 rfl Try.underlying26 info3 rfl (by decide) (by omega) u9 x9_2 (rd t769 x30_2) [.int .i64 (rd t769 x30_2)] (fun k_ => some k_ ≠ (.slice (some ad774) t766.length co32 : Value).ownBlock ∧ some k_ ≠ (.slice (some ad772) t769.length co19 : Value).ownBlock) (fun _ => False) rfl rfl ?aP (fun _ hk => hk.elim) ?aF ?aO ?aB ?aS ?aL ?_; (case aP => exact rfl); (case aB => exact hb_); (case aF => exact (fun k_ hk => ⟨Kd.fresh' (Kd.R_lt (kr_ HO_8.out)) k_ hk, Kd.fresh' (Kd.R_lt (kr_ HO_28.out)) k_ hk⟩)); (case aO => exact (kr_ HO_9.out)); (case aS => exact (below_size hb_)); (case aL => have := LMc29.out; omega); intro v777 w33 ho hb hg hat; rw [← Ny776.out] at ho; have n0_ := Aside0.mk (Kd.R_after (ok := (fun k_ => some k_ ≠ (.slice (some ad772) t769.length co19 : Value).ownBlock)) (by (with_reducible repeat (first | apply Kd.R_alloc | apply Kd.R_drewN | apply Kd.R_drew)); exact Kd.R_mono HO_8.out (fun _ hk => ⟨hk.2, hk.1⟩)) hg hat); have n1_ := Aside0.mk (Kd.R_after (ok := (fun k_ => some k_ ≠ (.slice (some ad774) t766.length co32 : Value).ownBlock)) (kr_ HO_28.out) hg hat); have n2_ := Aside0.mk (blk_grown (g := gb764) (o := .cells #[.int .i64 a0_0, .int .i64 a0_1, .int .i64 a0_2] 30 (0, 0)) (kb_ BK764.out) hg (Kd.R_ne HO_9.out BK764.out (by decide))); have n3_ := Aside0.mk (hb); have n4_ := Aside0.mk (ho); clear HO_8; clear HO_28; clear BK764; clear HB; clear HO_9; have HO_8 := n0_; have HO_28 := n1_; have BK764 := n2_; have HB := n3_; have HO778 := n4_; clear n0_ n1_ n2_ n3_ n4_; clear ho hb hg hat)))
                go_roundg k2
                case measure => have := HK1.out; have := HK2.out; omega
                case rel => exact ⟨(y776), (t773), (by first | rfl | (simp; done) | (simp [*]; done)), H', ⟨by have := HK1.out; have := HK2.out; omega⟩, ⟨by (with_reducible repeat (first | apply Kd.R_alloc | apply Kd.R_drewN | apply Kd.R_drew)); exact Kd.R_mono HO_8.out (fun _ hk => hk.2)⟩, ⟨by (with_reducible repeat (first | apply Kd.R_alloc | apply Kd.R_drewN | apply Kd.R_drew)); exact Kd.R_mono HO778.out (fun _ hk => hk.1)⟩, ⟨kb_ BK764.out⟩, ⟨hb_⟩⟩
               ·rw [if_neg c29] at H
                exact absurd H (by simp)
              ·rw [if_neg c28] at H
               have c28b0 : decide ((rd t766 t773) < (rd t766 x10_2)) = false := decide_eq_false c28
               clear c28
               have H' := Aside0.mk H
               clear H
               have p772 : 0 ≤ (x30_2 : Int) := of_decide_eq_true (by first | (with_reducible assumption) | assumption)
               have q772 : x30_2 < (t769.length : Int) := of_decide_eq_true (by first | (with_reducible assumption) | assumption)
               obtain ⟨ad772, e772, hx772_0⟩ := Kd.at_int (Kd.R_reads' HO_28.out).2.2 x30_2 p772 q772
               cases e772
               replace p772 := eq_true p772
               replace q772 := eq_true q772
               have hcz34_0 : wr.cell? ⟨gb764, 0, none⟩ = some (.int .i64 a0_0) := (blk_cell BK764.out 0).trans rfl
               have hcz34_1 : wr.cell? ⟨gb764, 1, none⟩ = some (.int .i64 a0_1) := (blk_cell BK764.out 1).trans rfl
               have hcz34_2 : wr.cell? ⟨gb764, 2, none⟩ = some (.int .i64 a0_2) := (blk_cell BK764.out 2).trans rfl
               have hfz34_0 := blk_frozen BK764.out 0
               have hfz34_1 := blk_frozen BK764.out 1
               have hfz34_2 := blk_frozen BK764.out 2
               go_wp2_with (first | (go_at_call 42; (with_reducible refine (impl_Step.calls k2 a0_0 a0_1 a0_2 x10_2 (rd t769 x30_2) t773 _ A23.out).mono ?_); rintro e w35 ⟨rfl, hb⟩; have n0_ := Aside0.mk (Kd.R_below (kr_ HO_8.out) hb); have n1_ := Aside0.mk (Kd.R_below (kr_ HO_9.out) hb); have n2_ := Aside0.mk (Kd.R_below (kr_ HO_28.out) hb); have n3_ := Aside0.mk (blk_below (g := gb764) (o := .cells #[.int .i64 a0_0, .int .i64 a0_1, .int .i64 a0_2] 30 (0, 0)) (kb_ BK764.out) hb); have n4_ := Aside0.mk (below_step hb_ hb); clear HO_8; clear HO_9; clear HO_28; clear BK764; clear HB; have HO_8 := n0_; have HO_9 := n1_; have HO_28 := n2_; have BK764 := n3_; have HB := n4_; clear n0_ n1_ n2_ n3_ n4_; (try clear hb); (try clear hb2); (try clear hk); (try clear hi); obtain ⟨Ao36, co36, eo36⟩ := Kd.R_slice HO_8.out; subst eo36; have p774 : 0 ≤ (t773 : Int) := of_decide_eq_true (by first | (with_reducible assumption) | assumption); have q774 : t773 < (t766.length : Int) := of_decide_eq_true (by first | (with_reducible assumption) | assumption); obtain ⟨ad774, e774, hx774_0⟩ := Kd.at_int (Kd.R_reads' HO_8.out).2.2 t773 p774 q774; cases e774; replace p774 := eq_true p774; replace q774 := eq_true q774; have p775 : 0 ≤ (x10_2 : Int) := of_decide_eq_true (by first | (with_reducible assumption) | assumption); have q775 : x10_2 < (t766.length : Int) := of_decide_eq_true (by first | (with_reducible assumption) | assumption); obtain ⟨ad775, e775, hx775_0⟩ := Kd.at_int (Kd.R_reads' HO_8.out).2.2 x10_2 p775 q775; obtain rfl : ad774 = ad775 := (by injection e775); replace p775 := eq_true p775; replace q775 := eq_true q775))
               repeat (go_quiet (first | (go_at_call 42; (with_reducible refine (impl_Step.calls k2 a0_0 a0_1 a0_2 x10_2 (rd t769 x30_2) t773 _ A23.out).mono ?_); rintro e w35 ⟨rfl, hb⟩; have n0_ := Aside0.mk (Kd.R_below (kr_ HO_8.out) hb); have n1_ := Aside0.mk (Kd.R_below (kr_ HO_9.out) hb); have n2_ := Aside0.mk (Kd.R_below (kr_ HO_28.out) hb); have n3_ := Aside0.mk (blk_below (g := gb764) (o := .cells #[.int .i64 a0_0, .int .i64 a0_1, .int .i64 a0_2] 30 (0, 0)) (kb_ BK764.out) hb); have n4_ := Aside0.mk (below_step hb_ hb); clear HO_8; clear HO_9; clear HO_28; clear BK764; clear HB; have HO_8 := n0_; have HO_9 := n1_; have HO_28 := n2_; have BK764 := n3_; have HB := n4_; clear n0_ n1_ n2_ n3_ n4_; (try clear hb); (try clear hb2); (try clear hk); (try clear hi); obtain ⟨Ao36, co36, eo36⟩ := Kd.R_slice HO_8.out; subst eo36; have p774 : 0 ≤ (t773 : Int) := of_decide_eq_true (by first | (with_reducible assumption) | assumption); have q774 : t773 < (t766.length : Int) := of_decide_eq_true (by first | (with_reducible assumption) | assumption); obtain ⟨ad774, e774, hx774_0⟩ := Kd.at_int (Kd.R_reads' HO_8.out).2.2 t773 p774 q774; cases e774; replace p774 := eq_true p774; replace q774 := eq_true q774; have p775 : 0 ≤ (x10_2 : Int) := of_decide_eq_true (by first | (with_reducible assumption) | assumption); have q775 : x10_2 < (t766.length : Int) := of_decide_eq_true (by first | (with_reducible assumption) | assumption); obtain ⟨ad775, e775, hx775_0⟩ := Kd.at_int (Kd.R_reads' HO_8.out).2.2 x10_2 p775 q775; obtain rfl : ad774 = ad775 := (by injection e775); replace p775 := eq_true p775; replace q775 := eq_true q775)); try go_wp2_with (first | (go_at_call 42; (with_reducible refine (impl_Step.calls k2 a0_0 a0_1 a0_2 x10_2 (rd t769 x30_2) t773 _ A23.out).mono ?_); rintro e w35 ⟨rfl, hb⟩; have n0_ := Aside0.mk (Kd.R_below (kr_ HO_8.out) hb); have n1_ := Aside0.mk (Kd.R_below (kr_ HO_9.out) hb); have n2_ := Aside0.mk (Kd.R_below (kr_ HO_28.out) hb); have n3_ := Aside0.mk (blk_below (g := gb764) (o := .cells #[.int .i64 a0_0, .int .i64 a0_1, .int .i64 a0_2] 30 (0, 0)) (kb_ BK764.out) hb); have n4_ := Aside0.mk (below_step hb_ hb); clear HO_8; clear HO_9; clear HO_28; clear BK764; clear HB; have HO_8 := n0_; have HO_9 := n1_; have HO_28 := n2_; have BK764 := n3_; have HB := n4_; clear n0_ n1_ n2_ n3_ n4_; (try clear hb); (try clear hb2); (try clear hk); (try clear hi); obtain ⟨Ao36, co36, eo36⟩ := Kd.R_slice HO_8.out; subst eo36; have p774 : 0 ≤ (t773 : Int) := of_decide_eq_true (by first | (with_reducible assumption) | assumption); have q774 : t773 < (t766.length : Int) := of_decide_eq_true (by first | (with_reducible assumption) | assumption); obtain ⟨ad774, e774, hx774_0⟩ := Kd.at_int (Kd.R_reads' HO_8.out).2.2 t773 p774 q774; cases e774; replace p774 := eq_true p774; replace q774 := eq_true q774; have p775 : 0 ≤ (x10_2 : Int) := of_decide_eq_true (by first | (with_reducible assumption) | assumption); have q775 : x10_2 < (t766.length : Int) := of_decide_eq_true (by first | (with_reducible assumption) | assumption); obtain ⟨ad775, e775, hx775_0⟩ := Kd.at_int (Kd.R_reads' HO_8.out).2.2 x10_2 p775 q775; obtain rfl : ad774 = ad775 := (by injection e775); replace p775 := eq_true p775; replace q775 := eq_true q775)))
               go_roundg k2
               case measure => have := HK1.out; have := HK2.out; omega
               case rel => exact ⟨(x9_2), (x10_2), (wrap64 (x30_2 + 1)), (by first | rfl | (simp; done) | (simp [*]; done)), (by first | rfl | (simp; done) | (simp [*]; done)), H', ⟨by have := HK1.out; have := HK2.out; omega⟩, ⟨kr_ HO_8.out⟩, ⟨kr_ HO_9.out⟩, ⟨kr_ HO_28.out⟩, ⟨kb_ BK764.out⟩, ⟨hb_⟩⟩
             ·rw [if_neg c27] at H
              exact absurd H (by simp)
            ·rw [if_neg c26] at H
             exact absurd H (by simp)
           ·rw [if_neg c25] at H
            exact absurd H (by simp)
          ·rw [if_neg c24] at H
           exact absurd H (by simp)
         ·rw [if_neg c22] at H
          exact absurd H (by simp)
        ·rw [if_neg c21] at H
         exact absurd H (by simp)
       ·rw [if_neg c20] at H
        have c20b0 : decide (x30_2 < (t769.length : Int)) = false := decide_eq_false c20
        clear c20
        have H' := Aside0.mk H
        clear H
        go_wp2
        repeat (go_quiet (fail); try go_wp2)
        go_roundg k2
        case measure => have := HK1.out; have := HK2.out; omega
        case rel => exact ⟨(x9_2), (x10_2), (by first | rfl | (simp; done) | (simp [*]; done)), H', ⟨by have := HK1.out; have := HK2.out; omega⟩, ⟨by (with_reducible repeat (first | apply Kd.R_alloc | apply Kd.R_drewN | apply Kd.R_drew)); exact Kd.R_mono HO_8.out (fun _ hk => hk.1)⟩, ⟨by (with_reducible repeat (first | apply Kd.R_alloc | apply Kd.R_drewN | apply Kd.R_drew)); exact Kd.R_mono HO_9.out (fun _ hk => hk.1)⟩, ⟨kb_ BK764.out⟩, ⟨hb_⟩⟩

end Go.Proofs.Ytpaecckpdaiogaa.Q
