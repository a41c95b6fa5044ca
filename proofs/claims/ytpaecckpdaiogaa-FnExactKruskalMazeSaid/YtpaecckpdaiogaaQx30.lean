/- Plain Lean functions of Go functions, and for each the proof that its call comes to just that answer. Conditions: in each theorem's statement. -/
import Derived.Test.YtpaecckpdaiogaaQx0
import Derived.Test.YtpaecckpdaiogaaQx2
import Derived.Test.YtpaecckpdaiogaaQx9
import Derived.Test.YtpaecckpdaiogaaQx10
namespace Go.Proofs.Ytpaecckpdaiogaa.Q
open Go.RowKit Go.Proofs.YtpaecckpdaiogaaW.PrintWords Go.Proofs.YtpaecckpdaiogaaW.PrintLast
attribute [local go_sem] max2_int min2_int max_two min_two   -- for this text's walks alone
set_option linter.unusedVariables false
set_option linter.unusedSimpArgs false

/-! ### spec_SetGap: function 74 -/
def spec_SetGap.j0 : Nat → Int → Bool → Bool → Int → Int → Int → Option (Int × Int × Int × Bool)
 | 0, _, _, _, _, _, _ => none
 | k + 1, x1, x2, x19, x292000, x292001, x292002 => if x19 = true then (some (x292000, x292001, x292002, false)) else ((spec_l03Bit.f x292002 x1).bind fun t296 => (if (t296 != x2) = true then (if 0 ≤ x1 then (some (x292000, x292001, Go.bits .xor .i64 x292002 (shl .i64 1 x1), true)) else (none)) else (some (x292000, x292001, x292002, true))))
def spec_SetGap.f (k : Nat) (a0_0 : Int) (a0_1 : Int) (a0_2 : Int) (a1 : Int) (a2 : Bool) : Option (Int × Int × Int × Bool) := (spec_MazeOk.f a0_0 a0_1 a0_2).bind fun t293 => (if t293 = true then ((spec_CountGaps.f a0_0 a0_1).bind fun t294 => ((spec_l01In.f a1 0 (wrap64 (t294 - 1))).bind fun t295 => (spec_SetGap.j0 k a1 a2 (!t295) a0_0 a0_1 a0_2))) else (spec_SetGap.j0 k a1 a2 true a0_0 a0_1 a0_2))
theorem spec_SetGap.mono_l : ∀ k, (∀ y0 y1 y2 y3 y4 y5, LeO (spec_SetGap.j0 k y0 y1 y2 y3 y4 y5) (spec_SetGap.j0 (k + 1) y0 y1 y2 y3 y4 y5))
 | 0 => fun _ _ _ _ _ _ r h => by simp [spec_SetGap.j0] at h
 | k + 1 => by
  have ih0 := spec_SetGap.mono_l k
  ·intro y0 y1 y2 y3 y4 y5
   unfold spec_SetGap.j0
   repeat' first
   | (with_reducible exact ih0 _ _ _ _ _ _)
   | (with_reducible exact LeO.refl _)
   | (with_reducible exact LeO.none _)
   | (with_reducible refine LeO.ite ?_ ?_)
   | (with_reducible refine LeO.bind ?_ (fun _ => ?_))
   | exact ih0 _ _ _ _ _ _
   | exact LeO.none _
   | refine LeO.ite ?_ ?_
   | refine LeO.bind ?_ (fun _ => ?_)
theorem spec_SetGap.mono : ∀ a0 a1 a2 a3 a4 k, LeO (spec_SetGap.f k a0 a1 a2 a3 a4) (spec_SetGap.f (k + 1) a0 a1 a2 a3 a4) := by
 intro a0 a1 a2 a3 a4 k
 have ih0 := spec_SetGap.mono_l k
 unfold spec_SetGap.f
 repeat' first
   | (with_reducible exact ih0 _ _ _ _ _ _)
   | (with_reducible exact LeO.refl _)
   | (with_reducible exact LeO.none _)
   | (with_reducible refine LeO.ite ?_ ?_)
   | (with_reducible refine LeO.bind ?_ (fun _ => ?_))
   | exact ih0 _ _ _ _ _ _
   | exact LeO.none _
   | refine LeO.ite ?_ ?_
   | refine LeO.bind ?_ (fun _ => ?_)
set_option maxHeartbeats 8000000 in
set_option maxRecDepth 100000 in
theorem spec_SetGap.calls (k : Nat) (a0_0 : Int) (a0_1 : Int) (a0_2 : Int) (a1 : Int) (a2 : Bool) (r1 : Int) (r2 : Int) (r3 : Int) (r4 : Bool) (w : World) (h : spec_SetGap.f k a0_0 a0_1 a0_2 a1 a2 = some (r1, r2, r3, r4)) :
  Calls Try.prog 74 #[.agg #[.int .i64 a0_0, .int .i64 a0_1, .int .i64 a0_2], .int .i64 a1, .bool a2] w fun e w' => e = .returned (.tuple #[.agg #[.int .i64 r1, .int .i64 r2, .int .i64 r3], .bool r4]) ∧ Below w.heap.size w w' := by
 have hu30 := Try.underlying30
 have hu28 := Try.underlying28
 have HB := Aside0.mk (Below.refl w.heap.size w)
 have H : ((spec_MazeOk.f a0_0 a0_1 a0_2).bind fun t293 => (if t293 = true then ((spec_CountGaps.f a0_0 a0_1).bind fun t294 => ((spec_l01In.f a1 0 (wrap64 (t294 - 1))).bind fun t295 => (spec_SetGap.j0 k a1 a2 (!t295) a0_0 a0_1 a0_2))) else (spec_SetGap.j0 k a1 a2 true a0_0 a0_1 a0_2))) = some (r1, r2, r3, r4) := h
 clear h
 have HC4 := Aside0.mk H
 clear H
 go_enter Try.func74, Try.ntmps74
 go_upto_region 1 with (first | ((with_reducible refine gate_dst (N := 3) rfl ?_); refine box_event ?hg (N := 3) ?hd (cs := #[.int .i64 a0_0, .int .i64 a0_1, .int .i64 a0_2]) (t := 30) ?hr ?_; (case hd => rfl); (case hg => rfl); (case hr => first | (go_simp; done) | (go_simp; rfl)); intro gb291 hg w5 hbox hb; have n0_ := Aside0.mk (below_step hb_ hb); have n1_ := Aside0.mk (hbox); have n2_ := Aside0.mk ((by rw [hg]; exact (below_size hb_) : w.heap.size ≤ gb291)); have n3_ := Aside0.mk ((by rw [hg]; exact (below_size hb_) : w.heap.size ≤ gb291)); clear HB; have HB := n0_; have BK291 := n1_; have GW291 := n2_; have GE291 := n3_; clear n0_ n1_ n2_ n3_; clear hb hbox hg) | ((with_reducible refine gate_dst (N := 6) rfl ?_); refine box_event ?hg (N := 6) ?hd (cs := #[.int .i64 0, .int .i64 0, .int .i64 0]) (t := 30) ?hr ?_; (case hd => rfl); (case hg => rfl); (case hr => first | (go_simp; done) | (go_simp; rfl)); intro gb292 hg w6 hbox hb; have n0_ := Aside0.mk (blk_below (g := gb291) (o := .cells #[.int .i64 a0_0, .int .i64 a0_1, .int .i64 a0_2] 30 (0, 0)) (kb_ BK291.out) hb); have n1_ := Aside0.mk (below_step hb_ hb); have n2_ := Aside0.mk (hbox); have n3_ := Aside0.mk ((by rw [hg]; exact (below_size hb_) : w.heap.size ≤ gb292)); have n4_ := Aside0.mk ((by rw [hg]; exact (below_size hb_) : w.heap.size ≤ gb292)); have n5_ := Aside0.mk ((by rw [hg]; exact Nat.ne_of_lt (blk_lt (g := gb291) (o := .cells #[.int .i64 a0_0, .int .i64 a0_1, .int .i64 a0_2] 30 (0, 0)) (kb_ BK291.out)) : gb291 ≠ gb292)); have n6_ := Aside0.mk ((by rw [hg]; exact Nat.ne_of_gt (blk_lt (g := gb291) (o := .cells #[.int .i64 a0_0, .int .i64 a0_1, .int .i64 a0_2] 30 (0, 0)) (kb_ BK291.out)) : gb292 ≠ gb291)); clear BK291; clear HB; have BK291 := n0_; have HB := n1_; have BK292 := n2_; have GW292 := n3_; have GE292 := n4_; have NB291_292 := n5_; have NB292_291 := n6_; clear n0_ n1_ n2_ n3_ n4_ n5_ n6_; clear hb hbox hg))
 (try simp only [Act.put, List.setIfInBounds_toArray, List.set_cons_zero, List.set_cons_succ])
 go_cut [19] (fun v19 wc => ∃ (kq : Nat) (x19_3 : Bool), v19 = .bool x19_3 ∧ Aside0 (spec_SetGap.j0 kq a1 a2 x19_3 a0_0 a0_1 a0_2 = some (r1, r2, r3, r4)) ∧ Aside0 (kq ≤ k) ∧ Aside0 (wc.heap[gb291]? = some (.cells #[.int .i64 a0_0, .int .i64 a0_1, .int .i64 a0_2] 30 (0, 0))) ∧ Aside0 (wc.heap[gb292]? = some (.cells #[.int .i64 0, .int .i64 0, .int .i64 0] 30 (0, 0))) ∧ Aside0 (Below w.heap.size w wc))
 case first =>
  have H := HC4.out
  clear HC4
  replace H := Option.bind_eq_some_iff.mp H
  obtain ⟨t293, A70, H⟩ := H
  replace H : (if t293 = true then ((spec_CountGaps.f a0_0 a0_1).bind fun t294 => ((spec_l01In.f a1 0 (wrap64 (t294 - 1))).bind fun t295 => (spec_SetGap.j0 k a1 a2 (!t295) a0_0 a0_1 a0_2))) else (spec_SetGap.j0 k a1 a2 true a0_0 a0_1 a0_2)) = some (r1, r2, r3, r4) := H
  have A7 := Aside0.mk A70
  clear A70
  by_cases c8 : t293 = true
  ·subst c8
   have H1 : ((spec_CountGaps.f a0_0 a0_1).bind fun t294 => ((spec_l01In.f a1 0 (wrap64 (t294 - 1))).bind fun t295 => (spec_SetGap.j0 k a1 a2 (!t295) a0_0 a0_1 a0_2))) = some (r1, r2, r3, r4) := by rw [if_pos rfl] at H; exact H
   clear H
   have H := H1
   clear H1
   replace H := Option.bind_eq_some_iff.mp H
   obtain ⟨t294, A90, H⟩ := H
   replace H : ((spec_l01In.f a1 0 (wrap64 (t294 - 1))).bind fun t295 => (spec_SetGap.j0 k a1 a2 (!t295) a0_0 a0_1 a0_2)) = some (r1, r2, r3, r4) := H
   have A9 := Aside0.mk A90
   clear A90
   replace H := Option.bind_eq_some_iff.mp H
   obtain ⟨t295, A100, H⟩ := H
   replace H : (spec_SetGap.j0 k a1 a2 (!t295) a0_0 a0_1 a0_2) = some (r1, r2, r3, r4) := H
   have A10 := Aside0.mk A100
   clear A100
   have H' := Aside0.mk H
   clear H
   have hnb11 := NB291_292.out
   have hnc11 := NB292_291.out
   have hcz12_0 := cz_ (.int .i64 a0_0) BK291.out 0
   have hcz12_1 := cz_ (.int .i64 a0_1) BK291.out 1
   have hcz12_2 := cz_ (.int .i64 a0_2) BK291.out 2
   have hfz12_0 := blk_frozen BK291.out 0
   have hfz12_1 := blk_frozen BK291.out 1
   have hfz12_2 := blk_frozen BK291.out 2
   go_wp2_with (first | ((with_reducible refine gate_callee (f := 65) rfl ?_); refine goesL_ (some 9) rfl rfl Try.func65 (by kernel_rfl) rfl #[.agg #[.int .i64 a0_0, .int .i64 a0_1, .int .i64 a0_2]] rfl mp_ ?_; (with_reducible refine (spec_MazeOk.calls a0_0 a0_1 a0_2 true _ A7.out).mono ?_); rintro e w13 ⟨rfl, hb⟩; refine ⟨_, rfl, ?_⟩; have n0_ := Aside0.mk (blk_below (g := gb291) (o := .cells #[.int .i64 a0_0, .int .i64 a0_1, .int .i64 a0_2] 30 (0, 0)) (kb_ BK291.out) hb); have n1_ := Aside0.mk (blk_below (g := gb292) (o := .cells #[.int .i64 0, .int .i64 0, .int .i64 0] 30 (0, 0)) (kb_ BK292.out) hb); have n2_ := Aside0.mk (below_step hb_ hb); clear BK291; clear BK292; clear HB; have BK291 := n0_; have BK292 := n1_; have HB := n2_; clear n0_ n1_ n2_; (try clear hb); (try clear hb2); (try clear hk); (try clear hi); have hcz14_0 := cz_ (.int .i64 a0_0) BK291.out 0; have hcz14_1 := cz_ (.int .i64 a0_1) BK291.out 1; have hcz14_2 := cz_ (.int .i64 a0_2) BK291.out 2; have hfz14_0 := blk_frozen BK291.out 0; have hfz14_1 := blk_frozen BK291.out 1; have hfz14_2 := blk_frozen BK291.out 2) | (go_at_call 43; (with_reducible refine (spec_CountGaps.calls a0_0 a0_1 t294 _ A9.out).mono ?_); rintro e w15 ⟨rfl, hb⟩; have n0_ := Aside0.mk (blk_below (g := gb291) (o := .cells #[.int .i64 a0_0, .int .i64 a0_1, .int .i64 a0_2] 30 (0, 0)) (kb_ BK291.out) hb); have n1_ := Aside0.mk (blk_below (g := gb292) (o := .cells #[.int .i64 0, .int .i64 0, .int .i64 0] 30 (0, 0)) (kb_ BK292.out) hb); have n2_ := Aside0.mk (below_step hb_ hb); clear BK291; clear BK292; clear HB; have BK291 := n0_; have BK292 := n1_; have HB := n2_; clear n0_ n1_ n2_; (try clear hb); (try clear hb2); (try clear hk); (try clear hi)) | (go_at_call 88; (with_reducible refine (spec_l01In.calls a1 0 (wrap64 (t294 - 1)) t295 _ A10.out).mono ?_); rintro e w' ⟨rfl, ⟨nd, rfl⟩⟩))
   go_meet
   case rel => exact ⟨_, (!t295), (by first | rfl | (simp; done) | (simp [*]; done)), H', ⟨by first | omega | exact Nat.le_refl _⟩, ⟨kb_ BK291.out⟩, ⟨kb_ BK292.out⟩, ⟨hb_⟩⟩
  ·replace c8 := Bool.eq_false_iff.mpr c8
   subst c8
   have H1 : (spec_SetGap.j0 k a1 a2 true a0_0 a0_1 a0_2) = some (r1, r2, r3, r4) := by rw [if_neg (show ¬ (false = true) by decide)] at H; exact H
   clear H
   have H := H1
   clear H1
   have H' := Aside0.mk H
   clear H
   have hnb16 := NB291_292.out
   have hnc16 := NB292_291.out
   have hcz17_0 := cz_ (.int .i64 a0_0) BK291.out 0
   have hcz17_1 := cz_ (.int .i64 a0_1) BK291.out 1
   have hcz17_2 := cz_ (.int .i64 a0_2) BK291.out 2
   have hfz17_0 := blk_frozen BK291.out 0
   have hfz17_1 := blk_frozen BK291.out 1
   have hfz17_2 := blk_frozen BK291.out 2
   go_wp2_with (first | ((with_reducible refine gate_callee (f := 65) rfl ?_); refine goesL_ (some 9) rfl rfl Try.func65 (by kernel_rfl) rfl #[.agg #[.int .i64 a0_0, .int .i64 a0_1, .int .i64 a0_2]] rfl mp_ ?_; (with_reducible refine (spec_MazeOk.calls a0_0 a0_1 a0_2 false _ A7.out).mono ?_); rintro e w18 ⟨rfl, hb⟩; refine ⟨_, rfl, ?_⟩; have n0_ := Aside0.mk (blk_below (g := gb291) (o := .cells #[.int .i64 a0_0, .int .i64 a0_1, .int .i64 a0_2] 30 (0, 0)) (kb_ BK291.out) hb); have n1_ := Aside0.mk (blk_below (g := gb292) (o := .cells #[.int .i64 0, .int .i64 0, .int .i64 0] 30 (0, 0)) (kb_ BK292.out) hb); have n2_ := Aside0.mk (below_step hb_ hb); clear BK291; clear BK292; clear HB; have BK291 := n0_; have BK292 := n1_; have HB := n2_; clear n0_ n1_ n2_; (try clear hb); (try clear hb2); (try clear hk); (try clear hi)))
   go_meet
   case rel => exact ⟨_, (true), (by first | rfl | (simp; done) | (simp [*]; done)), H', ⟨by first | omega | exact Nat.le_refl _⟩, ⟨kb_ BK291.out⟩, ⟨kb_ BK292.out⟩, ⟨hb_⟩⟩
 case rest =>
  clear HC4
  try clear c1
  try clear p2
  try clear c6
  try clear p6
  try clear c7
  try clear c8
  try clear c11
  try clear c16
  try clear hcz12_0
  try clear hcz12_1
  try clear hcz12_2
  try clear hcz14_0
  try clear hcz14_1
  try clear hcz14_2
  try clear hcz17_0
  try clear hcz17_1
  try clear hcz17_2
  try clear hfz12_0
  try clear hfz12_1
  try clear hfz12_2
  try clear hfz14_0
  try clear hfz14_1
  try clear hfz14_2
  try clear hfz17_0
  try clear hfz17_1
  try clear hfz17_2
  obtain ⟨kq, x19_3, rfl, HA, HJ3, BK291, BK292, HB⟩ := hcut
  cases kq with
  | zero => exact absurd HA.out (by simp [spec_SetGap.j0])
  | succ kj3 =>
   have H := HA.out
   clear HA
   simp only [spec_SetGap.j0] at H
   by_cases c19 : x19_3 = true
   ·subst c19
    have H1 : (some (a0_0, a0_1, a0_2, false)) = some (r1, r2, r3, r4) := by rw [if_pos rfl] at H; exact H
    clear H
    have H := H1
    clear H1
    simp only [Option.some.injEq, Prod.mk.injEq] at H
    obtain ⟨rfl, rfl, rfl, rfl⟩ := H
    have hnb20 := NB291_292.out
    have hnc20 := NB292_291.out
    have hcz21_0 : wc.cell? ⟨gb291, 0, none⟩ = some (.int .i64 a0_0) := (blk_cell BK291.out 0).trans rfl
    have hcz21_1 : wc.cell? ⟨gb291, 1, none⟩ = some (.int .i64 a0_1) := (blk_cell BK291.out 1).trans rfl
    have hcz21_2 : wc.cell? ⟨gb291, 2, none⟩ = some (.int .i64 a0_2) := (blk_cell BK291.out 2).trans rfl
    have hfz21_0 := blk_frozen BK291.out 0
    have hfz21_1 := blk_frozen BK291.out 1
    have hfz21_2 := blk_frozen BK291.out 2
    have hcz22_0 : wc.cell? ⟨gb292, 0, none⟩ = some (.int .i64 0) := (blk_cell BK292.out 0).trans rfl
    have hcz22_1 : wc.cell? ⟨gb292, 1, none⟩ = some (.int .i64 0) := (blk_cell BK292.out 1).trans rfl
    have hcz22_2 : wc.cell? ⟨gb292, 2, none⟩ = some (.int .i64 0) := (blk_cell BK292.out 2).trans rfl
    have hfz22_0 := blk_frozen BK292.out 0
    have hfz22_1 := blk_frozen BK292.out 1
    have hfz22_2 := blk_frozen BK292.out 2
    go_wp2
    try (have hq291_0 : _ = some (.int .i64 a0_0) := (blk_cell BK291.out 0).trans rfl; have hqf291_0 := blk_frozen BK291.out 0; have hq291_1 : _ = some (.int .i64 a0_1) := (blk_cell BK291.out 1).trans rfl; have hqf291_1 := blk_frozen BK291.out 1; have hq291_2 : _ = some (.int .i64 a0_2) := (blk_cell BK291.out 2).trans rfl; have hqf291_2 := blk_frozen BK291.out 2; have hq292_0 : _ = some (.int .i64 a0_0) := (blk_cell BK292.out 0).trans rfl; have hqf292_0 := blk_frozen BK292.out 0; have hq292_1 : _ = some (.int .i64 a0_1) := (blk_cell BK292.out 1).trans rfl; have hqf292_1 := blk_frozen BK292.out 1; have hq292_2 : _ = some (.int .i64 a0_2) := (blk_cell BK292.out 2).trans rfl; have hqf292_2 := blk_frozen BK292.out 2; go_wp2)
    refine bodyPost_ret (results_ct rfl _ _ gb292 30 #[.int .i64 a0_0, .int .i64 a0_1, .int .i64 a0_2] (0, 0) _ rfl (by (with_reducible repeat (first | refine blk_drewN ?_ _ | refine blk_drew ?_ | refine blk_alloc ?_ _)); refine blk_put (cs := #[.int .i64 a0_0, .int .i64 a0_1, .int .i64 0]) ?_ 2 _ rfl; (with_reducible repeat (first | refine blk_drewN ?_ _ | refine blk_drew ?_ | refine blk_alloc ?_ _)); refine blk_put (cs := #[.int .i64 a0_0, .int .i64 0, .int .i64 0]) ?_ 1 _ rfl; (with_reducible repeat (first | refine blk_drewN ?_ _ | refine blk_drew ?_ | refine blk_alloc ?_ _)); refine blk_put (cs := #[.int .i64 0, .int .i64 0, .int .i64 0]) ?_ 0 _ rfl; (with_reducible repeat (first | refine blk_drewN ?_ _ | refine blk_drew ?_ | refine blk_alloc ?_ _)); exact BK292.out) Try.underlying30 rfl (by kernel_rfl)) rfl ?_
    exact ⟨er_, hb_⟩
   ·replace c19 := Bool.eq_false_iff.mpr c19
    subst c19
    have H1 : ((spec_l03Bit.f a0_2 a1).bind fun t296 => (if (t296 != a2) = true then (if 0 ≤ a1 then (some (a0_0, a0_1, Go.bits .xor .i64 a0_2 (shl .i64 1 a1), true)) else (none)) else (some (a0_0, a0_1, a0_2, true)))) = some (r1, r2, r3, r4) := by rw [if_neg (show ¬ (false = true) by decide)] at H; exact H
    clear H
    have H := H1
    clear H1
    replace H := Option.bind_eq_some_iff.mp H
    obtain ⟨t296, A230, H⟩ := H
    replace H : (if (t296 != a2) = true then (if 0 ≤ a1 then (some (a0_0, a0_1, Go.bits .xor .i64 a0_2 (shl .i64 1 a1), true)) else (none)) else (some (a0_0, a0_1, a0_2, true))) = some (r1, r2, r3, r4) := H
    have A23 := Aside0.mk A230
    clear A230
    by_cases c24 : (t296 != a2) = true
    ·rw [if_pos c24] at H
     have c24b0 : (t296 != a2) = true := c24
     (try (have c24b1 : decide (t296 = a2) = false := by simpa using c24))
     (try (have c24b2 : (t296 == a2) = false := by simpa using c24))
     (try (have c24b3 : ¬ (t296 = a2) := by simpa using c24))
     clear c24
     by_cases c25 : 0 ≤ a1
     ·rw [if_pos c25] at H
      have c25b0 := eq_true c25
      have c25b1 : decide (0 ≤ a1) = true := decide_eq_true c25
      clear c25
      obtain ⟨ji26, hji26⟩ : ∃ j_ : Int, (shl .i64 1 a1) = j_ := ⟨_, rfl⟩
      replace H : (some (a0_0, a0_1, Go.bits .xor .i64 a0_2 (ji26), true)) = some (r1, r2, r3, r4) := by first | (rw [hji26] at H; exact H) | (simp only [hji26] at H ⊢; exact H)
      (try rw [hji26] at A23)
      have hji26_ : (IntKind.i64.wrap (1 * 2 ^ min a1.toNat 64)) = ji26 := hji26
      have hji26z : a1 ≤ 64 → (IntKind.i64.wrap (1 * 2 ^ a1.toNat)) = ji26 := shl_small hji26
      have hji26u : (IntKind.i64.wrap (2 ^ min a1.toNat 64)) = ji26 := by have h_ := hji26_; rw [Int.one_mul] at h_; exact h_
      have hji26v : a1 ≤ 64 → (IntKind.i64.wrap (2 ^ a1.toNat)) = ji26 := fun hle_ => by have h_ := hji26z hle_; rw [Int.one_mul] at h_; exact h_
      have hji26y : (wrap64 (1 * 2 ^ min a1.toNat 64)) = ji26 := (i64_w _).symm.trans hji26_
      have hji26x : a1 ≤ 64 → (wrap64 (1 * 2 ^ a1.toNat)) = ji26 := fun h_ => (i64_w _).symm.trans (hji26z h_)
      simp only [Option.some.injEq, Prod.mk.injEq] at H
      obtain ⟨rfl, rfl, rfl, rfl⟩ := H
      have hnb27 := NB291_292.out
      have hnc27 := NB292_291.out
      have hcz28_0 : wc.cell? ⟨gb291, 0, none⟩ = some (.int .i64 a0_0) := (blk_cell BK291.out 0).trans rfl
      have hcz28_1 : wc.cell? ⟨gb291, 1, none⟩ = some (.int .i64 a0_1) := (blk_cell BK291.out 1).trans rfl
      have hcz28_2 : wc.cell? ⟨gb291, 2, none⟩ = some (.int .i64 a0_2) := (blk_cell BK291.out 2).trans rfl
      have hfz28_0 := blk_frozen BK291.out 0
      have hfz28_1 := blk_frozen BK291.out 1
      have hfz28_2 := blk_frozen BK291.out 2
      try go_wp2_with (first | ((with_reducible refine gate_callee (f := 112) rfl ?_); refine goesL_ (some 24) rfl rfl Try.func112 (by kernel_rfl) rfl #[.int .i64 a0_2, .int .i64 a1] rfl mp_ ?_; (with_reducible refine (spec_l03Bit.calls a0_2 a1 t296 _ A23.out).mono ?_); rintro e w' ⟨rfl, ⟨nd, rfl⟩⟩; refine ⟨_, rfl, ?_⟩; (try (rw [drewN_self wc]; generalize hq_ : World.drewN wc _ = wc; have n0_ : Aside0 (wc.heap[gb291]? = some (.cells #[.int .i64 a0_0, .int .i64 a0_1, .int .i64 a0_2] 30 (0, 0))) := ⟨by rw [← hq_]; exact (kb_ BK291.out)⟩; have n1_ : Aside0 (wc.heap[gb292]? = some (.cells #[.int .i64 0, .int .i64 0, .int .i64 0] 30 (0, 0))) := ⟨by rw [← hq_]; exact (kb_ BK292.out)⟩; have n2_ : Aside0 (Below w.heap.size w wc) := ⟨by rw [← hq_]; exact hb_⟩; clear BK291 BK292 HB hq_; have BK291 := n0_; have BK292 := n1_; have HB := n2_; clear n0_ n1_ n2_))))
      have n0_ := Aside0.mk (blk_drew BK291.out)
      have n1_ := Aside0.mk (blk_drew BK292.out)
      have n2_ := Aside0.mk (below_drew1 HB.out)
      clear BK291
      clear BK292
      clear HB
      have BK291 := n0_
      have BK292 := n1_
      have HB := n2_
      clear n0_ n1_ n2_
      refine start_ (n := 7) (S := fun w' => w'.cell? ⟨gb291, 0, none⟩ = some (.int .i64 a0_0) ∧ w'.cell? ⟨gb291, 1, none⟩ = some (.int .i64 a0_1) ∧ w'.cell? ⟨gb291, 2, none⟩ = some (.int .i64 a0_2)) (ds := [6]) #[false, false, false, false, false, false, false] (by kernel_rfl) rfl rfl ⟨(blk_cell BK291.out 0).trans rfl, (blk_cell BK291.out 1).trans rfl, (blk_cell BK291.out 2).trans rfl⟩ (fun hHeld => ?_)
      generalize wc.drew = w29 at BK291 BK292 HB hHeld ⊢
      refine pure_ (i := 0) (N := some 27) (v := ?_) (a' := ?_) #[true, false, false, false, false, false, false] rfl rfl (by kernel_rfl) (fun _ _ _ h => h) (Or.inl ⟨by rfl, ?_⟩) ?_ ?_
      rotate_left
      ·intro w'
       go_simp
       with_reducible rfl
      rotate_left
      ·simp only [Act.put, List.setIfInBounds_toArray, List.set_cons_zero, List.set_cons_succ, i64_w, i32_w]
       rfl
      refine pure_ (i := 2) (N := some 29) (v := ?_) (a' := ?_) #[true, false, true, false, false, false, false] rfl rfl (by kernel_rfl) (fun _ _ _ h => h) (Or.inl ⟨by rfl, ?_⟩) ?_ ?_
      rotate_left
      ·intro w'
       go_simp
       with_reducible rfl
      rotate_left
      ·simp only [Act.put, List.setIfInBounds_toArray, List.set_cons_zero, List.set_cons_succ, i64_w, i32_w]
       rfl
      refine pure_ (i := 3) (N := some 30) (v := ?_) (a' := ?_) #[true, false, true, true, false, false, false] rfl rfl (by kernel_rfl) (fun _ _ _ h => h) (Or.inl ⟨by rfl, ?_⟩) ?_ ?_
      rotate_left
      ·intro w'
       go_simp
       with_reducible rfl
      rotate_left
      ·simp only [Act.put, List.setIfInBounds_toArray, List.set_cons_zero, List.set_cons_succ, i64_w, i32_w]
       rfl
      refine take_ (i := 1) (N := some 28) (v := ?_) (a' := ?_) #[true, true, true, true, false, false, false] rfl rfl (by kernel_rfl) (fun _ _ _ h => h) (Or.inl ⟨by rfl, ?_⟩) hHeld ?_ ?_
      rotate_left
      ·rintro w' ⟨s0, s1, s2⟩
       go_simp
       with_reducible rfl
      rotate_left
      ·simp only [Act.put, List.setIfInBounds_toArray, List.set_cons_zero, List.set_cons_succ, i64_w, i32_w]
       rfl
      refine pure_ (i := 4) (N := some 31) (v := ?_) (a' := ?_) #[true, true, true, true, true, false, false] rfl rfl (by kernel_rfl) (fun _ _ _ h => h) (Or.inl ⟨by rfl, ?_⟩) ?_ ?_
      rotate_left
      ·intro w'
       go_simp
       with_reducible rfl
      rotate_left
      ·simp only [Act.put, List.setIfInBounds_toArray, List.set_cons_zero, List.set_cons_succ, i64_w, i32_w]
       rfl
      refine pure_ (i := 5) (N := some 32) (v := ?_) (a' := ?_) #[true, true, true, true, true, true, false] rfl rfl (by kernel_rfl) (fun _ _ _ h => h) (Or.inl ⟨by rfl, ?_⟩) ?_ ?_
      rotate_left
      ·intro w'
       go_simp
       with_reducible rfl
      rotate_left
      ·simp only [Act.put, List.setIfInBounds_toArray, List.set_cons_zero, List.set_cons_succ, i64_w, i32_w]
       rfl
      refine last_ (i := 6) (N := none) #[true, true, true, true, true, true, true] rfl rfl (by kernel_rfl) (by decide) (fun K hK => ?_)
      have hs30 : w29.cell? ⟨gb291, 2, none⟩ = some (.int .i64 a0_2) := (blk_cell BK291.out 2).trans rfl
      have hfs30 := blk_frozen BK291.out 2
      have hns30_1 := NB292_291.out
      have hms30_1 := NB291_292.out
      refine skip_ (w1 := ?_) (by rfl) rfl ?_ ?_
      rotate_left
      ·go_simp
       rfl
      refine hK.out _ _ ?_
      clear hK K
      refine done_ (by kernel_rfl) ?_
      have hcz31_0 := cz_ (.int .i64 a0_0) BK291.out 0
      have hcz31_1 := cz_ (.int .i64 a0_1) BK291.out 1
      have hcz31_2 := cz_ (.int .i64 a0_2) BK291.out 2
      have hfz31_0 := blk_frozen BK291.out 0
      have hfz31_1 := blk_frozen BK291.out 1
      have hfz31_2 := blk_frozen BK291.out 2
      have hcz32_0 := cz_ (.int .i64 0) BK292.out 0
      have hcz32_1 := cz_ (.int .i64 0) BK292.out 1
      have hcz32_2 := cz_ (.int .i64 0) BK292.out 2
      have hfz32_0 := blk_frozen BK292.out 0
      have hfz32_1 := blk_frozen BK292.out 1
      have hfz32_2 := blk_frozen BK292.out 2
      try go_wp2
      try (have hq291_0 : _ = some (.int .i64 a0_0) := (blk_cell BK291.out 0).trans rfl; have hqf291_0 := blk_frozen BK291.out 0; have hq291_1 : _ = some (.int .i64 a0_1) := (blk_cell BK291.out 1).trans rfl; have hqf291_1 := blk_frozen BK291.out 1; have hq291_2 : _ = some (.int .i64 (Go.bits .xor .i64 a0_2 (ji26))) := (blk_cell BK291.out 2).trans rfl; have hqf291_2 := blk_frozen BK291.out 2; have hq292_0 : _ = some (.int .i64 a0_0) := (blk_cell BK292.out 0).trans rfl; have hqf292_0 := blk_frozen BK292.out 0; have hq292_1 : _ = some (.int .i64 a0_1) := (blk_cell BK292.out 1).trans rfl; have hqf292_1 := blk_frozen BK292.out 1; have hq292_2 : _ = some (.int .i64 (Go.bits .xor .i64 a0_2 (ji26))) := (blk_cell BK292.out 2).trans rfl; have hqf292_2 := blk_frozen BK292.out 2; go_wp2)
      refine bodyPost_ret (results_ct rfl _ _ gb292 30 #[.int .i64 a0_0, .int .i64 a0_1, .int .i64 (Go.bits .xor .i64 a0_2 (ji26))] (0, 0) _ rfl (by (with_reducible repeat (first | refine blk_drewN ?_ _ | refine blk_drew ?_ | refine blk_alloc ?_ _)); refine blk_put (cs := #[.int .i64 a0_0, .int .i64 a0_1, .int .i64 0]) ?_ 2 _ rfl; (with_reducible repeat (first | refine blk_drewN ?_ _ | refine blk_drew ?_ | refine blk_alloc ?_ _)); refine blk_put (cs := #[.int .i64 a0_0, .int .i64 0, .int .i64 0]) ?_ 1 _ rfl; (with_reducible repeat (first | refine blk_drewN ?_ _ | refine blk_drew ?_ | refine blk_alloc ?_ _)); refine blk_put (cs := #[.int .i64 0, .int .i64 0, .int .i64 0]) ?_ 0 _ rfl; (with_reducible repeat (first | refine blk_drewN ?_ _ | refine blk_drew ?_ | refine blk_alloc ?_ _)); refine blk_far ?_ NB292_291.out _; (with_reducible repeat (first | refine blk_drewN ?_ _ | refine blk_drew ?_ | refine blk_alloc ?_ _)); exact BK292.out) Try.underlying30 rfl (by kernel_rfl)) rfl ?_
      exact ⟨by first | rfl | (simp [errW_none, errW_some] <;> rfl) | (simp only [← hji26]; first | rfl | (simp [errW_none, errW_some] <;> rfl)) | (simp [*, errW_none, errW_some] <;> rfl), hb_⟩
     ·rw [if_neg c25] at H
      exact absurd H (by simp)
    ·rw [if_neg c24] at H
     have c24b0 : (t296 != a2) = false := by simpa using c24
     (try (have c24b1 : decide (t296 = a2) = true := by simpa using c24))
     (try (have c24b2 : (t296 == a2) = true := by simpa using c24))
     clear c24
     simp only [Option.some.injEq, Prod.mk.injEq] at H
     obtain ⟨rfl, rfl, rfl, rfl⟩ := H
     have hnb33 := NB291_292.out
     have hnc33 := NB292_291.out
     have hcz34_0 : wc.cell? ⟨gb291, 0, none⟩ = some (.int .i64 a0_0) := (blk_cell BK291.out 0).trans rfl
     have hcz34_1 : wc.cell? ⟨gb291, 1, none⟩ = some (.int .i64 a0_1) := (blk_cell BK291.out 1).trans rfl
     have hcz34_2 : wc.cell? ⟨gb291, 2, none⟩ = some (.int .i64 a0_2) := (blk_cell BK291.out 2).trans rfl
     have hfz34_0 := blk_frozen BK291.out 0
     have hfz34_1 := blk_frozen BK291.out 1
     have hfz34_2 := blk_frozen BK291.out 2
     go_wp2_with (first | ((with_reducible refine gate_callee (f := 112) rfl ?_); refine goesL_ (some 24) rfl rfl Try.func112 (by kernel_rfl) rfl #[.int .i64 a0_2, .int .i64 a1] rfl mp_ ?_; (with_reducible refine (spec_l03Bit.calls a0_2 a1 t296 _ A23.out).mono ?_); rintro e w' ⟨rfl, ⟨nd, rfl⟩⟩; refine ⟨_, rfl, ?_⟩; (try (rw [drewN_self wc]; generalize hq_ : World.drewN wc _ = wc; have n0_ : Aside0 (wc.heap[gb291]? = some (.cells #[.int .i64 a0_0, .int .i64 a0_1, .int .i64 a0_2] 30 (0, 0))) := ⟨by rw [← hq_]; exact (kb_ BK291.out)⟩; have n1_ : Aside0 (wc.heap[gb292]? = some (.cells #[.int .i64 0, .int .i64 0, .int .i64 0] 30 (0, 0))) := ⟨by rw [← hq_]; exact (kb_ BK292.out)⟩; have n2_ : Aside0 (Below w.heap.size w wc) := ⟨by rw [← hq_]; exact hb_⟩; clear BK291 BK292 HB hq_; have BK291 := n0_; have BK292 := n1_; have HB := n2_; clear n0_ n1_ n2_)); have hcz35_0 : wc.cell? ⟨gb291, 0, none⟩ = some (.int .i64 a0_0) := (blk_cell BK291.out 0).trans rfl; have hcz35_1 : wc.cell? ⟨gb291, 1, none⟩ = some (.int .i64 a0_1) := (blk_cell BK291.out 1).trans rfl; have hcz35_2 : wc.cell? ⟨gb291, 2, none⟩ = some (.int .i64 a0_2) := (blk_cell BK291.out 2).trans rfl; have hfz35_0 := blk_frozen BK291.out 0; have hfz35_1 := blk_frozen BK291.out 1; have hfz35_2 := blk_frozen BK291.out 2; have hcz36_0 : wc.cell? ⟨gb292, 0, none⟩ = some (.int .i64 0) := (blk_cell BK292.out 0).trans rfl; have hcz36_1 : wc.cell? ⟨gb292, 1, none⟩ = some (.int .i64 0) := (blk_cell BK292.out 1).trans rfl; have hcz36_2 : wc.cell? ⟨gb292, 2, none⟩ = some (.int .i64 0) := (blk_cell BK292.out 2).trans rfl; have hfz36_0 := blk_frozen BK292.out 0; have hfz36_1 := blk_frozen BK292.out 1; have hfz36_2 := blk_frozen BK292.out 2))
     try (have hq291_0 : _ = some (.int .i64 a0_0) := (blk_cell BK291.out 0).trans rfl; have hqf291_0 := blk_frozen BK291.out 0; have hq291_1 : _ = some (.int .i64 a0_1) := (blk_cell BK291.out 1).trans rfl; have hqf291_1 := blk_frozen BK291.out 1; have hq291_2 : _ = some (.int .i64 a0_2) := (blk_cell BK291.out 2).trans rfl; have hqf291_2 := blk_frozen BK291.out 2; have hq292_0 : _ = some (.int .i64 a0_0) := (blk_cell BK292.out 0).trans rfl; have hqf292_0 := blk_frozen BK292.out 0; have hq292_1 : _ = some (.int .i64 a0_1) := (blk_cell BK292.out 1).trans rfl; have hqf292_1 := blk_frozen BK292.out 1; have hq292_2 : _ = some (.int .i64 a0_2) := (blk_cell BK292.out 2).trans rfl; have hqf292_2 := blk_frozen BK292.out 2; go_wp2)
     refine bodyPost_ret (results_ct rfl _ _ gb292 30 #[.int .i64 a0_0, .int .i64 a0_1, .int .i64 a0_2] (0, 0) _ rfl (by (with_reducible repeat (first | refine blk_drewN ?_ _ | refine blk_drew ?_ | refine blk_alloc ?_ _)); refine blk_put (cs := #[.int .i64 a0_0, .int .i64 a0_1, .int .i64 0]) ?_ 2 _ rfl; (with_reducible repeat (first | refine blk_drewN ?_ _ | refine blk_drew ?_ | refine blk_alloc ?_ _)); refine blk_put (cs := #[.int .i64 a0_0, .int .i64 0, .int .i64 0]) ?_ 1 _ rfl; (with_reducible repeat (first | refine blk_drewN ?_ _ | refine blk_drew ?_ | refine blk_alloc ?_ _)); refine blk_put (cs := #[.int .i64 0, .int .i64 0, .int .i64 0]) ?_ 0 _ rfl; (with_reducible repeat (first | refine blk_drewN ?_ _ | refine blk_drew ?_ | refine blk_alloc ?_ _)); exact BK292.out) Try.underlying30 rfl (by kernel_rfl)) rfl ?_
     exact ⟨er_, hb_⟩

end Go.Proofs.Ytpaecckpdaiogaa.Q
