/- Plain Lean functions of Go functions, and for each the proof that its call comes to just that answer. Conditions: in each theorem's statement. -/
import Derived.Test.YtcocebkmfmiaeaaDoorQx0
import Derived.Test.YtcocebkmfmiaeaaDoorQx8
import Derived.Test.YtcocebkmfmiaeaaDoorQx19
import Derived.Test.YtcocebkmfmiaeaaDoorQx31
import Derived.Test.YtcocebkmfmiaeaaDoorQx32
import Derived.Test.YtcocebkmfmiaeaaDoorWKept
namespace Go.Proofs.YtcocebkmfmiaeaaDoor.Q
open Go.RowKit Go.Proofs.YtcocebkmfmiaeaaDoorW.PrintWords Go.Proofs.YtcocebkmfmiaeaaDoorW.PrintLast
attribute [local go_sem] max2_int min2_int max_two min_two   -- for this text's walks alone
set_option linter.unusedVariables false
set_option linter.unusedSimpArgs false

/-! ### spec_l03Maze: function 51 -/
mutual
def spec_l03Maze.j0 : Nat → Int → Bool → List Int → Int → Int → Int → Int → Int → Option (Int × Int × Int × Int × Int)
 | 0, _, _, _, _, _, _, _, _ => none
 | k + 1, x5, x19, x1000, x1001, x1002, x462000, x462001, x462002 => if x19 = true then ((spec_l01Below.f x1000 x1001 x1002 4).bind fun bt466 => (spec_l03Maze.l0 k x5 bt466.1 x1000 bt466.2.1 bt466.2.2 x462000 x462001 x462002)) else (some (x462000, x462001, x462002, x1001, x1002))
def spec_l03Maze.l0 : Nat → Int → Int → List Int → Int → Int → Int → Int → Int → Option (Int × Int × Int × Int × Int)
 | 0, _, _, _, _, _, _, _, _ => none
 | k + 1, x5, x6, x1000, x1001, x1002, x462000, x462001, x462002 => if x6 ≥ 0 then ((spec_l01Below.f x1000 x1001 x1002 x5).bind fun bt469 => (if 0 ≤ bt469.1 then (spec_l03Maze.l0 k x5 (wrap64 (x6 - 1)) x1000 bt469.2.1 bt469.2.2 x462000 x462001 (Go.bits .xor .i64 x462002 (shl .i64 1 bt469.1))) else (none))) else (some (x462000, x462001, x462002, x1001, x1002))
end
def spec_l03Maze.f (k : Nat) (s0_0 : List Int) (s0_1 : Int) (s0_2 : Int) : Option (Int × Int × Int × Int × Int) := (spec_l02Grid.f s0_0 s0_1 s0_2).bind fun bt451 => ((spec_l03Tree.f k s0_0 bt451.2.2.1 bt451.2.2.2 bt451.1 bt451.2.1).bind fun bt456 => ((spec_CountGaps.f bt451.1 bt451.2.1).bind fun t462 => (if t462 > 0 then ((spec_l01Once.f s0_0 bt456.2.2.2.1 bt456.2.2.2.2 2).bind fun bt463 => (spec_l03Maze.j0 k t462 bt463.1 s0_0 bt463.2.1 bt463.2.2 bt456.1 bt456.2.1 bt456.2.2.1)) else (spec_l03Maze.j0 k t462 false s0_0 bt456.2.2.2.1 bt456.2.2.2.2 bt456.1 bt456.2.1 bt456.2.2.1))))
theorem spec_l03Maze.mono_l : ∀ k, (∀ y0 y1 y2 y3 y4 y5 y6 y7, LeO (spec_l03Maze.j0 k y0 y1 y2 y3 y4 y5 y6 y7) (spec_l03Maze.j0 (k + 1) y0 y1 y2 y3 y4 y5 y6 y7)) ∧ (∀ y0 y1 y2 y3 y4 y5 y6 y7, LeO (spec_l03Maze.l0 k y0 y1 y2 y3 y4 y5 y6 y7) (spec_l03Maze.l0 (k + 1) y0 y1 y2 y3 y4 y5 y6 y7))
 | 0 => ⟨fun _ _ _ _ _ _ _ _ r h => by simp [spec_l03Maze.j0] at h, fun _ _ _ _ _ _ _ _ r h => by simp [spec_l03Maze.l0] at h⟩
 | k + 1 => by
  obtain ⟨ih0, ih1⟩ := spec_l03Maze.mono_l k
  refine ⟨?_, ?_⟩
  ·intro y0 y1 y2 y3 y4 y5 y6 y7
   unfold spec_l03Maze.j0
   repeat' first
   | (with_reducible exact ih0 _ _ _ _ _ _ _ _)
   | (with_reducible exact ih1 _ _ _ _ _ _ _ _)
   | (with_reducible exact spec_l03Tree.mono _ _ _ _ _ _)
   | (with_reducible exact LeO.refl _)
   | (with_reducible exact LeO.none _)
   | (with_reducible refine LeO.ite ?_ ?_)
   | (with_reducible refine LeO.bind ?_ (fun _ => ?_))
   | exact ih0 _ _ _ _ _ _ _ _
   | exact ih1 _ _ _ _ _ _ _ _
   | exact spec_l03Tree.mono _ _ _ _ _ _
   | exact LeO.none _
   | refine LeO.ite ?_ ?_
   | refine LeO.bind ?_ (fun _ => ?_)
  ·intro y0 y1 y2 y3 y4 y5 y6 y7
   unfold spec_l03Maze.l0
   repeat' first
   | (with_reducible exact ih0 _ _ _ _ _ _ _ _)
   | (with_reducible exact ih1 _ _ _ _ _ _ _ _)
   | (with_reducible exact spec_l03Tree.mono _ _ _ _ _ _)
   | (with_reducible exact LeO.refl _)
   | (with_reducible exact LeO.none _)
   | (with_reducible refine LeO.ite ?_ ?_)
   | (with_reducible refine LeO.bind ?_ (fun _ => ?_))
   | exact ih0 _ _ _ _ _ _ _ _
   | exact ih1 _ _ _ _ _ _ _ _
   | exact spec_l03Tree.mono _ _ _ _ _ _
   | exact LeO.none _
   | refine LeO.ite ?_ ?_
   | refine LeO.bind ?_ (fun _ => ?_)
theorem spec_l03Maze.mono : ∀ a0 a1 a2 k, LeO (spec_l03Maze.f k a0 a1 a2) (spec_l03Maze.f (k + 1) a0 a1 a2) := by
 intro a0 a1 a2 k
 obtain ⟨ih0, ih1⟩ := spec_l03Maze.mono_l k
 unfold spec_l03Maze.f
 repeat' first
   | (with_reducible exact ih0 _ _ _ _ _ _ _ _)
   | (with_reducible exact ih1 _ _ _ _ _ _ _ _)
   | (with_reducible exact spec_l03Tree.mono _ _ _ _ _ _)
   | (with_reducible exact LeO.refl _)
   | (with_reducible exact LeO.none _)
   | (with_reducible refine LeO.ite ?_ ?_)
   | (with_reducible refine LeO.bind ?_ (fun _ => ?_))
   | exact ih0 _ _ _ _ _ _ _ _
   | exact ih1 _ _ _ _ _ _ _ _
   | exact spec_l03Tree.mono _ _ _ _ _ _
   | exact LeO.none _
   | refine LeO.ite ?_ ?_
   | refine LeO.bind ?_ (fun _ => ?_)
def spec_l03Maze.T8 : Bool × List (List Nat × List Nat) := (true, [([], []), ([0], [0]), ([], []), ([], []), ([2, 3], [2, 3]), ([4], [4]), ([1, 5], [1, 5]), ([0, 1, 2, 3, 4, 5, 6], []), ([7, 6, 4, 0, 1, 2, 3, 4, 5, 6], [6, 7])])
def spec_l03Maze.B8 : List Nat := [0, 1, 0, 0, 12, 28, 63, 127, 255]
theorem spec_l03Maze.tab8 : rtab .any (opsOf Tryd.f51 8) = spec_l03Maze.T8 := by kernel_rfl
theorem spec_l03Maze.bits8 : waitsOk spec_l03Maze.T8.2 spec_l03Maze.B8 = true := by kernel_rfl
set_option maxHeartbeats 8000000 in
set_option maxRecDepth 100000 in
theorem spec_l03Maze.calls (k : Nat) (g : Nat) (s0_0 : List Int) (s0_1 : Int) (s0_2 : Int) (r1 : Int) (r2 : Int) (r3 : Int) (r4 : Int) (r5 : Int) (w0 w : World) (hI : IsS86 w0 w g s0_0 s0_1 s0_2) (hB : Below w0.heap.size w0 w) (h : spec_l03Maze.f k s0_0 s0_1 s0_2 = some (r1, r2, r3, r4, r5)) :
  Calls Tryd.prog 51 #[.pointer (some ⟨g, 0, none⟩)] w fun e w' => e = .returned (.agg #[.int .i64 r1, .int .i64 r2, .int .i64 r3]) ∧ IsS86 w0 w' g s0_0 r4 r5 ∧ Below w0.heap.size w0 w' ∧ KeepBut w w' g none := by
 have hu34 := Tryd.underlying34
 have hu32 := Tryd.underlying32
 have HI0 := Aside0.mk hI
 have HK := Aside0.mk (KeepBut.refl w g none)
 have HL := Aside0.mk hB.size
 clear hI
 have HW0 := Aside0.mk hB.size
 have HB := Aside0.mk hB
 clear hB
 have H : ((spec_l02Grid.f s0_0 s0_1 s0_2).bind fun bt451 => ((spec_l03Tree.f k s0_0 bt451.2.2.1 bt451.2.2.2 bt451.1 bt451.2.1).bind fun bt456 => ((spec_CountGaps.f bt451.1 bt451.2.1).bind fun t462 => (if t462 > 0 then ((spec_l01Once.f s0_0 bt456.2.2.2.1 bt456.2.2.2.2 2).bind fun bt463 => (spec_l03Maze.j0 k t462 bt463.1 s0_0 bt463.2.1 bt463.2.2 bt456.1 bt456.2.1 bt456.2.2.1)) else (spec_l03Maze.j0 k t462 false s0_0 bt456.2.2.2.1 bt456.2.2.2.2 bt456.1 bt456.2.1 bt456.2.2.1))))) = some (r1, r2, r3, r4, r5) := h
 clear h
 replace H := Option.bind_eq_some_iff.mp H
 obtain ⟨⟨t451, t452, t453, t454⟩, A20, H⟩ := H
 replace H : ((spec_l03Tree.f k s0_0 t453 t454 t451 t452).bind fun bt456 => ((spec_CountGaps.f t451 t452).bind fun t462 => (if t462 > 0 then ((spec_l01Once.f s0_0 bt456.2.2.2.1 bt456.2.2.2.2 2).bind fun bt463 => (spec_l03Maze.j0 k t462 bt463.1 s0_0 bt463.2.1 bt463.2.2 bt456.1 bt456.2.1 bt456.2.2.1)) else (spec_l03Maze.j0 k t462 false s0_0 bt456.2.2.2.1 bt456.2.2.2.2 bt456.1 bt456.2.1 bt456.2.2.1)))) = some (r1, r2, r3, r4, r5) := H
 have A2 := Aside0.mk A20
 clear A20
 replace H := Option.bind_eq_some_iff.mp H
 obtain ⟨⟨t456, t457, t458, t459, t460⟩, A30, H⟩ := H
 replace H : ((spec_CountGaps.f t451 t452).bind fun t462 => (if t462 > 0 then ((spec_l01Once.f s0_0 t459 t460 2).bind fun bt463 => (spec_l03Maze.j0 k t462 bt463.1 s0_0 bt463.2.1 bt463.2.2 t456 t457 t458)) else (spec_l03Maze.j0 k t462 false s0_0 t459 t460 t456 t457 t458))) = some (r1, r2, r3, r4, r5) := H
 have A3 := Aside0.mk A30
 clear A30
 replace H := Option.bind_eq_some_iff.mp H
 obtain ⟨t462, A40, H⟩ := H
 replace H : (if t462 > 0 then ((spec_l01Once.f s0_0 t459 t460 2).bind fun bt463 => (spec_l03Maze.j0 k t462 bt463.1 s0_0 bt463.2.1 bt463.2.2 t456 t457 t458)) else (spec_l03Maze.j0 k t462 false s0_0 t459 t460 t456 t457 t458)) = some (r1, r2, r3, r4, r5) := H
 have A4 := Aside0.mk A40
 clear A40
 have HC5 := Aside0.mk H
 clear H
 go_enter Tryd.func51, Tryd.ntmps51
 go_upto_region 4 with (first | ((with_reducible refine gate_dst (N := 2) rfl ?_); refine box_event ?hg (N := 2) ?hd (cs := #[.int .i64 0, .int .i64 0, .int .i64 0]) (t := 34) ?hr ?_; (case hd => rfl); (case hg => rfl); (case hr => first | (go_simp; done) | (go_simp; rfl)); intro gb450 hg w6 hbox hb; have n0_ := Aside0.mk (IsS86.below (by repeat (first | (with_reducible first | exact HI0.out | apply IsS86.alloc | apply IsS86.drewN | apply IsS86.drew | apply IsS86.set_1 | apply IsS86.set_2) | exact HI0.out)) hb); have n1_ := Aside0.mk (KeepBut.trans (by repeat (first | (with_reducible first | exact HK.out | apply KeepBut.set_ | apply keep_drewN | apply keep_drew | apply keep_alloc) | exact HK.out)) (KeepBut.of_below hb g none) (.inl rfl)); have n2_ := Aside0.mk (below_step (by repeat (first | (with_reducible first | exact HB.out | apply below_alloc | apply pw_below_drewN | apply below_drew1 | refine below_set ?_ (IsS86.ge HI0.out)) | exact HB.out)) hb); have n3_ := Aside0.mk (hbox); have n4_ := Aside0.mk ((by rw [hg]; exact (keep_size (w := w) (g := g) (row := none) (by repeat (first | (with_reducible first | exact HK.out | apply KeepBut.set_ | apply keep_drewN | apply keep_drew | apply keep_alloc) | exact HK.out))) : w.heap.size ≤ gb450)); have n5_ := Aside0.mk ((Nat.le_trans HW0.out (by rw [hg]; exact (keep_size (w := w) (g := g) (row := none) (by repeat (first | (with_reducible first | exact HK.out | apply KeepBut.set_ | apply keep_drewN | apply keep_drew | apply keep_alloc) | exact HK.out))) : w.heap.size ≤ gb450) : w0.heap.size ≤ gb450)); have n6_ := Aside0.mk ((by rw [hg]; exact Nat.ne_of_lt (IsS86.lt (show IsS86 w0 _ g s0_0 s0_1 s0_2 from by repeat (first | (with_reducible first | exact HI0.out | apply IsS86.alloc | apply IsS86.drewN | apply IsS86.drew | apply IsS86.set_1 | apply IsS86.set_2) | exact HI0.out))) : g ≠ gb450)); have n7_ := Aside0.mk ((by rw [hg]; exact Nat.ne_of_gt (IsS86.lt (show IsS86 w0 _ g s0_0 s0_1 s0_2 from by repeat (first | (with_reducible first | exact HI0.out | apply IsS86.alloc | apply IsS86.drewN | apply IsS86.drew | apply IsS86.set_1 | apply IsS86.set_2) | exact HI0.out))) : gb450 ≠ g)); clear HI0; clear HK; clear HB; have HI0 := n0_; have HK := n1_; have HB := n2_; have BK450 := n3_; have GW450 := n4_; have GE450 := n5_; have NB0_450 := n6_; have NB450_0 := n7_; clear n0_ n1_ n2_ n3_ n4_ n5_ n6_ n7_; clear hb hbox hg) | ((with_reducible refine gate_callee (f := 68) rfl ?_); refine goesL_ (some 8) rfl rfl Tryd.func68 (by kernel_rfl) rfl #[.pointer (some ⟨g, 0, none⟩)] rfl mp_ ?_; (with_reducible refine (spec_l02Grid.calls g s0_0 s0_1 s0_2 t451 t452 t453 t454 w0 _ ?side1 ?side2 A2.out).mono ?_); (case side1 => repeat (first | (with_reducible first | exact HI0.out | apply IsS86.alloc | apply IsS86.drewN | apply IsS86.drew | apply IsS86.set_1 | apply IsS86.set_2 | refine IsS86.far ?_ NB0_450.out _) | exact HI0.out)); (case side2 => repeat (first | (with_reducible first | exact HB.out | apply below_alloc | apply pw_below_drewN | apply below_drew1 | refine below_set ?_ (IsS86.ge HI0.out) | refine below_set ?_ GE450.out) | exact HB.out)); rintro e w7 ⟨rfl, hi, hb, hk⟩; refine ⟨_, rfl, ?_⟩; have n0_ := Aside0.mk (KeepBut.blk hk (g' := gb450) (o := .cells #[.int .i64 0, .int .i64 0, .int .i64 0] 34 (0, 0)) (kb_ BK450.out) NB450_0.out (by simp)); have n1_ := Aside0.mk (KeepBut.trans (by repeat (first | (with_reducible first | exact HK.out | apply KeepBut.set_ | apply keep_drewN | apply keep_drew | apply keep_alloc | refine keep_far ?_ GW450.out _) | exact HK.out)) hk (.inl rfl)); have n2_ := Aside0.mk (hb); have n3_ := Aside0.mk (hi); clear BK450; clear HK; clear HB; clear HI0; have BK450 := n0_; have HK := n1_; have HB := n2_; have HI0 := n3_; clear n0_ n1_ n2_ n3_; (try clear hb); (try clear hb2); (try clear hk); (try clear hi)) | ((with_reducible refine gate_dst (N := 3) rfl ?_); refine box_event ?hg (N := 3) ?hd (cs := #[.int .i64 0, .int .i64 0]) (t := 32) ?hr ?_; (case hd => rfl); (case hg => rfl); (case hr => first | (go_simp; done) | (go_simp; rfl)); intro gb455 hg w8 hbox hb; have n0_ := Aside0.mk (IsS86.below (by repeat (first | (with_reducible first | exact HI0.out | apply IsS86.alloc | apply IsS86.drewN | apply IsS86.drew | apply IsS86.set_1 | apply IsS86.set_2 | refine IsS86.far ?_ NB0_450.out _) | exact HI0.out)) hb); have n1_ := Aside0.mk (blk_below (g := gb450) (o := .cells #[.int .i64 0, .int .i64 0, .int .i64 0] 34 (0, 0)) (kb_ BK450.out) hb); have n2_ := Aside0.mk (KeepBut.trans (by repeat (first | (with_reducible first | exact HK.out | apply KeepBut.set_ | apply keep_drewN | apply keep_drew | apply keep_alloc | refine keep_far ?_ GW450.out _) | exact HK.out)) (KeepBut.of_below hb g none) (.inl rfl)); have n3_ := Aside0.mk (below_step (by repeat (first | (with_reducible first | exact HB.out | apply below_alloc | apply pw_below_drewN | apply below_drew1 | refine below_set ?_ (IsS86.ge HI0.out) | refine below_set ?_ GE450.out) | exact HB.out)) hb); have n4_ := Aside0.mk (hbox); have n5_ := Aside0.mk ((by rw [hg]; exact (keep_size (w := w) (g := g) (row := none) (by repeat (first | (with_reducible first | exact HK.out | apply KeepBut.set_ | apply keep_drewN | apply keep_drew | apply keep_alloc | refine keep_far ?_ GW450.out _) | exact HK.out))) : w.heap.size ≤ gb455)); have n6_ := Aside0.mk ((Nat.le_trans HW0.out (by rw [hg]; exact (keep_size (w := w) (g := g) (row := none) (by repeat (first | (with_reducible first | exact HK.out | apply KeepBut.set_ | apply keep_drewN | apply keep_drew | apply keep_alloc | refine keep_far ?_ GW450.out _) | exact HK.out))) : w.heap.size ≤ gb455) : w0.heap.size ≤ gb455)); have n7_ := Aside0.mk ((by rw [hg]; exact Nat.ne_of_lt (blk_lt (g := gb450) (o := .cells #[.int .i64 0, .int .i64 0, .int .i64 0] 34 (0, 0)) (kb_ BK450.out)) : gb450 ≠ gb455)); have n8_ := Aside0.mk ((by rw [hg]; exact Nat.ne_of_gt (blk_lt (g := gb450) (o := .cells #[.int .i64 0, .int .i64 0, .int .i64 0] 34 (0, 0)) (kb_ BK450.out)) : gb455 ≠ gb450)); have n9_ := Aside0.mk ((by rw [hg]; exact Nat.ne_of_lt (IsS86.lt (show IsS86 w0 _ g s0_0 t453 t454 from by repeat (first | (with_reducible first | exact HI0.out | apply IsS86.alloc | apply IsS86.drewN | apply IsS86.drew | apply IsS86.set_1 | apply IsS86.set_2 | refine IsS86.far ?_ NB0_450.out _) | exact HI0.out))) : g ≠ gb455)); have n10_ := Aside0.mk ((by rw [hg]; exact Nat.ne_of_gt (IsS86.lt (show IsS86 w0 _ g s0_0 t453 t454 from by repeat (first | (with_reducible first | exact HI0.out | apply IsS86.alloc | apply IsS86.drewN | apply IsS86.drew | apply IsS86.set_1 | apply IsS86.set_2 | refine IsS86.far ?_ NB0_450.out _) | exact HI0.out))) : gb455 ≠ g)); clear HI0; clear BK450; clear HK; clear HB; have HI0 := n0_; have BK450 := n1_; have HK := n2_; have HB := n3_; have BK455 := n4_; have GW455 := n5_; have GE455 := n6_; have NB450_455 := n7_; have NB455_450 := n8_; have NB0_455 := n9_; have NB455_0 := n10_; clear n0_ n1_ n2_ n3_ n4_ n5_ n6_ n7_ n8_ n9_ n10_; clear hb hbox hg; have hnb9 := NB455_450.out; have hnc9 := NB450_455.out; have hnb10 := NB455_0.out; have hnc10 := NB0_455.out; have hcz11_0 := cz_ (.int .i64 0) BK455.out 0; have hcz11_1 := cz_ (.int .i64 0) BK455.out 1; have hfz11_0 := blk_frozen BK455.out 0; have hfz11_1 := blk_frozen BK455.out 1) | ((with_reducible refine gate_callee (f := 69) rfl ?_); refine goesL_ (some 11) rfl rfl Tryd.func69 (by kernel_rfl) rfl #[.pointer (some ⟨g, 0, none⟩), .agg #[.int .i64 t451, .int .i64 t452]] rfl mp_ ?_; (with_reducible refine (spec_l03Tree.calls k g s0_0 t453 t454 t451 t452 t456 t457 t458 t459 t460 w0 _ ?side1 ?side2 A3.out).mono ?_); (case side1 => repeat (first | (with_reducible first | exact HI0.out | apply IsS86.alloc | apply IsS86.drewN | apply IsS86.drew | apply IsS86.set_1 | apply IsS86.set_2 | refine IsS86.far ?_ NB0_450.out _ | refine IsS86.far ?_ NB0_455.out _) | exact HI0.out)); (case side2 => repeat (first | (with_reducible first | exact HB.out | apply below_alloc | apply pw_below_drewN | apply below_drew1 | refine below_set ?_ (IsS86.ge HI0.out) | refine below_set ?_ GE450.out | refine below_set ?_ GE455.out) | exact HB.out)); rintro e w12 ⟨rfl, hi, hb, hk⟩; refine ⟨_, rfl, ?_⟩; have n0_ := Aside0.mk (KeepBut.blk hk (g' := gb450) (o := .cells #[.int .i64 0, .int .i64 0, .int .i64 0] 34 (0, 0)) (by (with_reducible repeat (first | refine blk_drewN ?_ _ | refine blk_drew ?_ | refine blk_alloc ?_ _)); refine blk_far ?_ NB450_455.out _; (with_reducible repeat (first | refine blk_drewN ?_ _ | refine blk_drew ?_ | refine blk_alloc ?_ _)); refine blk_far ?_ NB450_455.out _; (with_reducible repeat (first | refine blk_drewN ?_ _ | refine blk_drew ?_ | refine blk_alloc ?_ _)); exact BK450.out) NB450_0.out (by simp)); have n1_ := Aside0.mk (KeepBut.blk hk (g' := gb455) (o := .cells #[.int .i64 t451, .int .i64 t452] 32 (0, 0)) (by (with_reducible repeat (first | refine blk_drewN ?_ _ | refine blk_drew ?_ | refine blk_alloc ?_ _)); refine blk_put (cs := #[.int .i64 t451, .int .i64 0]) ?_ 1 _ rfl; (with_reducible repeat (first | refine blk_drewN ?_ _ | refine blk_drew ?_ | refine blk_alloc ?_ _)); refine blk_put (cs := #[.int .i64 0, .int .i64 0]) ?_ 0 _ rfl; (with_reducible repeat (first | refine blk_drewN ?_ _ | refine blk_drew ?_ | refine blk_alloc ?_ _)); exact BK455.out) NB455_0.out (by simp)); have n2_ := Aside0.mk (KeepBut.trans (by repeat (first | (with_reducible first | exact HK.out | apply KeepBut.set_ | apply keep_drewN | apply keep_drew | apply keep_alloc | refine keep_far ?_ GW450.out _ | refine keep_far ?_ GW455.out _) | exact HK.out)) hk (.inl rfl)); have n3_ := Aside0.mk (hb); have n4_ := Aside0.mk (hi); clear BK450; clear BK455; clear HK; clear HB; clear HI0; have BK450 := n0_; have BK455 := n1_; have HK := n2_; have HB := n3_; have HI0 := n4_; clear n0_ n1_ n2_ n3_ n4_; (try clear hb); (try clear hb2); (try clear hk); (try clear hi)) | ((with_reducible refine gate_dst (N := 4) rfl ?_); refine box_event ?hg (N := 4) ?hd (cs := #[.int .i64 0, .int .i64 0, .int .i64 0]) (t := 34) ?hr ?_; (case hd => rfl); (case hg => rfl); (case hr => first | (go_simp; done) | (go_simp; rfl)); intro gb461 hg w13 hbox hb; have n0_ := Aside0.mk (IsS86.below (by repeat (first | (with_reducible first | exact HI0.out | apply IsS86.alloc | apply IsS86.drewN | apply IsS86.drew | apply IsS86.set_1 | apply IsS86.set_2 | refine IsS86.far ?_ NB0_450.out _ | refine IsS86.far ?_ NB0_455.out _) | exact HI0.out)) hb); have n1_ := Aside0.mk (blk_below (g := gb450) (o := .cells #[.int .i64 0, .int .i64 0, .int .i64 0] 34 (0, 0)) (kb_ BK450.out) hb); have n2_ := Aside0.mk (blk_below (g := gb455) (o := .cells #[.int .i64 t451, .int .i64 t452] 32 (0, 0)) (kb_ BK455.out) hb); have n3_ := Aside0.mk (KeepBut.trans (by repeat (first | (with_reducible first | exact HK.out | apply KeepBut.set_ | apply keep_drewN | apply keep_drew | apply keep_alloc | refine keep_far ?_ GW450.out _ | refine keep_far ?_ GW455.out _) | exact HK.out)) (KeepBut.of_below hb g none) (.inl rfl)); have n4_ := Aside0.mk (below_step (by repeat (first | (with_reducible first | exact HB.out | apply below_alloc | apply pw_below_drewN | apply below_drew1 | refine below_set ?_ (IsS86.ge HI0.out) | refine below_set ?_ GE450.out | refine below_set ?_ GE455.out) | exact HB.out)) hb); have n5_ := Aside0.mk (hbox); have n6_ := Aside0.mk ((by rw [hg]; exact (keep_size (w := w) (g := g) (row := none) (by repeat (first | (with_reducible first | exact HK.out | apply KeepBut.set_ | apply keep_drewN | apply keep_drew | apply keep_alloc | refine keep_far ?_ GW450.out _ | refine keep_far ?_ GW455.out _) | exact HK.out))) : w.heap.size ≤ gb461)); have n7_ := Aside0.mk ((Nat.le_trans HW0.out (by rw [hg]; exact (keep_size (w := w) (g := g) (row := none) (by repeat (first | (with_reducible first | exact HK.out | apply KeepBut.set_ | apply keep_drewN | apply keep_drew | apply keep_alloc | refine keep_far ?_ GW450.out _ | refine keep_far ?_ GW455.out _) | exact HK.out))) : w.heap.size ≤ gb461) : w0.heap.size ≤ gb461)); have n8_ := Aside0.mk ((by rw [hg]; exact Nat.ne_of_lt (blk_lt (g := gb450) (o := .cells #[.int .i64 0, .int .i64 0, .int .i64 0] 34 (0, 0)) (kb_ BK450.out)) : gb450 ≠ gb461)); have n9_ := Aside0.mk ((by rw [hg]; exact Nat.ne_of_gt (blk_lt (g := gb450) (o := .cells #[.int .i64 0, .int .i64 0, .int .i64 0] 34 (0, 0)) (kb_ BK450.out)) : gb461 ≠ gb450)); have n10_ := Aside0.mk ((by rw [hg]; exact Nat.ne_of_lt (blk_lt (g := gb455) (o := .cells #[.int .i64 t451, .int .i64 t452] 32 (0, 0)) (kb_ BK455.out)) : gb455 ≠ gb461)); have n11_ := Aside0.mk ((by rw [hg]; exact Nat.ne_of_gt (blk_lt (g := gb455) (o := .cells #[.int .i64 t451, .int .i64 t452] 32 (0, 0)) (kb_ BK455.out)) : gb461 ≠ gb455)); have n12_ := Aside0.mk ((by rw [hg]; exact Nat.ne_of_lt (IsS86.lt (show IsS86 w0 _ g s0_0 t459 t460 from by repeat (first | (with_reducible first | exact HI0.out | apply IsS86.alloc | apply IsS86.drewN | apply IsS86.drew | apply IsS86.set_1 | apply IsS86.set_2 | refine IsS86.far ?_ NB0_450.out _ | refine IsS86.far ?_ NB0_455.out _) | exact HI0.out))) : g ≠ gb461)); have n13_ := Aside0.mk ((by rw [hg]; exact Nat.ne_of_gt (IsS86.lt (show IsS86 w0 _ g s0_0 t459 t460 from by repeat (first | (with_reducible first | exact HI0.out | apply IsS86.alloc | apply IsS86.drewN | apply IsS86.drew | apply IsS86.set_1 | apply IsS86.set_2 | refine IsS86.far ?_ NB0_450.out _ | refine IsS86.far ?_ NB0_455.out _) | exact HI0.out))) : gb461 ≠ g)); clear HI0; clear BK450; clear BK455; clear HK; clear HB; have HI0 := n0_; have BK450 := n1_; have BK455 := n2_; have HK := n3_; have HB := n4_; have BK461 := n5_; have GW461 := n6_; have GE461 := n7_; have NB450_461 := n8_; have NB461_450 := n9_; have NB455_461 := n10_; have NB461_455 := n11_; have NB0_461 := n12_; have NB461_0 := n13_; clear n0_ n1_ n2_ n3_ n4_ n5_ n6_ n7_ n8_ n9_ n10_ n11_ n12_ n13_; clear hb hbox hg; have hnb14 := NB461_450.out; have hnc14 := NB450_461.out; have hnb15 := NB461_455.out; have hnc15 := NB455_461.out; have hnb16 := NB461_0.out; have hnc16 := NB0_461.out; have hcz17_0 := cz_ (.int .i64 0) BK461.out 0; have hcz17_1 := cz_ (.int .i64 0) BK461.out 1; have hcz17_2 := cz_ (.int .i64 0) BK461.out 2; have hfz17_0 := blk_frozen BK461.out 0; have hfz17_1 := blk_frozen BK461.out 1; have hfz17_2 := blk_frozen BK461.out 2; have hcz18_0 := cz_ (.int .i64 t451) BK455.out 0; have hcz18_1 := cz_ (.int .i64 t452) BK455.out 1; have hfz18_0 := blk_frozen BK455.out 0; have hfz18_1 := blk_frozen BK455.out 1) | ((with_reducible refine gate_callee (f := 64) rfl ?_); refine goesL_ (some 13) rfl rfl Tryd.func64 (by kernel_rfl) rfl #[.agg #[.int .i64 t451, .int .i64 t452]] rfl mp_ ?_; (with_reducible refine (spec_CountGaps.calls t451 t452 t462 _ A4.out).mono ?_); rintro e w19 ⟨rfl, hb⟩; refine ⟨_, rfl, ?_⟩; have n0_ := Aside0.mk (IsS86.below (show IsS86 w0 (((w13.setCell ⟨gb461, 0, none⟩ (.int .i64 t456)).setCell ⟨gb461, 1, none⟩ (.int .i64 t457)).setCell ⟨gb461, 2, none⟩ (.int .i64 t458)) g s0_0 t459 t460 from by repeat (first | (with_reducible first | exact HI0.out | apply IsS86.alloc | apply IsS86.drewN | apply IsS86.drew | apply IsS86.set_1 | apply IsS86.set_2 | refine IsS86.far ?_ NB0_450.out _ | refine IsS86.far ?_ NB0_455.out _ | refine IsS86.far ?_ NB0_461.out _) | exact HI0.out)) hb); have n1_ := Aside0.mk (blk_below (g := gb450) (o := .cells #[.int .i64 0, .int .i64 0, .int .i64 0] 34 (0, 0)) (by (with_reducible repeat (first | refine blk_drewN ?_ _ | refine blk_drew ?_ | refine blk_alloc ?_ _)); refine blk_far ?_ NB450_461.out _; (with_reducible repeat (first | refine blk_drewN ?_ _ | refine blk_drew ?_ | refine blk_alloc ?_ _)); refine blk_far ?_ NB450_461.out _; (with_reducible repeat (first | refine blk_drewN ?_ _ | refine blk_drew ?_ | refine blk_alloc ?_ _)); refine blk_far ?_ NB450_461.out _; (with_reducible repeat (first | refine blk_drewN ?_ _ | refine blk_drew ?_ | refine blk_alloc ?_ _)); exact BK450.out) hb); have n2_ := Aside0.mk (blk_below (g := gb455) (o := .cells #[.int .i64 t451, .int .i64 t452] 32 (0, 0)) (by (with_reducible repeat (first | refine blk_drewN ?_ _ | refine blk_drew ?_ | refine blk_alloc ?_ _)); refine blk_far ?_ NB455_461.out _; (with_reducible repeat (first | refine blk_drewN ?_ _ | refine blk_drew ?_ | refine blk_alloc ?_ _)); refine blk_far ?_ NB455_461.out _; (with_reducible repeat (first | refine blk_drewN ?_ _ | refine blk_drew ?_ | refine blk_alloc ?_ _)); refine blk_far ?_ NB455_461.out _; (with_reducible repeat (first | refine blk_drewN ?_ _ | refine blk_drew ?_ | refine blk_alloc ?_ _)); exact BK455.out) hb); have n3_ := Aside0.mk (blk_below (g := gb461) (o := .cells #[.int .i64 t456, .int .i64 t457, .int .i64 t458] 34 (0, 0)) (by (with_reducible repeat (first | refine blk_drewN ?_ _ | refine blk_drew ?_ | refine blk_alloc ?_ _)); refine blk_put (cs := #[.int .i64 t456, .int .i64 t457, .int .i64 0]) ?_ 2 _ rfl; (with_reducible repeat (first | refine blk_drewN ?_ _ | refine blk_drew ?_ | refine blk_alloc ?_ _)); refine blk_put (cs := #[.int .i64 t456, .int .i64 0, .int .i64 0]) ?_ 1 _ rfl; (with_reducible repeat (first | refine blk_drewN ?_ _ | refine blk_drew ?_ | refine blk_alloc ?_ _)); refine blk_put (cs := #[.int .i64 0, .int .i64 0, .int .i64 0]) ?_ 0 _ rfl; (with_reducible repeat (first | refine blk_drewN ?_ _ | refine blk_drew ?_ | refine blk_alloc ?_ _)); exact BK461.out) hb); have n4_ := Aside0.mk (KeepBut.trans (by repeat (first | (with_reducible first | exact HK.out | apply KeepBut.set_ | apply keep_drewN | apply keep_drew | apply keep_alloc | refine keep_far ?_ GW450.out _ | refine keep_far ?_ GW455.out _ | refine keep_far ?_ GW461.out _) | exact HK.out)) (KeepBut.of_below hb g none) (.inl rfl)); have n5_ := Aside0.mk (below_step (by repeat (first | (with_reducible first | exact HB.out | apply below_alloc | apply pw_below_drewN | apply below_drew1 | refine below_set ?_ (IsS86.ge HI0.out) | refine below_set ?_ GE450.out | refine below_set ?_ GE455.out | refine below_set ?_ GE461.out) | exact HB.out)) hb); clear HI0; clear BK450; clear BK455; clear BK461; clear HK; clear HB; have HI0 := n0_; have BK450 := n1_; have BK455 := n2_; have BK461 := n3_; have HK := n4_; have HB := n5_; clear n0_ n1_ n2_ n3_ n4_ n5_; (try clear hb); (try clear hb2); (try clear hk); (try clear hi)))
 (try simp only [Act.put, List.setIfInBounds_toArray, List.set_cons_zero, List.set_cons_succ])
 go_cut [19] (fun v19 wc => ∃ (kq : Nat) (x19_4 : Bool) (x1001_4 : Int) (x1002_4 : Int), v19 = .bool x19_4 ∧ Aside0 (spec_l03Maze.j0 kq t462 x19_4 s0_0 x1001_4 x1002_4 t456 t457 t458 = some (r1, r2, r3, r4, r5)) ∧ Aside0 (kq ≤ k) ∧ Aside0 (wc.heap[gb450]? = some (.cells #[.int .i64 0, .int .i64 0, .int .i64 0] 34 (0, 0))) ∧ Aside0 (wc.heap[gb455]? = some (.cells #[.int .i64 t451, .int .i64 t452] 32 (0, 0))) ∧ Aside0 (wc.heap[gb461]? = some (.cells #[.int .i64 t456, .int .i64 t457, .int .i64 t458] 34 (0, 0))) ∧ Aside0 (IsS86 w0 wc g s0_0 x1001_4 x1002_4) ∧ Aside0 (KeepBut w wc g none) ∧ Aside0 (Below w0.heap.size w0 wc))
 case first =>
  have H := HC5.out
  clear HC5
  by_cases c20 : t462 > 0
  ·rw [if_pos c20] at H
   have c20b0 : decide (0 < t462) = true := decide_eq_true c20
   clear c20
   (first | rw [c20b0] | (simp only [i64_w, i32_w]; rw [c20b0]) | skip)
   replace H := Option.bind_eq_some_iff.mp H
   obtain ⟨⟨t463, t464, t465⟩, A210, H⟩ := H
   replace H : (spec_l03Maze.j0 k t462 t463 s0_0 t464 t465 t456 t457 t458) = some (r1, r2, r3, r4, r5) := H
   have A21 := Aside0.mk A210
   clear A210
   have H' := Aside0.mk H
   clear H
   go_wp2_with (first | (go_at_call 44; (with_reducible refine (spec_l01Once.calls g s0_0 t459 t460 2 t463 t464 t465 w0 _ ?side1 ?side2 A21.out).mono ?_); (case side1 => repeat (first | (with_reducible first | exact HI0.out | apply IsS86.alloc | apply IsS86.drewN | apply IsS86.drew | apply IsS86.set_1 | apply IsS86.set_2 | refine IsS86.far ?_ NB0_450.out _ | refine IsS86.far ?_ NB0_455.out _ | refine IsS86.far ?_ NB0_461.out _) | exact HI0.out)); (case side2 => repeat (first | (with_reducible first | exact HB.out | apply below_alloc | apply pw_below_drewN | apply below_drew1 | refine below_set ?_ (IsS86.ge HI0.out) | refine below_set ?_ GE450.out | refine below_set ?_ GE455.out | refine below_set ?_ GE461.out) | exact HB.out)); rintro e w22 ⟨rfl, hi, hb, hk⟩; have n0_ := Aside0.mk (KeepBut.blk hk (g' := gb450) (o := .cells #[.int .i64 0, .int .i64 0, .int .i64 0] 34 (0, 0)) (kb_ BK450.out) NB450_0.out (by simp)); have n1_ := Aside0.mk (KeepBut.blk hk (g' := gb455) (o := .cells #[.int .i64 t451, .int .i64 t452] 32 (0, 0)) (kb_ BK455.out) NB455_0.out (by simp)); have n2_ := Aside0.mk (KeepBut.blk hk (g' := gb461) (o := .cells #[.int .i64 t456, .int .i64 t457, .int .i64 t458] 34 (0, 0)) (kb_ BK461.out) NB461_0.out (by simp)); have n3_ := Aside0.mk (KeepBut.trans (by repeat (first | (with_reducible first | exact HK.out | apply KeepBut.set_ | apply keep_drewN | apply keep_drew | apply keep_alloc | refine keep_far ?_ GW450.out _ | refine keep_far ?_ GW455.out _ | refine keep_far ?_ GW461.out _) | exact HK.out)) hk (.inl rfl)); have n4_ := Aside0.mk (hb); have n5_ := Aside0.mk (hi); clear BK450; clear BK455; clear BK461; clear HK; clear HB; clear HI0; have BK450 := n0_; have BK455 := n1_; have BK461 := n2_; have HK := n3_; have HB := n4_; have HI0 := n5_; clear n0_ n1_ n2_ n3_ n4_ n5_; (try clear hb); (try clear hb2); (try clear hk); (try clear hi)))
   go_meet
   case rel => exact ⟨_, (t463), (t464), (t465), (by first | rfl | (simp; done) | (simp [*]; done)), H', ⟨by first | omega | exact Nat.le_refl _⟩, ⟨kb_ BK450.out⟩, ⟨kb_ BK455.out⟩, ⟨kb_ BK461.out⟩, ⟨by repeat (first | (with_reducible first | exact HI0.out | apply IsS86.alloc | apply IsS86.drewN | apply IsS86.drew | apply IsS86.set_1 | apply IsS86.set_2 | refine IsS86.far ?_ NB0_450.out _ | refine IsS86.far ?_ NB0_455.out _ | refine IsS86.far ?_ NB0_461.out _) | exact HI0.out)⟩, ⟨by repeat (first | (with_reducible first | exact HK.out | apply KeepBut.set_ | apply keep_drewN | apply keep_drew | apply keep_alloc | refine keep_far ?_ GW450.out _ | refine keep_far ?_ GW455.out _ | refine keep_far ?_ GW461.out _) | exact HK.out)⟩, ⟨by repeat (first | (with_reducible first | exact HB.out | apply below_alloc | apply pw_below_drewN | apply below_drew1 | refine below_set ?_ (IsS86.ge HI0.out) | refine below_set ?_ GE450.out | refine below_set ?_ GE455.out | refine below_set ?_ GE461.out) | exact HB.out)⟩⟩
  ·rw [if_neg c20] at H
   have c20b0 : decide (0 < t462) = false := decide_eq_false c20
   clear c20
   (first | rw [c20b0] | (simp only [i64_w, i32_w]; rw [c20b0]) | skip)
   have H' := Aside0.mk H
   clear H
   go_wp2
   go_meet
   case rel => exact ⟨_, (false), (t459), (t460), (by first | rfl | (simp; done) | (simp [*]; done)), H', ⟨by first | omega | exact Nat.le_refl _⟩, ⟨kb_ BK450.out⟩, ⟨kb_ BK455.out⟩, ⟨kb_ BK461.out⟩, ⟨by repeat (first | (with_reducible first | exact HI0.out | apply IsS86.alloc | apply IsS86.drewN | apply IsS86.drew | apply IsS86.set_1 | apply IsS86.set_2 | refine IsS86.far ?_ NB0_450.out _ | refine IsS86.far ?_ NB0_455.out _ | refine IsS86.far ?_ NB0_461.out _) | exact HI0.out)⟩, ⟨by repeat (first | (with_reducible first | exact HK.out | apply KeepBut.set_ | apply keep_drewN | apply keep_drew | apply keep_alloc | refine keep_far ?_ GW450.out _ | refine keep_far ?_ GW455.out _ | refine keep_far ?_ GW461.out _) | exact HK.out)⟩, ⟨by repeat (first | (with_reducible first | exact HB.out | apply below_alloc | apply pw_below_drewN | apply below_drew1 | refine below_set ?_ (IsS86.ge HI0.out) | refine below_set ?_ GE450.out | refine below_set ?_ GE455.out | refine below_set ?_ GE461.out) | exact HB.out)⟩⟩
 case rest =>
  clear HC5
  try clear c1
  try clear c2
  try clear p2
  try clear c5
  try clear c6
  try clear c9
  try clear c10
  try clear c14
  try clear c15
  try clear c16
  try clear c20
  try clear c20b0
  try clear hcz11_0
  try clear hcz11_1
  try clear hcz17_0
  try clear hcz17_1
  try clear hcz17_2
  try clear hcz18_0
  try clear hcz18_1
  try clear hfz11_0
  try clear hfz11_1
  try clear hfz17_0
  try clear hfz17_1
  try clear hfz17_2
  try clear hfz18_0
  try clear hfz18_1
  obtain ⟨kq, x19_4, x1001_4, x1002_4, rfl, HA, HJ4, BK450, BK455, BK461, HI0, HK, HB⟩ := hcut
  cases kq with
  | zero => exact absurd HA.out (by simp [spec_l03Maze.j0])
  | succ kj4 =>
   have H := HA.out
   clear HA
   simp only [spec_l03Maze.j0] at H
   by_cases c23 : x19_4 = true
   ·subst c23
    have H1 : ((spec_l01Below.f s0_0 x1001_4 x1002_4 4).bind fun bt466 => (spec_l03Maze.l0 kj4 t462 bt466.1 s0_0 bt466.2.1 bt466.2.2 t456 t457 t458)) = some (r1, r2, r3, r4, r5) := by rw [if_pos rfl] at H; exact H
    clear H
    have H := H1
    clear H1
    replace H := Option.bind_eq_some_iff.mp H
    obtain ⟨⟨t466, t467, t468⟩, A240, H⟩ := H
    replace H : (spec_l03Maze.l0 kj4 t462 t466 s0_0 t467 t468 t456 t457 t458) = some (r1, r2, r3, r4, r5) := H
    have A24 := Aside0.mk A240
    clear A240
    have H' := Aside0.mk H
    clear H
    go_wp2_with (first | ((with_reducible refine gate_callee (f := 45) rfl ?_); refine goesL_ (some 21) rfl rfl Tryd.func45 (by kernel_rfl) rfl #[.pointer (some ⟨g, 0, none⟩), .int .i64 4] rfl mp_ ?_; (with_reducible refine (spec_l01Below.calls g s0_0 x1001_4 x1002_4 4 t466 t467 t468 w0 _ ?side1 ?side2 A24.out).mono ?_); (case side1 => repeat (first | (with_reducible first | exact HI0.out | apply IsS86.alloc | apply IsS86.drewN | apply IsS86.drew | apply IsS86.set_1 | apply IsS86.set_2 | refine IsS86.far ?_ NB0_450.out _ | refine IsS86.far ?_ NB0_455.out _ | refine IsS86.far ?_ NB0_461.out _) | exact HI0.out)); (case side2 => repeat (first | (with_reducible first | exact HB.out | apply below_alloc | apply pw_below_drewN | apply below_drew1 | refine below_set ?_ (IsS86.ge HI0.out) | refine below_set ?_ GE450.out | refine below_set ?_ GE455.out | refine below_set ?_ GE461.out) | exact HB.out)); rintro e w25 ⟨rfl, hi, hb, hk⟩; refine ⟨_, rfl, ?_⟩; have n0_ := Aside0.mk (KeepBut.blk hk (g' := gb450) (o := .cells #[.int .i64 0, .int .i64 0, .int .i64 0] 34 (0, 0)) (kb_ BK450.out) NB450_0.out (by simp)); have n1_ := Aside0.mk (KeepBut.blk hk (g' := gb455) (o := .cells #[.int .i64 t451, .int .i64 t452] 32 (0, 0)) (kb_ BK455.out) NB455_0.out (by simp)); have n2_ := Aside0.mk (KeepBut.blk hk (g' := gb461) (o := .cells #[.int .i64 t456, .int .i64 t457, .int .i64 t458] 34 (0, 0)) (kb_ BK461.out) NB461_0.out (by simp)); have n3_ := Aside0.mk (KeepBut.trans (by repeat (first | (with_reducible first | exact HK.out | apply KeepBut.set_ | apply keep_drewN | apply keep_drew | apply keep_alloc | refine keep_far ?_ GW450.out _ | refine keep_far ?_ GW455.out _ | refine keep_far ?_ GW461.out _) | exact HK.out)) hk (.inl rfl)); have n4_ := Aside0.mk (hb); have n5_ := Aside0.mk (hi); clear BK450; clear BK455; clear BK461; clear HK; clear HB; clear HI0; have BK450 := n0_; have BK455 := n1_; have BK461 := n2_; have HK := n3_; have HB := n4_; have HI0 := n5_; clear n0_ n1_ n2_ n3_ n4_ n5_; (try clear hb); (try clear hb2); (try clear hk); (try clear hi)))
    go_loopg [6] kj4 (fun kq v6 w' => ∃ (x6_2 : Int) (x1001_2 : Int) (x1002_2 : Int) (x462002_2 : Int), v6 = .int .i64 x6_2 ∧ Aside0 (spec_l03Maze.l0 kq t462 x6_2 s0_0 x1001_2 x1002_2 t456 t457 x462002_2 = some (r1, r2, r3, r4, r5)) ∧ Aside0 (kq ≤ kj4) ∧ Aside0 (w'.heap[gb450]? = some (.cells #[.int .i64 0, .int .i64 0, .int .i64 0] 34 (0, 0))) ∧ Aside0 (w'.heap[gb455]? = some (.cells #[.int .i64 t451, .int .i64 t452] 32 (0, 0))) ∧ Aside0 (w'.heap[gb461]? = some (.cells #[.int .i64 t456, .int .i64 t457, .int .i64 x462002_2] 34 (0, 0))) ∧ Aside0 (IsS86 w0 w' g s0_0 x1001_2 x1002_2) ∧ Aside0 (KeepBut w w' g none) ∧ Aside0 (Below w0.heap.size w0 w'))
    case atStart => exact ⟨(t466), (t467), (t468), (t458), (by first | rfl | (simp; done) | (simp [*]; done)), H', ⟨Nat.le_refl _⟩, ⟨kb_ BK450.out⟩, ⟨kb_ BK455.out⟩, ⟨kb_ BK461.out⟩, ⟨by repeat (first | (with_reducible first | exact HI0.out | apply IsS86.alloc | apply IsS86.drewN | apply IsS86.drew | apply IsS86.set_1 | apply IsS86.set_2 | refine IsS86.far ?_ NB0_450.out _ | refine IsS86.far ?_ NB0_455.out _ | refine IsS86.far ?_ NB0_461.out _) | exact HI0.out)⟩, ⟨by repeat (first | (with_reducible first | exact HK.out | apply KeepBut.set_ | apply keep_drewN | apply keep_drew | apply keep_alloc | refine keep_far ?_ GW450.out _ | refine keep_far ?_ GW455.out _ | refine keep_far ?_ GW461.out _) | exact HK.out)⟩, ⟨by repeat (first | (with_reducible first | exact HB.out | apply below_alloc | apply pw_below_drewN | apply below_drew1 | refine below_set ?_ (IsS86.ge HI0.out) | refine below_set ?_ GE450.out | refine below_set ?_ GE455.out | refine below_set ?_ GE461.out) | exact HB.out)⟩⟩
    case round =>
     clear H'
     try clear c1
     try clear c2
     try clear p2
     try clear c4
     try clear c5
     try clear c6
     try clear c9
     try clear c10
     try clear c14
     try clear c15
     try clear c16
     try clear c20
     try clear c20b0
     try clear c23
     try clear hcz11_0
     try clear hcz11_1
     try clear hcz17_0
     try clear hcz17_1
     try clear hcz17_2
     try clear hcz18_0
     try clear hcz18_1
     try clear hfz11_0
     try clear hfz11_1
     try clear hfz17_0
     try clear hfz17_1
     try clear hfz17_2
     try clear hfz18_0
     try clear hfz18_1
     try clear p2
     obtain ⟨x6_2, x1001_2, x1002_2, x462002_2, rfl, HA, HK2, BK450, BK455, BK461, HI0, HK, HB⟩ := hrel
     cases gk with
     | zero => exact absurd HA.out (by simp [spec_l03Maze.l0])
     | succ k2 =>
      have H := HA.out
      clear HA
      simp only [spec_l03Maze.l0] at H
      by_cases c26 : x6_2 ≥ 0
      ·rw [if_pos c26] at H
       have c26b0 : decide (0 ≤ x6_2) = true := decide_eq_true c26
       clear c26
       replace H := Option.bind_eq_some_iff.mp H
       obtain ⟨⟨t469, t470, t471⟩, A270, H⟩ := H
       replace H : (if 0 ≤ t469 then (spec_l03Maze.l0 k2 t462 (wrap64 (x6_2 - 1)) s0_0 t470 t471 t456 t457 (Go.bits .xor .i64 x462002_2 (shl .i64 1 t469))) else (none)) = some (r1, r2, r3, r4, r5) := H
       have A27 := Aside0.mk A270
       clear A270
       by_cases c28 : 0 ≤ t469
       ·rw [if_pos c28] at H
        have c28b0 := eq_true c28
        have c28b1 : decide (0 ≤ t469) = true := decide_eq_true c28
        clear c28
        obtain ⟨ji29, hji29⟩ : ∃ j_ : Int, (shl .i64 1 t469) = j_ := ⟨_, rfl⟩
        replace H : (spec_l03Maze.l0 k2 t462 (wrap64 (x6_2 - 1)) s0_0 t470 t471 t456 t457 (Go.bits .xor .i64 x462002_2 (ji29))) = some (r1, r2, r3, r4, r5) := by first | (rw [hji29] at H; exact H) | (simp only [hji29] at H ⊢; exact H)
        (try rw [hji29] at A27)
        have hji29_ : (IntKind.i64.wrap (1 * 2 ^ min t469.toNat 64)) = ji29 := hji29
        have hji29z : t469 ≤ 64 → (IntKind.i64.wrap (1 * 2 ^ t469.toNat)) = ji29 := shl_small hji29
        have hji29u : (IntKind.i64.wrap (2 ^ min t469.toNat 64)) = ji29 := by have h_ := hji29_; rw [Int.one_mul] at h_; exact h_
        have hji29v : t469 ≤ 64 → (IntKind.i64.wrap (2 ^ t469.toNat)) = ji29 := fun hle_ => by have h_ := hji29z hle_; rw [Int.one_mul] at h_; exact h_
        have hji29y : (wrap64 (1 * 2 ^ min t469.toNat 64)) = ji29 := (i64_w _).symm.trans hji29_
        have hji29x : t469 ≤ 64 → (wrap64 (1 * 2 ^ t469.toNat)) = ji29 := fun h_ => (i64_w _).symm.trans (hji29z h_)
        have H' := Aside0.mk H
        clear H
        try go_wp2
        have n0_ := Aside0.mk (blk_drew BK450.out)
        have n1_ := Aside0.mk (blk_drew BK455.out)
        have n2_ := Aside0.mk (blk_drew BK461.out)
        have n3_ := Aside0.mk (IsS86.drew HI0.out)
        have n4_ := Aside0.mk (keep_drew HK.out)
        have n5_ := Aside0.mk (below_drew1 HB.out)
        clear BK450
        clear BK455
        clear BK461
        clear HI0
        clear HK
        clear HB
        have BK450 := n0_
        have BK455 := n1_
        have BK461 := n2_
        have HI0 := n3_
        have HK := n4_
        have HB := n5_
        clear n0_ n1_ n2_ n3_ n4_ n5_
        refine start_ (n := 9) (S := fun w' => w'.cell? ⟨gb461, 0, none⟩ = some (.int .i64 t456) ∧ w'.cell? ⟨gb461, 1, none⟩ = some (.int .i64 t457) ∧ w'.cell? ⟨gb461, 2, none⟩ = some (.int .i64 x462002_2)) (ds := [8]) #[false, false, false, false, false, false, false, false, false] (by kernel_rfl) rfl rfl ⟨(blk_cell BK461.out 0).trans rfl, (blk_cell BK461.out 1).trans rfl, (blk_cell BK461.out 2).trans rfl⟩ (fun hHeld => ?_); refine with_tabW spec_l03Maze.tab8 spec_l03Maze.bits8 (fun HT_ HW_ => ?_)
        generalize wr.drew = w30 at BK450 BK455 BK461 HI0 HK HB hHeld ⊢
        refine pure_ (i := 0) (N := some 26) (v := ?_) (a' := ?_) #[true, false, false, false, false, false, false, false, false] rfl rfl (any_of HT_.out (by kernel_rfl)) (fun _ _ _ h => h) (Or.inl ⟨by rfl, ?_⟩) ?_ ?_
        rotate_left
        ·intro w'
         go_simp
         with_reducible rfl
        rotate_left
        ·simp only [Act.put, List.setIfInBounds_toArray, List.set_cons_zero, List.set_cons_succ, i64_w, i32_w]
         rfl
        refine pure_ (i := 2) (N := some 28) (v := ?_) (a' := ?_) #[true, false, true, false, false, false, false, false, false] rfl rfl (any_of HT_.out (by kernel_rfl)) (fun _ _ _ h => h) (Or.inl ⟨by rfl, ?_⟩) ?_ ?_
        rotate_left
        ·intro w'
         go_simp
         with_reducible rfl
        rotate_left
        ·simp only [Act.put, List.setIfInBounds_toArray, List.set_cons_zero, List.set_cons_succ, i64_w, i32_w]
         rfl
        refine pure_ (i := 3) (N := some 29) (v := ?_) (a' := ?_) #[true, false, true, true, false, false, false, false, false] rfl rfl (any_of HT_.out (by kernel_rfl)) (fun _ _ _ h => h) (Or.inl ⟨by rfl, ?_⟩) ?_ ?_
        rotate_left
        ·intro w'
         go_simp
         with_reducible rfl
        rotate_left
        ·simp only [Act.put, List.setIfInBounds_toArray, List.set_cons_zero, List.set_cons_succ, i64_w, i32_w]
         rfl
        refine take_ (i := 1) (N := some 27) (v := ?_) (a' := ?_) #[true, true, true, true, false, false, false, false, false] rfl rfl (take_ofW HT_.out HW_.out (by kernel_rfl)) (fun _ _ _ h => h) (Or.inl ⟨by rfl, ?_⟩) hHeld ?_ ?_
        rotate_left
        ·rintro w' ⟨s0, s1, s2⟩
         go_simp
         with_reducible rfl
        rotate_left
        ·simp only [Act.put, List.setIfInBounds_toArray, List.set_cons_zero, List.set_cons_succ, i64_w, i32_w]
         rfl
        refine one_ (i := 4) (N := some 30) #[true, true, true, true, true, false, false, false, false] rfl rfl (one_of HT_.out (by kernel_rfl)) (by decide) (fun K hK => ?_)
        refine goes_ Tryd.func45 (by kernel_rfl) rfl #[.pointer (some ⟨g, 0, none⟩), .int .i64 t462] (by rfl) rfl rfl mp_ ?_
        with_reducible refine (spec_l01Below.calls g s0_0 x1001_2 x1002_2 t462 t469 t470 t471 w0 _ ?side1 ?side2 A27.out).mono ?_
        (case side1 => repeat (first | (with_reducible first | exact HI0.out | apply IsS86.alloc | apply IsS86.drewN | apply IsS86.drew | apply IsS86.set_1 | apply IsS86.set_2 | refine IsS86.far ?_ NB0_450.out _ | refine IsS86.far ?_ NB0_455.out _ | refine IsS86.far ?_ NB0_461.out _) | exact HI0.out))
        (case side2 => repeat (first | (with_reducible first | exact HB.out | apply below_alloc | apply pw_below_drewN | apply below_drew1 | refine below_set ?_ (IsS86.ge HI0.out) | refine below_set ?_ GE450.out | refine below_set ?_ GE455.out | refine below_set ?_ GE461.out) | exact HB.out))
        rintro e w31 ⟨rfl, hi, hb, hk⟩
        refine ⟨_, rfl, ?_⟩
        have n0_ := Aside0.mk (KeepBut.blk hk (g' := gb450) (o := .cells #[.int .i64 0, .int .i64 0, .int .i64 0] 34 (0, 0)) (kb_ BK450.out) NB450_0.out (by simp))
        have n1_ := Aside0.mk (KeepBut.blk hk (g' := gb455) (o := .cells #[.int .i64 t451, .int .i64 t452] 32 (0, 0)) (kb_ BK455.out) NB455_0.out (by simp))
        have n2_ := Aside0.mk (KeepBut.blk hk (g' := gb461) (o := .cells #[.int .i64 t456, .int .i64 t457, .int .i64 x462002_2] 34 (0, 0)) (kb_ BK461.out) NB461_0.out (by simp))
        have n3_ := Aside0.mk (KeepBut.trans (by repeat (first | (with_reducible first | exact HK.out | apply KeepBut.set_ | apply keep_drewN | apply keep_drew | apply keep_alloc | refine keep_far ?_ GW450.out _ | refine keep_far ?_ GW455.out _ | refine keep_far ?_ GW461.out _) | exact HK.out)) hk (.inl rfl))
        have n4_ := Aside0.mk (hb)
        have n5_ := Aside0.mk (hi)
        clear BK450
        clear BK455
        clear BK461
        clear HK
        clear HB
        clear HI0
        have BK450 := n0_
        have BK455 := n1_
        have BK461 := n2_
        have HK := n3_
        have HB := n4_
        have HI0 := n5_
        clear n0_ n1_ n2_ n3_ n4_ n5_
        (try clear hb)
        (try clear hb2)
        (try clear hk)
        (try clear hi)
        refine hK.out _ _ ⟨(blk_cell BK461.out 0).trans rfl, (blk_cell BK461.out 1).trans rfl, (blk_cell BK461.out 2).trans rfl⟩ (fun hHeld => ?_)
        clear hK K
        refine norm_ (a' := ?_) ?_ ?_
        rotate_left
        ·show Act.put _ (some 30) _ = _
         simp only [Act.put, List.setIfInBounds_toArray, List.set_cons_zero, List.set_cons_succ, i64_w, i32_w]
         rfl
        refine pure_ (i := 5) (N := some 31) (v := ?_) (a' := ?_) #[true, true, true, true, true, true, false, false, false] rfl rfl (any_of HT_.out (by kernel_rfl)) (fun _ _ _ h => h) (Or.inl ⟨by rfl, ?_⟩) ?_ ?_
        rotate_left
        ·intro w'
         go_simp
         with_reducible rfl
        rotate_left
        ·simp only [Act.put, List.setIfInBounds_toArray, List.set_cons_zero, List.set_cons_succ, i64_w, i32_w]
         rfl
        refine pure_ (i := 6) (N := some 32) (v := ?_) (a' := ?_) #[true, true, true, true, true, true, true, false, false] rfl rfl (any_of HT_.out (by kernel_rfl)) (fun _ _ _ h => h) (Or.inl ⟨by rfl, ?_⟩) ?_ ?_
        rotate_left
        ·intro w'
         go_simp
         with_reducible rfl
        rotate_left
        ·simp only [Act.put, List.setIfInBounds_toArray, List.set_cons_zero, List.set_cons_succ, i64_w, i32_w]
         rfl
        refine pure_ (i := 7) (N := some 33) (v := ?_) (a' := ?_) #[true, true, true, true, true, true, true, true, false] rfl rfl (any_of HT_.out (by kernel_rfl)) (fun _ _ _ h => h) (Or.inl ⟨by rfl, ?_⟩) ?_ ?_
        rotate_left
        ·intro w'
         go_simp
         with_reducible rfl
        rotate_left
        ·simp only [Act.put, List.setIfInBounds_toArray, List.set_cons_zero, List.set_cons_succ, i64_w, i32_w]
         rfl
        refine last_ (i := 8) (N := none) #[true, true, true, true, true, true, true, true, true] rfl rfl (one_of HT_.out (by kernel_rfl)) (by decide) (fun K hK => ?_)
        have hs32 : w31.cell? ⟨gb461, 2, none⟩ = some (.int .i64 x462002_2) := (blk_cell BK461.out 2).trans rfl
        have hfs32 := blk_frozen BK461.out 2
        have hns32_0 := NB450_461.out
        have hns32_1 := NB455_461.out
        have hms32_0 := NB461_450.out
        have hms32_1 := NB461_455.out
        refine skip_ (w1 := ?_) (by rfl) rfl ?_ ?_
        rotate_left
        ·go_simp
         rfl
        refine hK.out _ _ ?_
        clear hK K
        refine done_ (done_of HT_.out (by kernel_rfl)) ?_
        try go_wp2
        go_roundg k2
        case measure => have := HJ4.out; have := HK2.out; omega
        case rel => exact ⟨(wrap64 (x6_2 - 1)), (t470), (t471), (Go.bits .xor .i64 x462002_2 (ji29)), (by first | rfl | (simp; done) | (simp [*]; done)), H', ⟨by have := HJ4.out; have := HK2.out; omega⟩, ⟨by (with_reducible repeat (first | refine blk_drewN ?_ _ | refine blk_drew ?_ | refine blk_alloc ?_ _)); refine blk_far ?_ NB450_461.out _; (with_reducible repeat (first | refine blk_drewN ?_ _ | refine blk_drew ?_ | refine blk_alloc ?_ _)); exact BK450.out⟩, ⟨by (with_reducible repeat (first | refine blk_drewN ?_ _ | refine blk_drew ?_ | refine blk_alloc ?_ _)); refine blk_far ?_ NB455_461.out _; (with_reducible repeat (first | refine blk_drewN ?_ _ | refine blk_drew ?_ | refine blk_alloc ?_ _)); exact BK455.out⟩, ⟨by (with_reducible repeat (first | refine blk_drewN ?_ _ | refine blk_drew ?_ | refine blk_alloc ?_ _)); refine blk_put (cs := #[.int .i64 t456, .int .i64 t457, .int .i64 x462002_2]) ?_ 2 _ rfl; (with_reducible repeat (first | refine blk_drewN ?_ _ | refine blk_drew ?_ | refine blk_alloc ?_ _)); exact BK461.out⟩, ⟨by repeat (first | (with_reducible first | exact HI0.out | apply IsS86.alloc | apply IsS86.drewN | apply IsS86.drew | apply IsS86.set_1 | apply IsS86.set_2 | refine IsS86.far ?_ NB0_450.out _ | refine IsS86.far ?_ NB0_455.out _ | refine IsS86.far ?_ NB0_461.out _) | exact HI0.out)⟩, ⟨by repeat (first | (with_reducible first | exact HK.out | apply KeepBut.set_ | apply keep_drewN | apply keep_drew | apply keep_alloc | refine keep_far ?_ GW450.out _ | refine keep_far ?_ GW455.out _ | refine keep_far ?_ GW461.out _) | exact HK.out)⟩, ⟨by repeat (first | (with_reducible first | exact HB.out | apply below_alloc | apply pw_below_drewN | apply below_drew1 | refine below_set ?_ (IsS86.ge HI0.out) | refine below_set ?_ GE450.out | refine below_set ?_ GE455.out | refine below_set ?_ GE461.out) | exact HB.out)⟩⟩
       ·rw [if_neg c28] at H
        exact absurd H (by simp)
      ·rw [if_neg c26] at H
       have c26b0 : decide (0 ≤ x6_2) = false := decide_eq_false c26
       clear c26
       simp only [Option.some.injEq, Prod.mk.injEq] at H
       obtain ⟨rfl, rfl, rfl, rfl, rfl⟩ := H
       have hnb33 := NB461_450.out
       have hnc33 := NB450_461.out
       have hnb34 := NB461_455.out
       have hnc34 := NB455_461.out
       have hnb35 := NB461_0.out
       have hnc35 := NB0_461.out
       have hcz36_0 : wr.cell? ⟨gb461, 0, none⟩ = some (.int .i64 t456) := (blk_cell BK461.out 0).trans rfl
       have hcz36_1 : wr.cell? ⟨gb461, 1, none⟩ = some (.int .i64 t457) := (blk_cell BK461.out 1).trans rfl
       have hcz36_2 : wr.cell? ⟨gb461, 2, none⟩ = some (.int .i64 x462002_2) := (blk_cell BK461.out 2).trans rfl
       have hfz36_0 := blk_frozen BK461.out 0
       have hfz36_1 := blk_frozen BK461.out 1
       have hfz36_2 := blk_frozen BK461.out 2
       have hnb37 := NB450_455.out
       have hnc37 := NB455_450.out
       have hnb38 := NB450_0.out
       have hnc38 := NB0_450.out
       have hcz39_0 : wr.cell? ⟨gb450, 0, none⟩ = some (.int .i64 0) := (blk_cell BK450.out 0).trans rfl
       have hcz39_1 : wr.cell? ⟨gb450, 1, none⟩ = some (.int .i64 0) := (blk_cell BK450.out 1).trans rfl
       have hcz39_2 : wr.cell? ⟨gb450, 2, none⟩ = some (.int .i64 0) := (blk_cell BK450.out 2).trans rfl
       have hfz39_0 := blk_frozen BK450.out 0
       have hfz39_1 := blk_frozen BK450.out 1
       have hfz39_2 := blk_frozen BK450.out 2
       go_wp2
       try (have hq450_0 : _ = some (.int .i64 t456) := (blk_cell BK450.out 0).trans rfl; have hqf450_0 := blk_frozen BK450.out 0; have hq450_1 : _ = some (.int .i64 t457) := (blk_cell BK450.out 1).trans rfl; have hqf450_1 := blk_frozen BK450.out 1; have hq450_2 : _ = some (.int .i64 x462002_2) := (blk_cell BK450.out 2).trans rfl; have hqf450_2 := blk_frozen BK450.out 2; have hq455_0 : _ = some (.int .i64 t451) := (blk_cell BK455.out 0).trans rfl; have hqf455_0 := blk_frozen BK455.out 0; have hq455_1 : _ = some (.int .i64 t452) := (blk_cell BK455.out 1).trans rfl; have hqf455_1 := blk_frozen BK455.out 1; have hq461_0 : _ = some (.int .i64 t456) := (blk_cell BK461.out 0).trans rfl; have hqf461_0 := blk_frozen BK461.out 0; have hq461_1 : _ = some (.int .i64 t457) := (blk_cell BK461.out 1).trans rfl; have hqf461_1 := blk_frozen BK461.out 1; have hq461_2 : _ = some (.int .i64 x462002_2) := (blk_cell BK461.out 2).trans rfl; have hqf461_2 := blk_frozen BK461.out 2; go_wp2)
       refine bodyPost_ret (results_cell_row rfl _ _ gb450 34 #[.int .i64 t456, .int .i64 t457, .int .i64 x462002_2] (0, 0) _ rfl (by (with_reducible repeat (first | refine blk_drewN ?_ _ | refine blk_drew ?_ | refine blk_alloc ?_ _)); refine blk_put (cs := #[.int .i64 t456, .int .i64 t457, .int .i64 0]) ?_ 2 _ rfl; (with_reducible repeat (first | refine blk_drewN ?_ _ | refine blk_drew ?_ | refine blk_alloc ?_ _)); refine blk_put (cs := #[.int .i64 t456, .int .i64 0, .int .i64 0]) ?_ 1 _ rfl; (with_reducible repeat (first | refine blk_drewN ?_ _ | refine blk_drew ?_ | refine blk_alloc ?_ _)); refine blk_put (cs := #[.int .i64 0, .int .i64 0, .int .i64 0]) ?_ 0 _ rfl; (with_reducible repeat (first | refine blk_drewN ?_ _ | refine blk_drew ?_ | refine blk_alloc ?_ _)); exact BK450.out) Tryd.underlying34 rfl (by kernel_rfl)) rfl ?_
       exact ⟨er_, by repeat (first | (with_reducible first | exact HI0.out | apply IsS86.alloc | apply IsS86.drewN | apply IsS86.drew | apply IsS86.set_1 | apply IsS86.set_2 | refine IsS86.far ?_ NB0_450.out _ | refine IsS86.far ?_ NB0_455.out _ | refine IsS86.far ?_ NB0_461.out _) | exact HI0.out), by repeat (first | (with_reducible first | exact HB.out | apply below_alloc | apply pw_below_drewN | apply below_drew1 | refine below_set ?_ (IsS86.ge HI0.out) | refine below_set ?_ GE450.out | refine below_set ?_ GE455.out | refine below_set ?_ GE461.out) | exact HB.out), by repeat (first | (with_reducible first | exact HK.out | apply KeepBut.set_ | apply keep_drewN | apply keep_drew | apply keep_alloc | refine keep_far ?_ GW450.out _ | refine keep_far ?_ GW455.out _ | refine keep_far ?_ GW461.out _) | exact HK.out)⟩
   ·replace c23 := Bool.eq_false_iff.mpr c23
    subst c23
    have H1 : (some (t456, t457, t458, x1001_4, x1002_4)) = some (r1, r2, r3, r4, r5) := by rw [if_neg (show ¬ (false = true) by decide)] at H; exact H
    clear H
    have H := H1
    clear H1
    simp only [Option.some.injEq, Prod.mk.injEq] at H
    obtain ⟨rfl, rfl, rfl, rfl, rfl⟩ := H
    have hnb40 := NB461_450.out
    have hnc40 := NB450_461.out
    have hnb41 := NB461_455.out
    have hnc41 := NB455_461.out
    have hnb42 := NB461_0.out
    have hnc42 := NB0_461.out
    have hcz43_0 : wc.cell? ⟨gb461, 0, none⟩ = some (.int .i64 t456) := (blk_cell BK461.out 0).trans rfl
    have hcz43_1 : wc.cell? ⟨gb461, 1, none⟩ = some (.int .i64 t457) := (blk_cell BK461.out 1).trans rfl
    have hcz43_2 : wc.cell? ⟨gb461, 2, none⟩ = some (.int .i64 t458) := (blk_cell BK461.out 2).trans rfl
    have hfz43_0 := blk_frozen BK461.out 0
    have hfz43_1 := blk_frozen BK461.out 1
    have hfz43_2 := blk_frozen BK461.out 2
    have hnb44 := NB450_455.out
    have hnc44 := NB455_450.out
    have hnb45 := NB450_0.out
    have hnc45 := NB0_450.out
    have hcz46_0 : wc.cell? ⟨gb450, 0, none⟩ = some (.int .i64 0) := (blk_cell BK450.out 0).trans rfl
    have hcz46_1 : wc.cell? ⟨gb450, 1, none⟩ = some (.int .i64 0) := (blk_cell BK450.out 1).trans rfl
    have hcz46_2 : wc.cell? ⟨gb450, 2, none⟩ = some (.int .i64 0) := (blk_cell BK450.out 2).trans rfl
    have hfz46_0 := blk_frozen BK450.out 0
    have hfz46_1 := blk_frozen BK450.out 1
    have hfz46_2 := blk_frozen BK450.out 2
    go_wp2
    try (have hq450_0 : _ = some (.int .i64 t456) := (blk_cell BK450.out 0).trans rfl; have hqf450_0 := blk_frozen BK450.out 0; have hq450_1 : _ = some (.int .i64 t457) := (blk_cell BK450.out 1).trans rfl; have hqf450_1 := blk_frozen BK450.out 1; have hq450_2 : _ = some (.int .i64 t458) := (blk_cell BK450.out 2).trans rfl; have hqf450_2 := blk_frozen BK450.out 2; have hq455_0 : _ = some (.int .i64 t451) := (blk_cell BK455.out 0).trans rfl; have hqf455_0 := blk_frozen BK455.out 0; have hq455_1 : _ = some (.int .i64 t452) := (blk_cell BK455.out 1).trans rfl; have hqf455_1 := blk_frozen BK455.out 1; have hq461_0 : _ = some (.int .i64 t456) := (blk_cell BK461.out 0).trans rfl; have hqf461_0 := blk_frozen BK461.out 0; have hq461_1 : _ = some (.int .i64 t457) := (blk_cell BK461.out 1).trans rfl; have hqf461_1 := blk_frozen BK461.out 1; have hq461_2 : _ = some (.int .i64 t458) := (blk_cell BK461.out 2).trans rfl; have hqf461_2 := blk_frozen BK461.out 2; go_wp2)
    refine bodyPost_ret (results_cell_row rfl _ _ gb450 34 #[.int .i64 t456, .int .i64 t457, .int .i64 t458] (0, 0) _ rfl (by (with_reducible repeat (first | refine blk_drewN ?_ _ | refine blk_drew ?_ | refine blk_alloc ?_ _)); refine blk_put (cs := #[.int .i64 t456, .int .i64 t457, .int .i64 0]) ?_ 2 _ rfl; (with_reducible repeat (first | refine blk_drewN ?_ _ | refine blk_drew ?_ | refine blk_alloc ?_ _)); refine blk_put (cs := #[.int .i64 t456, .int .i64 0, .int .i64 0]) ?_ 1 _ rfl; (with_reducible repeat (first | refine blk_drewN ?_ _ | refine blk_drew ?_ | refine blk_alloc ?_ _)); refine blk_put (cs := #[.int .i64 0, .int .i64 0, .int .i64 0]) ?_ 0 _ rfl; (with_reducible repeat (first | refine blk_drewN ?_ _ | refine blk_drew ?_ | refine blk_alloc ?_ _)); exact BK450.out) Tryd.underlying34 rfl (by kernel_rfl)) rfl ?_
    exact ⟨er_, by repeat (first | (with_reducible first | exact HI0.out | apply IsS86.alloc | apply IsS86.drewN | apply IsS86.drew | apply IsS86.set_1 | apply IsS86.set_2 | refine IsS86.far ?_ NB0_450.out _ | refine IsS86.far ?_ NB0_455.out _ | refine IsS86.far ?_ NB0_461.out _) | exact HI0.out), by repeat (first | (with_reducible first | exact HB.out | apply below_alloc | apply pw_below_drewN | apply below_drew1 | refine below_set ?_ (IsS86.ge HI0.out) | refine below_set ?_ GE450.out | refine below_set ?_ GE455.out | refine below_set ?_ GE461.out) | exact HB.out), by repeat (first | (with_reducible first | exact HK.out | apply KeepBut.set_ | apply keep_drewN | apply keep_drew | apply keep_alloc | refine keep_far ?_ GW450.out _ | refine keep_far ?_ GW455.out _ | refine keep_far ?_ GW461.out _) | exact HK.out)⟩

end Go.Proofs.YtcocebkmfmiaeaaDoor.Q
