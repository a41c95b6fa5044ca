/- Plain Lean functions of Go functions, and for each the proof that its call comes to just that answer. Conditions: in each theorem's statement. -/
import Derived.Test.YtpaecckpdaiogaaQx0
import Derived.Test.YtpaecckpdaiogaaQx2
import Derived.Test.YtpaecckpdaiogaaQx58
import Derived.Test.YtpaecckpdaiogaaQx61
import Derived.Test.YtpaecckpdaiogaaQx62
namespace Go.Proofs.Ytpaecckpdaiogaa.Q
open Go.RowKit Go.Proofs.YtpaecckpdaiogaaW.PrintWords Go.Proofs.YtpaecckpdaiogaaW.PrintLast
attribute [local go_sem] max2_int min2_int max_two min_two   -- for this text's walks alone
set_option linter.unusedVariables false
set_option linter.unusedSimpArgs false

/-! ### spec_DrawCells: function 50 -/
def spec_DrawCells.f (k : Nat) (l0 : List Int) : Option (Int × Int × Int × Int × Int) := (spec_l01New.f k l0).bind fun bt709 => ((spec_l03Maze.f k bt709.1 bt709.2.1 bt709.2.2).bind fun bt713 => ((spec_CountCells.f bt713.1 bt713.2.1).bind fun t719 => ((spec_l01Below.f bt709.1 bt713.2.2.2.1 bt713.2.2.2.2 t719).bind fun bt720 => ((spec_l01Below.f bt709.1 bt720.2.1 bt720.2.2 t719).bind fun bt723 => (some (bt713.1, bt713.2.1, bt713.2.2.1, bt720.1, bt723.1))))))
theorem spec_DrawCells.mono : ∀ a0 k, LeO (spec_DrawCells.f k a0) (spec_DrawCells.f (k + 1) a0) := by
 intro a0 k
 unfold spec_DrawCells.f
 repeat' first
   | (with_reducible exact spec_l01New.mono _ _)
   | (with_reducible exact spec_l03Maze.mono _ _ _ _)
   | (with_reducible exact LeO.refl _)
   | (with_reducible exact LeO.none _)
   | (with_reducible refine LeO.ite ?_ ?_)
   | (with_reducible refine LeO.bind ?_ (fun _ => ?_))
   | exact spec_l01New.mono _ _
   | exact spec_l03Maze.mono _ _ _ _
   | exact LeO.none _
   | refine LeO.ite ?_ ?_
   | refine LeO.bind ?_ (fun _ => ?_)
def spec_DrawCells.T4 : Bool × List (List Nat × List Nat) := (true, [([], []), ([], []), ([], []), ([1, 2], [1, 2]), ([], []), ([], []), ([4, 5, 3], [4, 5]), ([0, 6, 0], [0]), ([3, 7, 0, 1, 2, 3, 7], [3]), ([6, 8, 0, 1, 2, 3, 4, 5, 6, 7, 8], [6])])
def spec_DrawCells.B4 : List Nat := [0, 0, 0, 6, 0, 0, 62, 127, 255, 511]
theorem spec_DrawCells.tab4 : rtab .any (opsOf Try.f50 4) = spec_DrawCells.T4 := by kernel_rfl
theorem spec_DrawCells.bits4 : waitsOk spec_DrawCells.T4.2 spec_DrawCells.B4 = true := by kernel_rfl
set_option maxHeartbeats 8000000 in
set_option maxRecDepth 100000 in
theorem spec_DrawCells.calls (k : Nat) (A0 : Option Addr) (c0 : Nat) (l0 : List Int) (r1 : Int) (r2 : Int) (r3 : Int) (r4 : Int) (r5 : Int) (w : World) (hr0 : Kd.C (Kd.int .u8) w A0 l0.length l0) (hc0 : l0.length ≤ c0) (h : spec_DrawCells.f k l0 = some (r1, r2, r3, r4, r5)) :
  Calls Try.prog 50 #[.slice A0 l0.length c0] w fun e w' => e = .returned (.tuple #[.agg #[.int .i64 r1, .int .i64 r2, .int .i64 r3], .int .i64 r4, .int .i64 r5]) ∧ Below w.heap.size w w' := by
 have hu30 := Try.underlying30
 have hu28 := Try.underlying28
 have HR0 := Aside0.mk hr0
 have HC0 := Aside0.mk hc0
 clear hr0 hc0
 have HB := Aside0.mk (Below.refl w.heap.size w)
 have H : ((spec_l01New.f k l0).bind fun bt709 => ((spec_l03Maze.f k bt709.1 bt709.2.1 bt709.2.2).bind fun bt713 => ((spec_CountCells.f bt713.1 bt713.2.1).bind fun t719 => ((spec_l01Below.f bt709.1 bt713.2.2.2.1 bt713.2.2.2.2 t719).bind fun bt720 => ((spec_l01Below.f bt709.1 bt720.2.1 bt720.2.2 t719).bind fun bt723 => (some (bt713.1, bt713.2.1, bt713.2.2.1, bt720.1, bt723.1))))))) = some (r1, r2, r3, r4, r5) := h
 clear h
 replace H := Option.bind_eq_some_iff.mp H
 obtain ⟨⟨t709, t710, t711⟩, A20, H⟩ := H
 replace H : ((spec_l03Maze.f k t709 t710 t711).bind fun bt713 => ((spec_CountCells.f bt713.1 bt713.2.1).bind fun t719 => ((spec_l01Below.f t709 bt713.2.2.2.1 bt713.2.2.2.2 t719).bind fun bt720 => ((spec_l01Below.f t709 bt720.2.1 bt720.2.2 t719).bind fun bt723 => (some (bt713.1, bt713.2.1, bt713.2.2.1, bt720.1, bt723.1)))))) = some (r1, r2, r3, r4, r5) := H
 have A2 := Aside0.mk A20
 clear A20
 replace H := Option.bind_eq_some_iff.mp H
 obtain ⟨⟨t713, t714, t715, t716, t717⟩, A30, H⟩ := H
 replace H : ((spec_CountCells.f t713 t714).bind fun t719 => ((spec_l01Below.f t709 t716 t717 t719).bind fun bt720 => ((spec_l01Below.f t709 bt720.2.1 bt720.2.2 t719).bind fun bt723 => (some (t713, t714, t715, bt720.1, bt723.1))))) = some (r1, r2, r3, r4, r5) := H
 have A3 := Aside0.mk A30
 clear A30
 replace H := Option.bind_eq_some_iff.mp H
 obtain ⟨t719, A40, H⟩ := H
 replace H : ((spec_l01Below.f t709 t716 t717 t719).bind fun bt720 => ((spec_l01Below.f t709 bt720.2.1 bt720.2.2 t719).bind fun bt723 => (some (t713, t714, t715, bt720.1, bt723.1)))) = some (r1, r2, r3, r4, r5) := H
 have A4 := Aside0.mk A40
 clear A40
 replace H := Option.bind_eq_some_iff.mp H
 obtain ⟨⟨t720, t721, t722⟩, A50, H⟩ := H
 replace H : ((spec_l01Below.f t709 t721 t722 t719).bind fun bt723 => (some (t713, t714, t715, t720, bt723.1))) = some (r1, r2, r3, r4, r5) := H
 have A5 := Aside0.mk A50
 clear A50
 replace H := Option.bind_eq_some_iff.mp H
 obtain ⟨⟨t723, t724, t725⟩, A60, H⟩ := H
 replace H : (some (t713, t714, t715, t720, t723)) = some (r1, r2, r3, r4, r5) := H
 have A6 := Aside0.mk A60
 clear A60
 simp only [Option.some.injEq, Prod.mk.injEq] at H
 obtain ⟨rfl, rfl, rfl, rfl, rfl⟩ := H
 go_enter Try.func50, Try.ntmps50
 try go_wp2_with (first | ((with_reducible refine gate_dst (N := 2) rfl ?_); refine box_event ?hg (N := 2) ?hd (cs := #[.int .i64 0, .int .i64 0, .int .i64 0]) (t := 30) ?hr ?_; (case hd => rfl); (case hg => rfl); (case hr => first | (go_simp; done) | (go_simp; rfl)); intro gb708 hg w7 hbox hb; have n0_ := Aside0.mk (below_step hb_ hb); have n1_ := Aside0.mk (hbox); have n2_ := Aside0.mk ((by rw [hg]; exact (below_size hb_) : w.heap.size ≤ gb708)); have n3_ := Aside0.mk ((by rw [hg]; exact (below_size hb_) : w.heap.size ≤ gb708)); clear HB; have HB := n0_; have BK708 := n1_; have GW708 := n2_; have GE708 := n3_; clear n0_ n1_ n2_ n3_; clear hb hbox hg) | ((with_reducible refine gate_callee (f := 94) rfl ?_); refine goesL_ (some 9) rfl rfl Try.func94 (by kernel_rfl) rfl #[.slice A0 l0.length c0] rfl mp_ ?_; (with_reducible refine (spec_l01New.calls k _ _ l0 t709 t710 t711 w _ ?side1 ?side2 ?side3 A2.out).mono ?_); (case side1 => repeat (first | (with_reducible first | exact HB.out | apply below_alloc | apply pw_below_drewN | apply below_drew1 | refine below_set ?_ GE708.out) | exact HB.out)); (case side2 => exact HR0.out); (case side3 => exact HC0.out); rintro e w8 ⟨g712, rfl, hi, hb, hb2⟩; refine ⟨_, rfl, ?_⟩; have n0_ := Aside0.mk (blk_below (g := gb708) (o := .cells #[.int .i64 0, .int .i64 0, .int .i64 0] 30 (0, 0)) (kb_ BK708.out) hb2); have n1_ := Aside0.mk (hb); have n2_ := Aside0.mk (hi); have n3_ := Aside0.mk (IsS94.ne_blk hi (blk_below (g := gb708) (o := .cells #[.int .i64 0, .int .i64 0, .int .i64 0] 30 (0, 0)) (kb_ BK708.out) hb2) (by decide)); have n4_ := Aside0.mk (Ne.symm (IsS94.ne_blk hi (blk_below (g := gb708) (o := .cells #[.int .i64 0, .int .i64 0, .int .i64 0] 30 (0, 0)) (kb_ BK708.out) hb2) (by decide))); clear BK708; clear HB; have BK708 := n0_; have HB := n1_; have HI712 := n2_; have NB712_708 := n3_; have NB708_712 := n4_; clear n0_ n1_ n2_ n3_ n4_; (try clear hb); (try clear hb2); (try clear hk); (try clear hi)) | ((with_reducible refine gate_callee (f := 93) rfl ?_); refine goesL_ (some 11) rfl rfl Try.func93 (by kernel_rfl) rfl #[.pointer (some ⟨g712, 0, none⟩)] rfl mp_ ?_; (with_reducible refine (spec_l03Maze.calls k g712 t709 t710 t711 t713 t714 t715 t716 t717 w _ ?side1 ?side2 A3.out).mono ?_); (case side1 => repeat (first | (with_reducible first | exact HI712.out | apply IsS94.alloc | apply IsS94.drewN | apply IsS94.drew | apply IsS94.set_1 | apply IsS94.set_2 | refine IsS94.far ?_ NB712_708.out _) | exact HI712.out)); (case side2 => repeat (first | (with_reducible first | exact HB.out | apply below_alloc | apply pw_below_drewN | apply below_drew1 | refine below_set ?_ (IsS94.ge HI712.out) | refine below_set ?_ GE708.out) | exact HB.out)); rintro e w9 ⟨rfl, hi, hb, hk⟩; refine ⟨_, rfl, ?_⟩; have n0_ := Aside0.mk (KeepBut.blk hk (g' := gb708) (o := .cells #[.int .i64 0, .int .i64 0, .int .i64 0] 30 (0, 0)) (kb_ BK708.out) NB708_712.out (by simp)); have n1_ := Aside0.mk (hb); have n2_ := Aside0.mk (hi); clear BK708; clear HB; clear HI712; have BK708 := n0_; have HB := n1_; have HI712 := n2_; clear n0_ n1_ n2_; (try clear hb); (try clear hb2); (try clear hk); (try clear hi)) | ((with_reducible refine gate_dst (N := 6) rfl ?_); refine box_event ?hg (N := 6) ?hd (cs := #[.int .i64 0, .int .i64 0, .int .i64 0]) (t := 30) ?hr ?_; (case hd => rfl); (case hg => rfl); (case hr => first | (go_simp; done) | (go_simp; rfl)); intro gb718 hg w10 hbox hb; have n0_ := Aside0.mk (blk_below (g := gb708) (o := .cells #[.int .i64 0, .int .i64 0, .int .i64 0] 30 (0, 0)) (kb_ BK708.out) hb); have n1_ := Aside0.mk (IsS94.below (by repeat (first | (with_reducible first | exact HI712.out | apply IsS94.alloc | apply IsS94.drewN | apply IsS94.drew | apply IsS94.set_1 | apply IsS94.set_2 | refine IsS94.far ?_ NB712_708.out _) | exact HI712.out)) hb); have n2_ := Aside0.mk (below_step (by repeat (first | (with_reducible first | exact HB.out | apply below_alloc | apply pw_below_drewN | apply below_drew1 | refine below_set ?_ (IsS94.ge HI712.out) | refine below_set ?_ GE708.out) | exact HB.out)) hb); have n3_ := Aside0.mk (hbox); have n4_ := Aside0.mk ((by rw [hg]; exact (below_size (by repeat (first | (with_reducible first | exact HB.out | apply below_alloc | apply pw_below_drewN | apply below_drew1 | refine below_set ?_ (IsS94.ge HI712.out) | refine below_set ?_ GE708.out) | exact HB.out))) : w.heap.size ≤ gb718)); have n5_ := Aside0.mk ((by rw [hg]; exact (below_size (by repeat (first | (with_reducible first | exact HB.out | apply below_alloc | apply pw_below_drewN | apply below_drew1 | refine below_set ?_ (IsS94.ge HI712.out) | refine below_set ?_ GE708.out) | exact HB.out))) : w.heap.size ≤ gb718)); have n6_ := Aside0.mk ((by rw [hg]; exact Nat.ne_of_lt (blk_lt (g := gb708) (o := .cells #[.int .i64 0, .int .i64 0, .int .i64 0] 30 (0, 0)) (kb_ BK708.out)) : gb708 ≠ gb718)); have n7_ := Aside0.mk ((by rw [hg]; exact Nat.ne_of_gt (blk_lt (g := gb708) (o := .cells #[.int .i64 0, .int .i64 0, .int .i64 0] 30 (0, 0)) (kb_ BK708.out)) : gb718 ≠ gb708)); have n8_ := Aside0.mk ((by rw [hg]; exact Nat.ne_of_lt (IsS94.lt (show IsS94 w _ g712 t709 t716 t717 from by repeat (first | (with_reducible first | exact HI712.out | apply IsS94.alloc | apply IsS94.drewN | apply IsS94.drew | apply IsS94.set_1 | apply IsS94.set_2 | refine IsS94.far ?_ NB712_708.out _) | exact HI712.out))) : g712 ≠ gb718)); have n9_ := Aside0.mk ((by rw [hg]; exact Nat.ne_of_gt (IsS94.lt (show IsS94 w _ g712 t709 t716 t717 from by repeat (first | (with_reducible first | exact HI712.out | apply IsS94.alloc | apply IsS94.drewN | apply IsS94.drew | apply IsS94.set_1 | apply IsS94.set_2 | refine IsS94.far ?_ NB712_708.out _) | exact HI712.out))) : gb718 ≠ g712)); clear BK708; clear HI712; clear HB; have BK708 := n0_; have HI712 := n1_; have HB := n2_; have BK718 := n3_; have GW718 := n4_; have GE718 := n5_; have NB708_718 := n6_; have NB718_708 := n7_; have NB712_718 := n8_; have NB718_712 := n9_; clear n0_ n1_ n2_ n3_ n4_ n5_ n6_ n7_ n8_ n9_; clear hb hbox hg; have hnb11 := NB718_708.out; have hnc11 := NB708_718.out; have hnb12 := NB718_712.out; have hnc12 := NB712_718.out; have hcz13_0 := cz_ (.int .i64 0) BK718.out 0; have hcz13_1 := cz_ (.int .i64 0) BK718.out 1; have hcz13_2 := cz_ (.int .i64 0) BK718.out 2; have hfz13_0 := blk_frozen BK718.out 0; have hfz13_1 := blk_frozen BK718.out 1; have hfz13_2 := blk_frozen BK718.out 2) | ((with_reducible refine gate_callee (f := 40) rfl ?_); refine goesL_ (some 14) rfl rfl Try.func40 (by kernel_rfl) rfl #[.agg #[.int .i64 t713, .int .i64 t714]] rfl mp_ ?_; (with_reducible refine (spec_CountCells.calls t713 t714 t719 _ A4.out).mono ?_); rintro e w14 ⟨rfl, hb⟩; refine ⟨_, rfl, ?_⟩; have n0_ := Aside0.mk (blk_below (g := gb708) (o := .cells #[.int .i64 0, .int .i64 0, .int .i64 0] 30 (0, 0)) (by (with_reducible repeat (first | refine blk_drewN ?_ _ | refine blk_drew ?_ | refine blk_alloc ?_ _)); refine blk_far ?_ NB708_718.out _; (with_reducible repeat (first | refine blk_drewN ?_ _ | refine blk_drew ?_ | refine blk_alloc ?_ _)); refine blk_far ?_ NB708_718.out _; (with_reducible repeat (first | refine blk_drewN ?_ _ | refine blk_drew ?_ | refine blk_alloc ?_ _)); refine blk_far ?_ NB708_718.out _; (with_reducible repeat (first | refine blk_drewN ?_ _ | refine blk_drew ?_ | refine blk_alloc ?_ _)); exact BK708.out) hb); have n1_ := Aside0.mk (IsS94.below (show IsS94 w (((w10.setCell ⟨gb718, 0, none⟩ (.int .i64 t713)).setCell ⟨gb718, 1, none⟩ (.int .i64 t714)).setCell ⟨gb718, 2, none⟩ (.int .i64 t715)) g712 t709 t716 t717 from by repeat (first | (with_reducible first | exact HI712.out | apply IsS94.alloc | apply IsS94.drewN | apply IsS94.drew | apply IsS94.set_1 | apply IsS94.set_2 | refine IsS94.far ?_ NB712_708.out _ | refine IsS94.far ?_ NB712_718.out _) | exact HI712.out)) hb); have n2_ := Aside0.mk (blk_below (g := gb718) (o := .cells #[.int .i64 t713, .int .i64 t714, .int .i64 t715] 30 (0, 0)) (by (with_reducible repeat (first | refine blk_drewN ?_ _ | refine blk_drew ?_ | refine blk_alloc ?_ _)); refine blk_put (cs := #[.int .i64 t713, .int .i64 t714, .int .i64 0]) ?_ 2 _ rfl; (with_reducible repeat (first | refine blk_drewN ?_ _ | refine blk_drew ?_ | refine blk_alloc ?_ _)); refine blk_put (cs := #[.int .i64 t713, .int .i64 0, .int .i64 0]) ?_ 1 _ rfl; (with_reducible repeat (first | refine blk_drewN ?_ _ | refine blk_drew ?_ | refine blk_alloc ?_ _)); refine blk_put (cs := #[.int .i64 0, .int .i64 0, .int .i64 0]) ?_ 0 _ rfl; (with_reducible repeat (first | refine blk_drewN ?_ _ | refine blk_drew ?_ | refine blk_alloc ?_ _)); exact BK718.out) hb); have n3_ := Aside0.mk (below_step (by repeat (first | (with_reducible first | exact HB.out | apply below_alloc | apply pw_below_drewN | apply below_drew1 | refine below_set ?_ (IsS94.ge HI712.out) | refine below_set ?_ GE708.out | refine below_set ?_ GE718.out) | exact HB.out)) hb); clear BK708; clear HI712; clear BK718; clear HB; have BK708 := n0_; have HI712 := n1_; have BK718 := n2_; have HB := n3_; clear n0_ n1_ n2_ n3_; (try clear hb); (try clear hb2); (try clear hk); (try clear hi)))
 have n0_ := Aside0.mk (blk_drew BK708.out)
 have n1_ := Aside0.mk (blk_drew BK718.out)
 have n2_ := Aside0.mk (IsS94.drew HI712.out)
 have n3_ := Aside0.mk (below_drew1 HB.out)
 clear BK708
 clear BK718
 clear HI712
 clear HB
 have BK708 := n0_
 have BK718 := n1_
 have HI712 := n2_
 have HB := n3_
 clear n0_ n1_ n2_ n3_
 refine start_ (n := 10) (S := fun w' => w'.cell? ⟨gb718, 0, none⟩ = some (.int .i64 t713) ∧ w'.cell? ⟨gb718, 1, none⟩ = some (.int .i64 t714) ∧ w'.cell? ⟨gb718, 2, none⟩ = some (.int .i64 t715)) (ds := []) #[false, false, false, false, false, false, false, false, false, false] (by kernel_rfl) rfl rfl ⟨(blk_cell BK718.out 0).trans rfl, (blk_cell BK718.out 1).trans rfl, (blk_cell BK718.out 2).trans rfl⟩ (fun hHeld => ?_); refine with_tabW spec_DrawCells.tab4 spec_DrawCells.bits4 (fun HT_ HW_ => ?_)
 generalize w14.drew = w15 at BK708 BK718 HI712 HB hHeld ⊢
 refine pure_ (i := 1) (N := some 16) (v := ?_) (a' := ?_) #[false, true, false, false, false, false, false, false, false, false] rfl rfl (any_of HT_.out (by kernel_rfl)) (fun _ _ _ h => h) (Or.inl ⟨by rfl, ?_⟩) ?_ ?_
 rotate_left
 ·intro w'
  go_simp
  with_reducible rfl
 rotate_left
 ·simp only [Act.put, List.setIfInBounds_toArray, List.set_cons_zero, List.set_cons_succ, i64_w, i32_w]
  rfl
 refine pure_ (i := 2) (N := some 17) (v := ?_) (a' := ?_) #[false, true, true, false, false, false, false, false, false, false] rfl rfl (any_of HT_.out (by kernel_rfl)) (fun _ _ _ h => h) (Or.inl ⟨by rfl, ?_⟩) ?_ ?_
 rotate_left
 ·intro w'
  go_simp
  with_reducible rfl
 rotate_left
 ·simp only [Act.put, List.setIfInBounds_toArray, List.set_cons_zero, List.set_cons_succ, i64_w, i32_w]
  rfl
 refine pure_ (i := 4) (N := some 19) (v := ?_) (a' := ?_) #[false, true, true, false, true, false, false, false, false, false] rfl rfl (any_of HT_.out (by kernel_rfl)) (fun _ _ _ h => h) (Or.inl ⟨by rfl, ?_⟩) ?_ ?_
 rotate_left
 ·intro w'
  go_simp
  with_reducible rfl
 rotate_left
 ·simp only [Act.put, List.setIfInBounds_toArray, List.set_cons_zero, List.set_cons_succ, i64_w, i32_w]
  rfl
 refine pure_ (i := 5) (N := some 20) (v := ?_) (a' := ?_) #[false, true, true, false, true, true, false, false, false, false] rfl rfl (any_of HT_.out (by kernel_rfl)) (fun _ _ _ h => h) (Or.inl ⟨by rfl, ?_⟩) ?_ ?_
 rotate_left
 ·intro w'
  go_simp
  with_reducible rfl
 rotate_left
 ·simp only [Act.put, List.setIfInBounds_toArray, List.set_cons_zero, List.set_cons_succ, i64_w, i32_w]
  rfl
 refine take_ (i := 0) (N := some 15) (v := ?_) (a' := ?_) #[true, true, true, false, true, true, false, false, false, false] rfl rfl (take_ofW HT_.out HW_.out (by kernel_rfl)) (fun _ _ _ h => h) (Or.inl ⟨by rfl, ?_⟩) hHeld ?_ ?_
 rotate_left
 ·rintro w' ⟨s0, s1, s2⟩
  go_simp
  with_reducible rfl
 rotate_left
 ·simp only [Act.put, List.setIfInBounds_toArray, List.set_cons_zero, List.set_cons_succ, i64_w, i32_w]
  rfl
 refine one_ (i := 3) (N := some 18) #[true, true, true, true, true, true, false, false, false, false] rfl rfl (one_of HT_.out (by kernel_rfl)) (by decide) (fun K hK => ?_)
 refine goes_ Try.func101 (by kernel_rfl) rfl #[.pointer (some ⟨g712, 0, none⟩), .int .i64 t719] (by rfl) rfl rfl mp_ ?_
 with_reducible refine (spec_l01Below.calls g712 t709 t716 t717 t719 t720 t721 t722 w _ ?side1 ?side2 A5.out).mono ?_
 (case side1 => repeat (first | (with_reducible first | exact HI712.out | apply IsS94.alloc | apply IsS94.drewN | apply IsS94.drew | apply IsS94.set_1 | apply IsS94.set_2 | refine IsS94.far ?_ NB712_708.out _ | refine IsS94.far ?_ NB712_718.out _) | exact HI712.out))
 (case side2 => repeat (first | (with_reducible first | exact HB.out | apply below_alloc | apply pw_below_drewN | apply below_drew1 | refine below_set ?_ (IsS94.ge HI712.out) | refine below_set ?_ GE708.out | refine below_set ?_ GE718.out) | exact HB.out))
 rintro e w16 ⟨rfl, hi, hb, hk⟩
 refine ⟨_, rfl, ?_⟩
 have n0_ := Aside0.mk (KeepBut.blk hk (g' := gb708) (o := .cells #[.int .i64 0, .int .i64 0, .int .i64 0] 30 (0, 0)) (kb_ BK708.out) NB708_712.out (by simp))
 have n1_ := Aside0.mk (KeepBut.blk hk (g' := gb718) (o := .cells #[.int .i64 t713, .int .i64 t714, .int .i64 t715] 30 (0, 0)) (kb_ BK718.out) NB718_712.out (by simp))
 have n2_ := Aside0.mk (hb)
 have n3_ := Aside0.mk (hi)
 clear BK708
 clear BK718
 clear HB
 clear HI712
 have BK708 := n0_
 have BK718 := n1_
 have HB := n2_
 have HI712 := n3_
 clear n0_ n1_ n2_ n3_
 (try clear hb)
 (try clear hb2)
 (try clear hk)
 (try clear hi)
 refine hK.out _ _ ⟨(blk_cell BK718.out 0).trans rfl, (blk_cell BK718.out 1).trans rfl, (blk_cell BK718.out 2).trans rfl⟩ (fun hHeld => ?_)
 clear hK K
 refine norm_ (a' := ?_) ?_ ?_
 rotate_left
 ·show Act.put _ (some 18) _ = _
  simp only [Act.put, List.setIfInBounds_toArray, List.set_cons_zero, List.set_cons_succ, i64_w, i32_w]
  rfl
 refine one_ (i := 6) (N := some 21) #[true, true, true, true, true, true, true, false, false, false] rfl rfl (one_of HT_.out (by kernel_rfl)) (by decide) (fun K hK => ?_)
 refine goes_ Try.func101 (by kernel_rfl) rfl #[.pointer (some ⟨g712, 0, none⟩), .int .i64 t719] (by rfl) rfl rfl mp_ ?_
 with_reducible refine (spec_l01Below.calls g712 t709 t721 t722 t719 t723 t724 t725 w _ ?side1 ?side2 A6.out).mono ?_
 (case side1 => repeat (first | (with_reducible first | exact HI712.out | apply IsS94.alloc | apply IsS94.drewN | apply IsS94.drew | apply IsS94.set_1 | apply IsS94.set_2 | refine IsS94.far ?_ NB712_708.out _ | refine IsS94.far ?_ NB712_718.out _) | exact HI712.out))
 (case side2 => repeat (first | (with_reducible first | exact HB.out | apply below_alloc | apply pw_below_drewN | apply below_drew1 | refine below_set ?_ (IsS94.ge HI712.out) | refine below_set ?_ GE708.out | refine below_set ?_ GE718.out) | exact HB.out))
 rintro e w17 ⟨rfl, hi, hb, hk⟩
 refine ⟨_, rfl, ?_⟩
 have n0_ := Aside0.mk (KeepBut.blk hk (g' := gb708) (o := .cells #[.int .i64 0, .int .i64 0, .int .i64 0] 30 (0, 0)) (kb_ BK708.out) NB708_712.out (by simp))
 have n1_ := Aside0.mk (KeepBut.blk hk (g' := gb718) (o := .cells #[.int .i64 t713, .int .i64 t714, .int .i64 t715] 30 (0, 0)) (kb_ BK718.out) NB718_712.out (by simp))
 have n2_ := Aside0.mk (hb)
 have n3_ := Aside0.mk (hi)
 clear BK708
 clear BK718
 clear HB
 clear HI712
 have BK708 := n0_
 have BK718 := n1_
 have HB := n2_
 have HI712 := n3_
 clear n0_ n1_ n2_ n3_
 (try clear hb)
 (try clear hb2)
 (try clear hk)
 (try clear hi)
 refine hK.out _ _ ⟨(blk_cell BK718.out 0).trans rfl, (blk_cell BK718.out 1).trans rfl, (blk_cell BK718.out 2).trans rfl⟩ (fun hHeld => ?_)
 clear hK K
 refine norm_ (a' := ?_) ?_ ?_
 rotate_left
 ·show Act.put _ (some 21) _ = _
  simp only [Act.put, List.setIfInBounds_toArray, List.set_cons_zero, List.set_cons_succ, i64_w, i32_w]
  rfl
 refine one_ (i := 7) (N := none) #[true, true, true, true, true, true, true, true, false, false] rfl rfl (one_of HT_.out (by kernel_rfl)) (by decide) (fun K hK => ?_)
 have hs18 : w17.cell? ⟨gb708, 0, none⟩ = some (.int .i64 0) := (blk_cell BK708.out 0).trans rfl
 have hfs18 := blk_frozen BK708.out 0
 have hns18_1 := NB718_708.out
 have hms18_1 := NB708_718.out
 have hs19 : w17.cell? ⟨gb708, 1, none⟩ = some (.int .i64 0) := (blk_cell BK708.out 1).trans rfl
 have hfs19 := blk_frozen BK708.out 1
 have hns19_1 := NB718_708.out
 have hms19_1 := NB708_718.out
 have hs20 : w17.cell? ⟨gb708, 2, none⟩ = some (.int .i64 0) := (blk_cell BK708.out 2).trans rfl
 have hfs20 := blk_frozen BK708.out 2
 have hns20_1 := NB718_708.out
 have hms20_1 := NB708_718.out
 refine skip_ (w1 := ?_) (by rfl) rfl ?_ ?_
 rotate_left
 ·go_simp
  rfl
 refine hK.out _ _ ⟨((cell_far (p := ⟨gb708, _, none⟩) NB718_708.out _).trans (((cell_far (p := ⟨gb708, _, none⟩) NB718_708.out _).trans (((cell_far (p := ⟨gb708, _, none⟩) NB718_708.out _).trans (hHeld.1)))))), ((cell_far (p := ⟨gb708, _, none⟩) NB718_708.out _).trans (((cell_far (p := ⟨gb708, _, none⟩) NB718_708.out _).trans (((cell_far (p := ⟨gb708, _, none⟩) NB718_708.out _).trans (hHeld.2.1)))))), ((cell_far (p := ⟨gb708, _, none⟩) NB718_708.out _).trans (((cell_far (p := ⟨gb708, _, none⟩) NB718_708.out _).trans (((cell_far (p := ⟨gb708, _, none⟩) NB718_708.out _).trans (hHeld.2.2))))))⟩ (fun hHeld => ?_)
 clear hK K
 refine pure_ (i := 8) (N := some 3) (v := ?_) (a' := ?_) #[true, true, true, true, true, true, true, true, true, false] rfl rfl (any_of HT_.out (by kernel_rfl)) (fun _ _ _ h => h) (Or.inl ⟨by rfl, ?_⟩) ?_ ?_
 rotate_left
 ·intro w'
  go_simp
  with_reducible rfl
 rotate_left
 ·simp only [Act.put, List.setIfInBounds_toArray, List.set_cons_zero, List.set_cons_succ, i64_w, i32_w]
  rfl
 refine pure_ (i := 9) (N := some 4) (v := ?_) (a' := ?_) #[true, true, true, true, true, true, true, true, true, true] rfl rfl (any_of HT_.out (by kernel_rfl)) (fun _ _ _ h => h) (Or.inl ⟨by rfl, ?_⟩) ?_ ?_
 rotate_left
 ·intro w'
  go_simp
  with_reducible rfl
 rotate_left
 ·simp only [Act.put, List.setIfInBounds_toArray, List.set_cons_zero, List.set_cons_succ, i64_w, i32_w]
  rfl
 refine done_ (done_of HT_.out (by kernel_rfl)) ?_
 try go_wp2
 try (have hq708_0 : _ = some (.int .i64 t713) := (blk_cell BK708.out 0).trans rfl; have hqf708_0 := blk_frozen BK708.out 0; have hq708_1 : _ = some (.int .i64 t714) := (blk_cell BK708.out 1).trans rfl; have hqf708_1 := blk_frozen BK708.out 1; have hq708_2 : _ = some (.int .i64 t715) := (blk_cell BK708.out 2).trans rfl; have hqf708_2 := blk_frozen BK708.out 2; have hq718_0 : _ = some (.int .i64 t713) := (blk_cell BK718.out 0).trans rfl; have hqf718_0 := blk_frozen BK718.out 0; have hq718_1 : _ = some (.int .i64 t714) := (blk_cell BK718.out 1).trans rfl; have hqf718_1 := blk_frozen BK718.out 1; have hq718_2 : _ = some (.int .i64 t715) := (blk_cell BK718.out 2).trans rfl; have hqf718_2 := blk_frozen BK718.out 2; go_wp2)
 refine bodyPost_ret (results_ctt rfl _ _ gb708 30 #[.int .i64 t713, .int .i64 t714, .int .i64 t715] (0, 0) _ rfl (by (with_reducible repeat (first | refine blk_drewN ?_ _ | refine blk_drew ?_ | refine blk_alloc ?_ _)); refine blk_put (cs := #[.int .i64 t713, .int .i64 t714, .int .i64 0]) ?_ 2 _ rfl; (with_reducible repeat (first | refine blk_drewN ?_ _ | refine blk_drew ?_ | refine blk_alloc ?_ _)); refine blk_put (cs := #[.int .i64 t713, .int .i64 0, .int .i64 0]) ?_ 1 _ rfl; (with_reducible repeat (first | refine blk_drewN ?_ _ | refine blk_drew ?_ | refine blk_alloc ?_ _)); refine blk_put (cs := #[.int .i64 0, .int .i64 0, .int .i64 0]) ?_ 0 _ rfl; (with_reducible repeat (first | refine blk_drewN ?_ _ | refine blk_drew ?_ | refine blk_alloc ?_ _)); exact BK708.out) Try.underlying30 rfl (by kernel_rfl)) rfl ?_
 exact ⟨er_, by repeat (first | (with_reducible first | exact HB.out | apply below_alloc | apply pw_below_drewN | apply below_drew1 | refine below_set ?_ (IsS94.ge HI712.out) | refine below_set ?_ GE708.out | refine below_set ?_ GE718.out) | exact HB.out)⟩

end Go.Proofs.Ytpaecckpdaiogaa.Q
