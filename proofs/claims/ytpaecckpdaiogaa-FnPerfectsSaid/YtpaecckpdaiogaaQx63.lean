/- Plain Lean functions of Go functions, and for each the proof that its call comes to just that answer. Conditions: in each theorem's statement. -/
import Derived.Test.YtpaecckpdaiogaaQx0
import Derived.Test.YtpaecckpdaiogaaQx5
import Derived.Test.YtpaecckpdaiogaaQx6
import Derived.Test.YtpaecckpdaiogaaQx55
import Derived.Test.YtpaecckpdaiogaaQx58
import Derived.Test.YtpaecckpdaiogaaQx61
import Derived.Test.YtpaecckpdaiogaaQx62
namespace Go.Proofs.Ytpaecckpdaiogaa.Q
open Go.RowKit Go.Proofs.YtpaecckpdaiogaaW.PrintWords Go.Proofs.YtpaecckpdaiogaaW.PrintLast
attribute [local go_sem] max2_int min2_int max_two min_two   -- for this text's walks alone
set_option linter.unusedVariables false
set_option linter.unusedSimpArgs false

/-! ### spec_DrawMaze: function 39 -/
def spec_DrawMaze.f (k : Nat) (l0 : List Int) : Option (Int × Int × Int) := (spec_l01New.f k l0).bind fun bt648 => ((spec_l03Maze.f k bt648.1 bt648.2.1 bt648.2.2).bind fun bt652 => (some (bt652.1, bt652.2.1, bt652.2.2.1)))
theorem spec_DrawMaze.mono : ∀ a0 k, LeO (spec_DrawMaze.f k a0) (spec_DrawMaze.f (k + 1) a0) := by
 intro a0 k
 unfold spec_DrawMaze.f
 repeat' first
   | (with_reducible exact spec_l01New.mono _ _)
   | (with_reducible exact spec_l03Maze.mono _ _ _ _)
   | (with_reducible exact LeO.refl _)
   | (with_reducible exact LeO.none _)
   | (with_reducible refine LeO.ite ?_ ?_)
   | (with_reducible refine LeO.bind ?_ (fun _ => ?_))
   | exact spec_l01New.mono _ _
   | exact spec_l03Maze.mono _ _ _ _
   | exact LeO.none _
   | refine LeO.ite ?_ ?_
   | refine LeO.bind ?_ (fun _ => ?_)
set_option maxHeartbeats 8000000 in
set_option maxRecDepth 100000 in
theorem spec_DrawMaze.calls (k : Nat) (A0 : Option Addr) (c0 : Nat) (l0 : List Int) (r1 : Int) (r2 : Int) (r3 : Int) (w : World) (hr0 : Kd.C (Kd.int .u8) w A0 l0.length l0) (hc0 : l0.length ≤ c0) (h : spec_DrawMaze.f k l0 = some (r1, r2, r3)) :
  Calls Try.prog 39 #[.slice A0 l0.length c0] w fun e w' => e = .returned (.agg #[.int .i64 r1, .int .i64 r2, .int .i64 r3]) ∧ Below w.heap.size w w' := by
 have hu30 := Try.underlying30
 have HR0 := Aside0.mk hr0
 have HC0 := Aside0.mk hc0
 clear hr0 hc0
 have HB := Aside0.mk (Below.refl w.heap.size w)
 have H : ((spec_l01New.f k l0).bind fun bt648 => ((spec_l03Maze.f k bt648.1 bt648.2.1 bt648.2.2).bind fun bt652 => (some (bt652.1, bt652.2.1, bt652.2.2.1)))) = some (r1, r2, r3) := h
 clear h
 replace H := Option.bind_eq_some_iff.mp H
 obtain ⟨⟨t648, t649, t650⟩, A20, H⟩ := H
 replace H : ((spec_l03Maze.f k t648 t649 t650).bind fun bt652 => (some (bt652.1, bt652.2.1, bt652.2.2.1))) = some (r1, r2, r3) := H
 have A2 := Aside0.mk A20
 clear A20
 replace H := Option.bind_eq_some_iff.mp H
 obtain ⟨⟨t652, t653, t654, t655, t656⟩, A30, H⟩ := H
 replace H : (some (t652, t653, t654)) = some (r1, r2, r3) := H
 have A3 := Aside0.mk A30
 clear A30
 simp only [Option.some.injEq, Prod.mk.injEq] at H
 obtain ⟨rfl, rfl, rfl⟩ := H
 go_enter Try.func39, Try.ntmps39
 go_wp2_with (first | ((with_reducible refine gate_dst (N := 2) rfl ?_); refine box_event ?hg (N := 2) ?hd (cs := #[.int .i64 0, .int .i64 0, .int .i64 0]) (t := 30) ?hr ?_; (case hd => rfl); (case hg => rfl); (case hr => first | (go_simp; done) | (go_simp; rfl)); intro gb647 hg w4 hbox hb; have n0_ := Aside0.mk (below_step hb_ hb); have n1_ := Aside0.mk (hbox); have n2_ := Aside0.mk ((by rw [hg]; exact (below_size hb_) : w.heap.size ≤ gb647)); have n3_ := Aside0.mk ((by rw [hg]; exact (below_size hb_) : w.heap.size ≤ gb647)); clear HB; have HB := n0_; have BK647 := n1_; have GW647 := n2_; have GE647 := n3_; clear n0_ n1_ n2_ n3_; clear hb hbox hg) | ((with_reducible refine gate_callee (f := 94) rfl ?_); refine goesL_ (some 4) rfl rfl Try.func94 (by kernel_rfl) rfl #[.slice A0 l0.length c0] rfl mp_ ?_; (with_reducible refine (spec_l01New.calls k _ _ l0 t648 t649 t650 w _ ?side1 ?side2 ?side3 A2.out).mono ?_); (case side1 => repeat (first | (with_reducible first | exact HB.out | apply below_alloc | apply pw_below_drewN | apply below_drew1 | refine below_set ?_ GE647.out) | exact HB.out)); (case side2 => exact HR0.out); (case side3 => exact HC0.out); rintro e w5 ⟨g651, rfl, hi, hb, hb2⟩; refine ⟨_, rfl, ?_⟩; have n0_ := Aside0.mk (blk_below (g := gb647) (o := .cells #[.int .i64 0, .int .i64 0, .int .i64 0] 30 (0, 0)) (kb_ BK647.out) hb2); have n1_ := Aside0.mk (hb); have n2_ := Aside0.mk (hi); have n3_ := Aside0.mk (IsS94.ne_blk hi (blk_below (g := gb647) (o := .cells #[.int .i64 0, .int .i64 0, .int .i64 0] 30 (0, 0)) (kb_ BK647.out) hb2) (by decide)); have n4_ := Aside0.mk (Ne.symm (IsS94.ne_blk hi (blk_below (g := gb647) (o := .cells #[.int .i64 0, .int .i64 0, .int .i64 0] 30 (0, 0)) (kb_ BK647.out) hb2) (by decide))); clear BK647; clear HB; have BK647 := n0_; have HB := n1_; have HI651 := n2_; have NB651_647 := n3_; have NB647_651 := n4_; clear n0_ n1_ n2_ n3_ n4_; (try clear hb); (try clear hb2); (try clear hk); (try clear hi)) | ((with_reducible refine gate_callee (f := 93) rfl ?_); refine goesL_ (some 5) rfl rfl Try.func93 (by kernel_rfl) rfl #[.pointer (some ⟨g651, 0, none⟩)] rfl mp_ ?_; (with_reducible refine (spec_l03Maze.calls k g651 t648 t649 t650 t652 t653 t654 t655 t656 w _ ?side1 ?side2 A3.out).mono ?_); (case side1 => repeat (first | (with_reducible first | exact HI651.out | apply IsS94.alloc | apply IsS94.drewN | apply IsS94.drew | apply IsS94.set_1 | apply IsS94.set_2 | refine IsS94.far ?_ NB651_647.out _) | exact HI651.out)); (case side2 => repeat (first | (with_reducible first | exact HB.out | apply below_alloc | apply pw_below_drewN | apply below_drew1 | refine below_set ?_ (IsS94.ge HI651.out) | refine below_set ?_ GE647.out) | exact HB.out)); rintro e w6 ⟨rfl, hi, hb, hk⟩; refine ⟨_, rfl, ?_⟩; have n0_ := Aside0.mk (KeepBut.blk hk (g' := gb647) (o := .cells #[.int .i64 0, .int .i64 0, .int .i64 0] 30 (0, 0)) (kb_ BK647.out) NB647_651.out (by simp)); have n1_ := Aside0.mk (hb); have n2_ := Aside0.mk (hi); clear BK647; clear HB; clear HI651; have BK647 := n0_; have HB := n1_; have HI651 := n2_; clear n0_ n1_ n2_; (try clear hb); (try clear hb2); (try clear hk); (try clear hi); have hnb7 := NB647_651.out; have hnc7 := NB651_647.out; have hcz8_0 := cz_ (.int .i64 0) BK647.out 0; have hcz8_1 := cz_ (.int .i64 0) BK647.out 1; have hcz8_2 := cz_ (.int .i64 0) BK647.out 2; have hfz8_0 := blk_frozen BK647.out 0; have hfz8_1 := blk_frozen BK647.out 1; have hfz8_2 := blk_frozen BK647.out 2))
 try (have hq647_0 : _ = some (.int .i64 t652) := (blk_cell BK647.out 0).trans rfl; have hqf647_0 := blk_frozen BK647.out 0; have hq647_1 : _ = some (.int .i64 t653) := (blk_cell BK647.out 1).trans rfl; have hqf647_1 := blk_frozen BK647.out 1; have hq647_2 : _ = some (.int .i64 t654) := (blk_cell BK647.out 2).trans rfl; have hqf647_2 := blk_frozen BK647.out 2; go_wp2)
 refine bodyPost_ret (results_cell_row rfl _ _ gb647 30 #[.int .i64 t652, .int .i64 t653, .int .i64 t654] (0, 0) _ rfl (by (with_reducible repeat (first | refine blk_drewN ?_ _ | refine blk_drew ?_ | refine blk_alloc ?_ _)); refine blk_put (cs := #[.int .i64 t652, .int .i64 t653, .int .i64 0]) ?_ 2 _ rfl; (with_reducible repeat (first | refine blk_drewN ?_ _ | refine blk_drew ?_ | refine blk_alloc ?_ _)); refine blk_put (cs := #[.int .i64 t652, .int .i64 0, .int .i64 0]) ?_ 1 _ rfl; (with_reducible repeat (first | refine blk_drewN ?_ _ | refine blk_drew ?_ | refine blk_alloc ?_ _)); refine blk_put (cs := #[.int .i64 0, .int .i64 0, .int .i64 0]) ?_ 0 _ rfl; (with_reducible repeat (first | refine blk_drewN ?_ _ | refine blk_drew ?_ | refine blk_alloc ?_ _)); exact BK647.out) Try.underlying30 rfl (by kernel_rfl)) rfl ?_
 exact ⟨er_, by repeat (first | (with_reducible first | exact HB.out | apply below_alloc | apply pw_below_drewN | apply below_drew1 | refine below_set ?_ (IsS94.ge HI651.out) | refine below_set ?_ GE647.out) | exact HB.out)⟩

/-! ### impl_IsPassage: function 46 -/
def impl_IsPassage.f (a0_0 : Int) (a0_1 : Int) (a0_2 : Int) (a1 : Int) : Option (Bool) := (impl_MazeOk.f a0_0 a0_1 a0_2).bind fun t659 => (if t659 = true then ((impl_isGap.f a0_0 a0_1 a1).bind fun t660 => (if t660 = true then ((impl_isOpen.f a0_0 a0_1 a0_2 a1).bind fun t661 => (some t661)) else (some false))) else (some false))
set_option maxHeartbeats 8000000 in
set_option maxRecDepth 100000 in
theorem impl_IsPassage.calls (a0_0 : Int) (a0_1 : Int) (a0_2 : Int) (a1 : Int) (r : Bool) (w : World) (h : impl_IsPassage.f a0_0 a0_1 a0_2 a1 = some r) :
  Calls Try.prog 46 #[.agg #[.int .i64 a0_0, .int .i64 a0_1, .int .i64 a0_2], .int .i64 a1] w fun e w' => e = .returned (.bool r) ∧ Below w.heap.size w w' := by
 have hu30 := Try.underlying30
 have hu28 := Try.underlying28
 have HB := Aside0.mk (Below.refl w.heap.size w)
 have H : ((impl_MazeOk.f a0_0 a0_1 a0_2).bind fun t659 => (if t659 = true then ((impl_isGap.f a0_0 a0_1 a1).bind fun t660 => (if t660 = true then ((impl_isOpen.f a0_0 a0_1 a0_2 a1).bind fun t661 => (some t661)) else (some false))) else (some false))) = some r := h
 clear h
 replace H := Option.bind_eq_some_iff.mp H
 obtain ⟨t659, A30, H⟩ := H
 replace H : (if t659 = true then ((impl_isGap.f a0_0 a0_1 a1).bind fun t660 => (if t660 = true then ((impl_isOpen.f a0_0 a0_1 a0_2 a1).bind fun t661 => (some t661)) else (some false))) else (some false)) = some r := H
 have A3 := Aside0.mk A30
 clear A30
 by_cases c4 : t659 = true
 ·subst c4
  have H1 : ((impl_isGap.f a0_0 a0_1 a1).bind fun t660 => (if t660 = true then ((impl_isOpen.f a0_0 a0_1 a0_2 a1).bind fun t661 => (some t661)) else (some false))) = some r := by rw [if_pos rfl] at H; exact H
  clear H
  have H := H1
  clear H1
  replace H := Option.bind_eq_some_iff.mp H
  obtain ⟨t660, A50, H⟩ := H
  replace H : (if t660 = true then ((impl_isOpen.f a0_0 a0_1 a0_2 a1).bind fun t661 => (some t661)) else (some false)) = some r := H
  have A5 := Aside0.mk A50
  clear A50
  by_cases c6 : t660 = true
  ·subst c6
   have H1 : ((impl_isOpen.f a0_0 a0_1 a0_2 a1).bind fun t661 => (some t661)) = some r := by rw [if_pos rfl] at H; exact H
   clear H
   have H := H1
   clear H1
   replace H := Option.bind_eq_some_iff.mp H
   obtain ⟨t661, A70, H⟩ := H
   replace H : (some t661) = some r := H
   have A7 := Aside0.mk A70
   clear A70
   obtain rfl := Option.some.inj H
   go_enter Try.func46, Try.ntmps46
   go_wp2_with (first | ((with_reducible refine gate_dst (N := 2) rfl ?_); refine box_event ?hg (N := 2) ?hd (cs := #[.int .i64 a0_0, .int .i64 a0_1, .int .i64 a0_2]) (t := 30) ?hr ?_; (case hd => rfl); (case hg => rfl); (case hr => first | (go_simp; done) | (go_simp; rfl)); intro gb658 hg w8 hbox hb; have n0_ := Aside0.mk (below_step hb_ hb); have n1_ := Aside0.mk (hbox); have n2_ := Aside0.mk ((by rw [hg]; exact (below_size hb_) : w.heap.size ≤ gb658)); have n3_ := Aside0.mk ((by rw [hg]; exact (below_size hb_) : w.heap.size ≤ gb658)); clear HB; have HB := n0_; have BK658 := n1_; have GW658 := n2_; have GE658 := n3_; clear n0_ n1_ n2_ n3_; clear hb hbox hg; have hcz9_0 := cz_ (.int .i64 a0_0) BK658.out 0; have hcz9_1 := cz_ (.int .i64 a0_1) BK658.out 1; have hcz9_2 := cz_ (.int .i64 a0_2) BK658.out 2; have hfz9_0 := blk_frozen BK658.out 0; have hfz9_1 := blk_frozen BK658.out 1; have hfz9_2 := blk_frozen BK658.out 2) | ((with_reducible refine gate_callee (f := 87) rfl ?_); refine goesL_ (some 6) rfl rfl Try.func87 (by kernel_rfl) rfl #[.agg #[.int .i64 a0_0, .int .i64 a0_1, .int .i64 a0_2]] rfl mp_ ?_; (with_reducible refine (impl_MazeOk.calls a0_0 a0_1 a0_2 true _ A3.out).mono ?_); rintro e w10 ⟨rfl, hb⟩; refine ⟨_, rfl, ?_⟩; have n0_ := Aside0.mk (blk_below (g := gb658) (o := .cells #[.int .i64 a0_0, .int .i64 a0_1, .int .i64 a0_2] 30 (0, 0)) (kb_ BK658.out) hb); have n1_ := Aside0.mk (below_step hb_ hb); clear BK658; clear HB; have BK658 := n0_; have HB := n1_; clear n0_ n1_; (try clear hb); (try clear hb2); (try clear hk); (try clear hi); have hcz11_0 := cz_ (.int .i64 a0_0) BK658.out 0; have hcz11_1 := cz_ (.int .i64 a0_1) BK658.out 1; have hcz11_2 := cz_ (.int .i64 a0_2) BK658.out 2; have hfz11_0 := blk_frozen BK658.out 0; have hfz11_1 := blk_frozen BK658.out 1; have hfz11_2 := blk_frozen BK658.out 2) | (go_at_call 99; (with_reducible refine (impl_isGap.calls a0_0 a0_1 a1 true _ A5.out).mono ?_); rintro e w12 ⟨rfl, hb⟩; have n0_ := Aside0.mk (blk_below (g := gb658) (o := .cells #[.int .i64 a0_0, .int .i64 a0_1, .int .i64 a0_2] 30 (0, 0)) (kb_ BK658.out) hb); have n1_ := Aside0.mk (below_step hb_ hb); clear BK658; clear HB; have BK658 := n0_; have HB := n1_; clear n0_ n1_; (try clear hb); (try clear hb2); (try clear hk); (try clear hi); have hcz13_0 := cz_ (.int .i64 a0_0) BK658.out 0; have hcz13_1 := cz_ (.int .i64 a0_1) BK658.out 1; have hcz13_2 := cz_ (.int .i64 a0_2) BK658.out 2; have hfz13_0 := blk_frozen BK658.out 0; have hfz13_1 := blk_frozen BK658.out 1; have hfz13_2 := blk_frozen BK658.out 2) | (go_at_call 95; (with_reducible refine (impl_isOpen.calls a0_0 a0_1 a0_2 a1 t661 _ A7.out).mono ?_); rintro e w14 ⟨rfl, hb⟩; have n0_ := Aside0.mk (blk_below (g := gb658) (o := .cells #[.int .i64 a0_0, .int .i64 a0_1, .int .i64 a0_2] 30 (0, 0)) (kb_ BK658.out) hb); have n1_ := Aside0.mk (below_step hb_ hb); clear BK658; clear HB; have BK658 := n0_; have HB := n1_; clear n0_ n1_; (try clear hb); (try clear hb2); (try clear hk); (try clear hi)))
   go_ret
   exact ⟨er_, hb_⟩
  ·replace c6 := Bool.eq_false_iff.mpr c6
   subst c6
   have H1 : (some false) = some r := by rw [if_neg (show ¬ (false = true) by decide)] at H; exact H
   clear H
   have H := H1
   clear H1
   obtain rfl := Option.some.inj H
   go_enter Try.func46, Try.ntmps46
   go_wp2_with (first | ((with_reducible refine gate_dst (N := 2) rfl ?_); refine box_event ?hg (N := 2) ?hd (cs := #[.int .i64 a0_0, .int .i64 a0_1, .int .i64 a0_2]) (t := 30) ?hr ?_; (case hd => rfl); (case hg => rfl); (case hr => first | (go_simp; done) | (go_simp; rfl)); intro gb658 hg w15 hbox hb; have n0_ := Aside0.mk (below_step hb_ hb); have n1_ := Aside0.mk (hbox); have n2_ := Aside0.mk ((by rw [hg]; exact (below_size hb_) : w.heap.size ≤ gb658)); have n3_ := Aside0.mk ((by rw [hg]; exact (below_size hb_) : w.heap.size ≤ gb658)); clear HB; have HB := n0_; have BK658 := n1_; have GW658 := n2_; have GE658 := n3_; clear n0_ n1_ n2_ n3_; clear hb hbox hg; have hcz16_0 := cz_ (.int .i64 a0_0) BK658.out 0; have hcz16_1 := cz_ (.int .i64 a0_1) BK658.out 1; have hcz16_2 := cz_ (.int .i64 a0_2) BK658.out 2; have hfz16_0 := blk_frozen BK658.out 0; have hfz16_1 := blk_frozen BK658.out 1; have hfz16_2 := blk_frozen BK658.out 2) | ((with_reducible refine gate_callee (f := 87) rfl ?_); refine goesL_ (some 6) rfl rfl Try.func87 (by kernel_rfl) rfl #[.agg #[.int .i64 a0_0, .int .i64 a0_1, .int .i64 a0_2]] rfl mp_ ?_; (with_reducible refine (impl_MazeOk.calls a0_0 a0_1 a0_2 true _ A3.out).mono ?_); rintro e w17 ⟨rfl, hb⟩; refine ⟨_, rfl, ?_⟩; have n0_ := Aside0.mk (blk_below (g := gb658) (o := .cells #[.int .i64 a0_0, .int .i64 a0_1, .int .i64 a0_2] 30 (0, 0)) (kb_ BK658.out) hb); have n1_ := Aside0.mk (below_step hb_ hb); clear BK658; clear HB; have BK658 := n0_; have HB := n1_; clear n0_ n1_; (try clear hb); (try clear hb2); (try clear hk); (try clear hi); have hcz18_0 := cz_ (.int .i64 a0_0) BK658.out 0; have hcz18_1 := cz_ (.int .i64 a0_1) BK658.out 1; have hcz18_2 := cz_ (.int .i64 a0_2) BK658.out 2; have hfz18_0 := blk_frozen BK658.out 0; have hfz18_1 := blk_frozen BK658.out 1; have hfz18_2 := blk_frozen BK658.out 2) | (go_at_call 99; (with_reducible refine (impl_isGap.calls a0_0 a0_1 a1 false _ A5.out).mono ?_); rintro e w19 ⟨rfl, hb⟩; have n0_ := Aside0.mk (blk_below (g := gb658) (o := .cells #[.int .i64 a0_0, .int .i64 a0_1, .int .i64 a0_2] 30 (0, 0)) (kb_ BK658.out) hb); have n1_ := Aside0.mk (below_step hb_ hb); clear BK658; clear HB; have BK658 := n0_; have HB := n1_; clear n0_ n1_; (try clear hb); (try clear hb2); (try clear hk); (try clear hi)))
   go_ret
   exact ⟨er_, hb_⟩
 ·replace c4 := Bool.eq_false_iff.mpr c4
  subst c4
  have H1 : (some false) = some r := by rw [if_neg (show ¬ (false = true) by decide)] at H; exact H
  clear H
  have H := H1
  clear H1
  obtain rfl := Option.some.inj H
  go_enter Try.func46, Try.ntmps46
  go_wp2_with (first | ((with_reducible refine gate_dst (N := 2) rfl ?_); refine box_event ?hg (N := 2) ?hd (cs := #[.int .i64 a0_0, .int .i64 a0_1, .int .i64 a0_2]) (t := 30) ?hr ?_; (case hd => rfl); (case hg => rfl); (case hr => first | (go_simp; done) | (go_simp; rfl)); intro gb658 hg w20 hbox hb; have n0_ := Aside0.mk (below_step hb_ hb); have n1_ := Aside0.mk (hbox); have n2_ := Aside0.mk ((by rw [hg]; exact (below_size hb_) : w.heap.size ≤ gb658)); have n3_ := Aside0.mk ((by rw [hg]; exact (below_size hb_) : w.heap.size ≤ gb658)); clear HB; have HB := n0_; have BK658 := n1_; have GW658 := n2_; have GE658 := n3_; clear n0_ n1_ n2_ n3_; clear hb hbox hg; have hcz21_0 := cz_ (.int .i64 a0_0) BK658.out 0; have hcz21_1 := cz_ (.int .i64 a0_1) BK658.out 1; have hcz21_2 := cz_ (.int .i64 a0_2) BK658.out 2; have hfz21_0 := blk_frozen BK658.out 0; have hfz21_1 := blk_frozen BK658.out 1; have hfz21_2 := blk_frozen BK658.out 2) | ((with_reducible refine gate_callee (f := 87) rfl ?_); refine goesL_ (some 6) rfl rfl Try.func87 (by kernel_rfl) rfl #[.agg #[.int .i64 a0_0, .int .i64 a0_1, .int .i64 a0_2]] rfl mp_ ?_; (with_reducible refine (impl_MazeOk.calls a0_0 a0_1 a0_2 false _ A3.out).mono ?_); rintro e w22 ⟨rfl, hb⟩; refine ⟨_, rfl, ?_⟩; have n0_ := Aside0.mk (blk_below (g := gb658) (o := .cells #[.int .i64 a0_0, .int .i64 a0_1, .int .i64 a0_2] 30 (0, 0)) (kb_ BK658.out) hb); have n1_ := Aside0.mk (below_step hb_ hb); clear BK658; clear HB; have BK658 := n0_; have HB := n1_; clear n0_ n1_; (try clear hb); (try clear hb2); (try clear hk); (try clear hi)))
  go_ret
  exact ⟨er_, hb_⟩

end Go.Proofs.Ytpaecckpdaiogaa.Q
