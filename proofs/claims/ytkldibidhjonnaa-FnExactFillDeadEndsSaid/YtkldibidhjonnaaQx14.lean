/- Plain Lean functions of Go functions, and for each the proof that its call comes to just that answer. Conditions: in each theorem's statement. -/
import Derived.Test.YtkldibidhjonnaaQx0
import Derived.Test.YtkldibidhjonnaaQx1
import Derived.Test.YtkldibidhjonnaaQx12
import Derived.Test.YtkldibidhjonnaaQx13
namespace Go.Proofs.Ytkldibidhjonnaa.Q
open Go.RowKit Go.Proofs.YtkldibidhjonnaaW.PrintWords Go.Proofs.YtkldibidhjonnaaW.PrintLast
attribute [local go_sem] max2_int min2_int max_two min_two   -- for this text's walks alone
set_option linter.unusedVariables false
set_option linter.unusedSimpArgs false

/-! ### spec_IsPassage: function 72 -/
def spec_IsPassage.f (a0_0 : Int) (a0_1 : Int) (a0_2 : Int) (a1 : Int) : Option (Bool) := (spec_MazeOk.f a0_0 a0_1 a0_2).bind fun t127 => (if t127 = true then ((spec_CountGaps.f a0_0 a0_1).bind fun t128 => ((spec_l01In.f a1 0 (wrap64 (t128 - 1))).bind fun t129 => (if t129 = true then ((spec_l03Bit.f a0_2 a1).bind fun t130 => (some t130)) else (some false)))) else (some false))
set_option maxHeartbeats 8000000 in
set_option maxRecDepth 100000 in
theorem spec_IsPassage.calls (a0_0 : Int) (a0_1 : Int) (a0_2 : Int) (a1 : Int) (r : Bool) (w : World) (h : spec_IsPassage.f a0_0 a0_1 a0_2 a1 = some r) :
  Calls Try.prog 72 #[.agg #[.int .i64 a0_0, .int .i64 a0_1, .int .i64 a0_2], .int .i64 a1] w fun e w' => e = .returned (.bool r) ∧ Below w.heap.size w w' := by
 have hu29 := Try.underlying29
 have hu27 := Try.underlying27
 have HB := Aside0.mk (Below.refl w.heap.size w)
 have H : ((spec_MazeOk.f a0_0 a0_1 a0_2).bind fun t127 => (if t127 = true then ((spec_CountGaps.f a0_0 a0_1).bind fun t128 => ((spec_l01In.f a1 0 (wrap64 (t128 - 1))).bind fun t129 => (if t129 = true then ((spec_l03Bit.f a0_2 a1).bind fun t130 => (some t130)) else (some false)))) else (some false))) = some r := h
 clear h
 replace H := Option.bind_eq_some_iff.mp H
 obtain ⟨t127, A30, H⟩ := H
 replace H : (if t127 = true then ((spec_CountGaps.f a0_0 a0_1).bind fun t128 => ((spec_l01In.f a1 0 (wrap64 (t128 - 1))).bind fun t129 => (if t129 = true then ((spec_l03Bit.f a0_2 a1).bind fun t130 => (some t130)) else (some false)))) else (some false)) = some r := H
 have A3 := Aside0.mk A30
 clear A30
 by_cases c4 : t127 = true
 ·subst c4
  have H1 : ((spec_CountGaps.f a0_0 a0_1).bind fun t128 => ((spec_l01In.f a1 0 (wrap64 (t128 - 1))).bind fun t129 => (if t129 = true then ((spec_l03Bit.f a0_2 a1).bind fun t130 => (some t130)) else (some false)))) = some r := by rw [if_pos rfl] at H; exact H
  clear H
  have H := H1
  clear H1
  replace H := Option.bind_eq_some_iff.mp H
  obtain ⟨t128, A50, H⟩ := H
  replace H : ((spec_l01In.f a1 0 (wrap64 (t128 - 1))).bind fun t129 => (if t129 = true then ((spec_l03Bit.f a0_2 a1).bind fun t130 => (some t130)) else (some false))) = some r := H
  have A5 := Aside0.mk A50
  clear A50
  replace H := Option.bind_eq_some_iff.mp H
  obtain ⟨t129, A60, H⟩ := H
  replace H : (if t129 = true then ((spec_l03Bit.f a0_2 a1).bind fun t130 => (some t130)) else (some false)) = some r := H
  have A6 := Aside0.mk A60
  clear A60
  by_cases c7 : t129 = true
  ·subst c7
   have H1 : ((spec_l03Bit.f a0_2 a1).bind fun t130 => (some t130)) = some r := by rw [if_pos rfl] at H; exact H
   clear H
   have H := H1
   clear H1
   replace H := Option.bind_eq_some_iff.mp H
   obtain ⟨t130, A80, H⟩ := H
   replace H : (some t130) = some r := H
   have A8 := Aside0.mk A80
   clear A80
   obtain rfl := Option.some.inj H
   go_enter Try.func72, Try.ntmps72
   go_wp2_with (first | ((with_reducible refine gate_dst (N := 2) rfl ?_); refine box_event ?hg (N := 2) ?hd (cs := #[.int .i64 a0_0, .int .i64 a0_1, .int .i64 a0_2]) (t := 29) ?hr ?_; (case hd => rfl); (case hg => rfl); (case hr => first | (go_simp; done) | (go_simp; rfl)); intro gb126 hg w9 hbox hb; have n0_ := Aside0.mk (below_step hb_ hb); have n1_ := Aside0.mk (hbox); have n2_ := Aside0.mk ((by rw [hg]; exact (below_size hb_) : w.heap.size ≤ gb126)); have n3_ := Aside0.mk ((by rw [hg]; exact (below_size hb_) : w.heap.size ≤ gb126)); clear HB; have HB := n0_; have BK126 := n1_; have GW126 := n2_; have GE126 := n3_; clear n0_ n1_ n2_ n3_; clear hb hbox hg; have hcz10_0 := cz_ (.int .i64 a0_0) BK126.out 0; have hcz10_1 := cz_ (.int .i64 a0_1) BK126.out 1; have hcz10_2 := cz_ (.int .i64 a0_2) BK126.out 2; have hfz10_0 := blk_frozen BK126.out 0; have hfz10_1 := blk_frozen BK126.out 1; have hfz10_2 := blk_frozen BK126.out 2) | ((with_reducible refine gate_callee (f := 48) rfl ?_); refine goesL_ (some 6) rfl rfl Try.func48 (by kernel_rfl) rfl #[.agg #[.int .i64 a0_0, .int .i64 a0_1, .int .i64 a0_2]] rfl mp_ ?_; (with_reducible refine (spec_MazeOk.calls a0_0 a0_1 a0_2 true _ A3.out).mono ?_); rintro e w11 ⟨rfl, hb⟩; refine ⟨_, rfl, ?_⟩; have n0_ := Aside0.mk (blk_below (g := gb126) (o := .cells #[.int .i64 a0_0, .int .i64 a0_1, .int .i64 a0_2] 29 (0, 0)) (kb_ BK126.out) hb); have n1_ := Aside0.mk (below_step hb_ hb); clear BK126; clear HB; have BK126 := n0_; have HB := n1_; clear n0_ n1_; (try clear hb); (try clear hb2); (try clear hk); (try clear hi); have hcz12_0 := cz_ (.int .i64 a0_0) BK126.out 0; have hcz12_1 := cz_ (.int .i64 a0_1) BK126.out 1; have hcz12_2 := cz_ (.int .i64 a0_2) BK126.out 2; have hfz12_0 := blk_frozen BK126.out 0; have hfz12_1 := blk_frozen BK126.out 1; have hfz12_2 := blk_frozen BK126.out 2) | (go_at_call 50; (with_reducible refine (spec_CountGaps.calls a0_0 a0_1 t128 _ A5.out).mono ?_); rintro e w13 ⟨rfl, hb⟩; have n0_ := Aside0.mk (blk_below (g := gb126) (o := .cells #[.int .i64 a0_0, .int .i64 a0_1, .int .i64 a0_2] 29 (0, 0)) (kb_ BK126.out) hb); have n1_ := Aside0.mk (below_step hb_ hb); clear BK126; clear HB; have BK126 := n0_; have HB := n1_; clear n0_ n1_; (try clear hb); (try clear hb2); (try clear hk); (try clear hi)) | (go_at_call 49; (with_reducible refine (spec_l01In.calls a1 0 (wrap64 (t128 - 1)) true _ A6.out).mono ?_); rintro e w' ⟨rfl, ⟨nd, rfl⟩⟩; have hcz14_0 := cz_ (.int .i64 a0_0) BK126.out 0; have hcz14_1 := cz_ (.int .i64 a0_1) BK126.out 1; have hcz14_2 := cz_ (.int .i64 a0_2) BK126.out 2; have hfz14_0 := blk_frozen BK126.out 0; have hfz14_1 := blk_frozen BK126.out 1; have hfz14_2 := blk_frozen BK126.out 2) | (go_at_call 51; (with_reducible refine (spec_l03Bit.calls a0_2 a1 t130 _ A8.out).mono ?_); rintro e w' ⟨rfl, ⟨nd, rfl⟩⟩))
   go_ret
   exact ⟨er_, hb_⟩
  ·replace c7 := Bool.eq_false_iff.mpr c7
   subst c7
   have H1 : (some false) = some r := by rw [if_neg (show ¬ (false = true) by decide)] at H; exact H
   clear H
   have H := H1
   clear H1
   obtain rfl := Option.some.inj H
   go_enter Try.func72, Try.ntmps72
   go_wp2_with (first | ((with_reducible refine gate_dst (N := 2) rfl ?_); refine box_event ?hg (N := 2) ?hd (cs := #[.int .i64 a0_0, .int .i64 a0_1, .int .i64 a0_2]) (t := 29) ?hr ?_; (case hd => rfl); (case hg => rfl); (case hr => first | (go_simp; done) | (go_simp; rfl)); intro gb126 hg w15 hbox hb; have n0_ := Aside0.mk (below_step hb_ hb); have n1_ := Aside0.mk (hbox); have n2_ := Aside0.mk ((by rw [hg]; exact (below_size hb_) : w.heap.size ≤ gb126)); have n3_ := Aside0.mk ((by rw [hg]; exact (below_size hb_) : w.heap.size ≤ gb126)); clear HB; have HB := n0_; have BK126 := n1_; have GW126 := n2_; have GE126 := n3_; clear n0_ n1_ n2_ n3_; clear hb hbox hg; have hcz16_0 := cz_ (.int .i64 a0_0) BK126.out 0; have hcz16_1 := cz_ (.int .i64 a0_1) BK126.out 1; have hcz16_2 := cz_ (.int .i64 a0_2) BK126.out 2; have hfz16_0 := blk_frozen BK126.out 0; have hfz16_1 := blk_frozen BK126.out 1; have hfz16_2 := blk_frozen BK126.out 2) | ((with_reducible refine gate_callee (f := 48) rfl ?_); refine goesL_ (some 6) rfl rfl Try.func48 (by kernel_rfl) rfl #[.agg #[.int .i64 a0_0, .int .i64 a0_1, .int .i64 a0_2]] rfl mp_ ?_; (with_reducible refine (spec_MazeOk.calls a0_0 a0_1 a0_2 true _ A3.out).mono ?_); rintro e w17 ⟨rfl, hb⟩; refine ⟨_, rfl, ?_⟩; have n0_ := Aside0.mk (blk_below (g := gb126) (o := .cells #[.int .i64 a0_0, .int .i64 a0_1, .int .i64 a0_2] 29 (0, 0)) (kb_ BK126.out) hb); have n1_ := Aside0.mk (below_step hb_ hb); clear BK126; clear HB; have BK126 := n0_; have HB := n1_; clear n0_ n1_; (try clear hb); (try clear hb2); (try clear hk); (try clear hi); have hcz18_0 := cz_ (.int .i64 a0_0) BK126.out 0; have hcz18_1 := cz_ (.int .i64 a0_1) BK126.out 1; have hcz18_2 := cz_ (.int .i64 a0_2) BK126.out 2; have hfz18_0 := blk_frozen BK126.out 0; have hfz18_1 := blk_frozen BK126.out 1; have hfz18_2 := blk_frozen BK126.out 2) | (go_at_call 50; (with_reducible refine (spec_CountGaps.calls a0_0 a0_1 t128 _ A5.out).mono ?_); rintro e w19 ⟨rfl, hb⟩; have n0_ := Aside0.mk (blk_below (g := gb126) (o := .cells #[.int .i64 a0_0, .int .i64 a0_1, .int .i64 a0_2] 29 (0, 0)) (kb_ BK126.out) hb); have n1_ := Aside0.mk (below_step hb_ hb); clear BK126; clear HB; have BK126 := n0_; have HB := n1_; clear n0_ n1_; (try clear hb); (try clear hb2); (try clear hk); (try clear hi)) | (go_at_call 49; (with_reducible refine (spec_l01In.calls a1 0 (wrap64 (t128 - 1)) false _ A6.out).mono ?_); rintro e w' ⟨rfl, ⟨nd, rfl⟩⟩))
   go_ret
   exact ⟨er_, hb_⟩
 ·replace c4 := Bool.eq_false_iff.mpr c4
  subst c4
  have H1 : (some false) = some r := by rw [if_neg (show ¬ (false = true) by decide)] at H; exact H
  clear H
  have H := H1
  clear H1
  obtain rfl := Option.some.inj H
  go_enter Try.func72, Try.ntmps72
  go_wp2_with (first | ((with_reducible refine gate_dst (N := 2) rfl ?_); refine box_event ?hg (N := 2) ?hd (cs := #[.int .i64 a0_0, .int .i64 a0_1, .int .i64 a0_2]) (t := 29) ?hr ?_; (case hd => rfl); (case hg => rfl); (case hr => first | (go_simp; done) | (go_simp; rfl)); intro gb126 hg w20 hbox hb; have n0_ := Aside0.mk (below_step hb_ hb); have n1_ := Aside0.mk (hbox); have n2_ := Aside0.mk ((by rw [hg]; exact (below_size hb_) : w.heap.size ≤ gb126)); have n3_ := Aside0.mk ((by rw [hg]; exact (below_size hb_) : w.heap.size ≤ gb126)); clear HB; have HB := n0_; have BK126 := n1_; have GW126 := n2_; have GE126 := n3_; clear n0_ n1_ n2_ n3_; clear hb hbox hg; have hcz21_0 := cz_ (.int .i64 a0_0) BK126.out 0; have hcz21_1 := cz_ (.int .i64 a0_1) BK126.out 1; have hcz21_2 := cz_ (.int .i64 a0_2) BK126.out 2; have hfz21_0 := blk_frozen BK126.out 0; have hfz21_1 := blk_frozen BK126.out 1; have hfz21_2 := blk_frozen BK126.out 2) | ((with_reducible refine gate_callee (f := 48) rfl ?_); refine goesL_ (some 6) rfl rfl Try.func48 (by kernel_rfl) rfl #[.agg #[.int .i64 a0_0, .int .i64 a0_1, .int .i64 a0_2]] rfl mp_ ?_; (with_reducible refine (spec_MazeOk.calls a0_0 a0_1 a0_2 false _ A3.out).mono ?_); rintro e w22 ⟨rfl, hb⟩; refine ⟨_, rfl, ?_⟩; have n0_ := Aside0.mk (blk_below (g := gb126) (o := .cells #[.int .i64 a0_0, .int .i64 a0_1, .int .i64 a0_2] 29 (0, 0)) (kb_ BK126.out) hb); have n1_ := Aside0.mk (below_step hb_ hb); clear BK126; clear HB; have BK126 := n0_; have HB := n1_; clear n0_ n1_; (try clear hb); (try clear hb2); (try clear hk); (try clear hi)))
  go_ret
  exact ⟨er_, hb_⟩

end Go.Proofs.Ytkldibidhjonnaa.Q
