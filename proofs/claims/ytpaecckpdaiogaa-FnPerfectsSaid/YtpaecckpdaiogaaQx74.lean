/- Plain Lean functions of Go functions, and for each the proof that its call comes to just that answer. Conditions: in each theorem's statement. -/
import Derived.Test.YtpaecckpdaiogaaQx0
import Derived.Test.YtpaecckpdaiogaaQx34
import Derived.Test.YtpaecckpdaiogaaQx57
import Derived.Test.YtpaecckpdaiogaaQx63
namespace Go.Proofs.Ytpaecckpdaiogaa.Q
open Go.RowKit Go.Proofs.YtpaecckpdaiogaaW.PrintWords Go.Proofs.YtpaecckpdaiogaaW.PrintLast
attribute [local go_sem] max2_int min2_int max_two min_two   -- for this text's walks alone
set_option linter.unusedVariables false
set_option linter.unusedSimpArgs false

/-! ### impl_IsBridge: function 64 -/
def impl_IsBridge.f (k : Nat) (a0_0 : Int) (a0_1 : Int) (a0_2 : Int) (a1 : Int) : Option (Bool) := (impl_IsPassage.f a0_0 a0_1 a0_2 a1).bind fun t850 => (if t850 = true then ((impl_with.f a0_0 a0_1 a0_2 a1 false).bind fun bt851 => ((impl_areApart.f k bt851.1 bt851.2.1 bt851.2.2 a1).bind fun t854 => (some t854))) else (some false))
theorem impl_IsBridge.mono : ∀ a0 a1 a2 a3 k, LeO (impl_IsBridge.f k a0 a1 a2 a3) (impl_IsBridge.f (k + 1) a0 a1 a2 a3) := by
 intro a0 a1 a2 a3 k
 unfold impl_IsBridge.f
 repeat' first
   | (with_reducible exact impl_areApart.mono _ _ _ _ _)
   | (with_reducible exact LeO.refl _)
   | (with_reducible exact LeO.none _)
   | (with_reducible refine LeO.ite ?_ ?_)
   | (with_reducible refine LeO.bind ?_ (fun _ => ?_))
   | exact impl_areApart.mono _ _ _ _ _
   | exact LeO.none _
   | refine LeO.ite ?_ ?_
   | refine LeO.bind ?_ (fun _ => ?_)
set_option maxHeartbeats 8000000 in
set_option maxRecDepth 100000 in
theorem impl_IsBridge.calls (k : Nat) (a0_0 : Int) (a0_1 : Int) (a0_2 : Int) (a1 : Int) (r : Bool) (w : World) (h : impl_IsBridge.f k a0_0 a0_1 a0_2 a1 = some r) :
  Calls Try.prog 64 #[.agg #[.int .i64 a0_0, .int .i64 a0_1, .int .i64 a0_2], .int .i64 a1] w fun e w' => e = .returned (.bool r) ∧ Below w.heap.size w w' := by
 have hu30 := Try.underlying30
 have HB := Aside0.mk (Below.refl w.heap.size w)
 have H : ((impl_IsPassage.f a0_0 a0_1 a0_2 a1).bind fun t850 => (if t850 = true then ((impl_with.f a0_0 a0_1 a0_2 a1 false).bind fun bt851 => ((impl_areApart.f k bt851.1 bt851.2.1 bt851.2.2 a1).bind fun t854 => (some t854))) else (some false))) = some r := h
 clear h
 replace H := Option.bind_eq_some_iff.mp H
 obtain ⟨t850, A30, H⟩ := H
 replace H : (if t850 = true then ((impl_with.f a0_0 a0_1 a0_2 a1 false).bind fun bt851 => ((impl_areApart.f k bt851.1 bt851.2.1 bt851.2.2 a1).bind fun t854 => (some t854))) else (some false)) = some r := H
 have A3 := Aside0.mk A30
 clear A30
 by_cases c4 : t850 = true
 ·subst c4
  have H1 : ((impl_with.f a0_0 a0_1 a0_2 a1 false).bind fun bt851 => ((impl_areApart.f k bt851.1 bt851.2.1 bt851.2.2 a1).bind fun t854 => (some t854))) = some r := by rw [if_pos rfl] at H; exact H
  clear H
  have H := H1
  clear H1
  replace H := Option.bind_eq_some_iff.mp H
  obtain ⟨⟨t851, t852, t853⟩, A50, H⟩ := H
  replace H : ((impl_areApart.f k t851 t852 t853 a1).bind fun t854 => (some t854)) = some r := H
  have A5 := Aside0.mk A50
  clear A50
  replace H := Option.bind_eq_some_iff.mp H
  obtain ⟨t854, A60, H⟩ := H
  replace H : (some t854) = some r := H
  have A6 := Aside0.mk A60
  clear A60
  obtain rfl := Option.some.inj H
  go_enter Try.func64, Try.ntmps64
  go_wp2_with (first | ((with_reducible refine gate_dst (N := 2) rfl ?_); refine box_event ?hg (N := 2) ?hd (cs := #[.int .i64 a0_0, .int .i64 a0_1, .int .i64 a0_2]) (t := 30) ?hr ?_; (case hd => rfl); (case hg => rfl); (case hr => first | (go_simp; done) | (go_simp; rfl)); intro gb849 hg w7 hbox hb; have n0_ := Aside0.mk (below_step hb_ hb); have n1_ := Aside0.mk (hbox); have n2_ := Aside0.mk ((by rw [hg]; exact (below_size hb_) : w.heap.size ≤ gb849)); have n3_ := Aside0.mk ((by rw [hg]; exact (below_size hb_) : w.heap.size ≤ gb849)); clear HB; have HB := n0_; have BK849 := n1_; have GW849 := n2_; have GE849 := n3_; clear n0_ n1_ n2_ n3_; clear hb hbox hg; have hcz8_0 := cz_ (.int .i64 a0_0) BK849.out 0; have hcz8_1 := cz_ (.int .i64 a0_1) BK849.out 1; have hcz8_2 := cz_ (.int .i64 a0_2) BK849.out 2; have hfz8_0 := blk_frozen BK849.out 0; have hfz8_1 := blk_frozen BK849.out 1; have hfz8_2 := blk_frozen BK849.out 2) | ((with_reducible refine gate_callee (f := 46) rfl ?_); refine goesL_ (some 7) rfl rfl Try.func46 (by kernel_rfl) rfl #[.agg #[.int .i64 a0_0, .int .i64 a0_1, .int .i64 a0_2], .int .i64 a1] rfl mp_ ?_; (with_reducible refine (impl_IsPassage.calls a0_0 a0_1 a0_2 a1 true _ A3.out).mono ?_); rintro e w9 ⟨rfl, hb⟩; refine ⟨_, rfl, ?_⟩; have n0_ := Aside0.mk (blk_below (g := gb849) (o := .cells #[.int .i64 a0_0, .int .i64 a0_1, .int .i64 a0_2] 30 (0, 0)) (kb_ BK849.out) hb); have n1_ := Aside0.mk (below_step hb_ hb); clear BK849; clear HB; have BK849 := n0_; have HB := n1_; clear n0_ n1_; (try clear hb); (try clear hb2); (try clear hk); (try clear hi); have hcz10_0 := cz_ (.int .i64 a0_0) BK849.out 0; have hcz10_1 := cz_ (.int .i64 a0_1) BK849.out 1; have hcz10_2 := cz_ (.int .i64 a0_2) BK849.out 2; have hfz10_0 := blk_frozen BK849.out 0; have hfz10_1 := blk_frozen BK849.out 1; have hfz10_2 := blk_frozen BK849.out 2) | (go_at_call 80; (with_reducible refine (impl_with.calls a0_0 a0_1 a0_2 a1 false t851 t852 t853 _ A5.out).mono ?_); rintro e w11 ⟨rfl, hb⟩; have n0_ := Aside0.mk (blk_below (g := gb849) (o := .cells #[.int .i64 a0_0, .int .i64 a0_1, .int .i64 a0_2] 30 (0, 0)) (kb_ BK849.out) hb); have n1_ := Aside0.mk (below_step hb_ hb); clear BK849; clear HB; have BK849 := n0_; have HB := n1_; clear n0_ n1_; (try clear hb); (try clear hb2); (try clear hk); (try clear hi)) | (go_at_call 109; (with_reducible refine (impl_areApart.calls k t851 t852 t853 a1 t854 _ A6.out).mono ?_); rintro e w12 ⟨rfl, hb⟩; have n0_ := Aside0.mk (blk_below (g := gb849) (o := .cells #[.int .i64 a0_0, .int .i64 a0_1, .int .i64 a0_2] 30 (0, 0)) (kb_ BK849.out) hb); have n1_ := Aside0.mk (below_step hb_ hb); clear BK849; clear HB; have BK849 := n0_; have HB := n1_; clear n0_ n1_; (try clear hb); (try clear hb2); (try clear hk); (try clear hi)))
  go_ret
  exact ⟨er_, hb_⟩
 ·replace c4 := Bool.eq_false_iff.mpr c4
  subst c4
  have H1 : (some false) = some r := by rw [if_neg (show ¬ (false = true) by decide)] at H; exact H
  clear H
  have H := H1
  clear H1
  obtain rfl := Option.some.inj H
  go_enter Try.func64, Try.ntmps64
  go_wp2_with (first | ((with_reducible refine gate_dst (N := 2) rfl ?_); refine box_event ?hg (N := 2) ?hd (cs := #[.int .i64 a0_0, .int .i64 a0_1, .int .i64 a0_2]) (t := 30) ?hr ?_; (case hd => rfl); (case hg => rfl); (case hr => first | (go_simp; done) | (go_simp; rfl)); intro gb849 hg w13 hbox hb; have n0_ := Aside0.mk (below_step hb_ hb); have n1_ := Aside0.mk (hbox); have n2_ := Aside0.mk ((by rw [hg]; exact (below_size hb_) : w.heap.size ≤ gb849)); have n3_ := Aside0.mk ((by rw [hg]; exact (below_size hb_) : w.heap.size ≤ gb849)); clear HB; have HB := n0_; have BK849 := n1_; have GW849 := n2_; have GE849 := n3_; clear n0_ n1_ n2_ n3_; clear hb hbox hg; have hcz14_0 := cz_ (.int .i64 a0_0) BK849.out 0; have hcz14_1 := cz_ (.int .i64 a0_1) BK849.out 1; have hcz14_2 := cz_ (.int .i64 a0_2) BK849.out 2; have hfz14_0 := blk_frozen BK849.out 0; have hfz14_1 := blk_frozen BK849.out 1; have hfz14_2 := blk_frozen BK849.out 2) | ((with_reducible refine gate_callee (f := 46) rfl ?_); refine goesL_ (some 7) rfl rfl Try.func46 (by kernel_rfl) rfl #[.agg #[.int .i64 a0_0, .int .i64 a0_1, .int .i64 a0_2], .int .i64 a1] rfl mp_ ?_; (with_reducible refine (impl_IsPassage.calls a0_0 a0_1 a0_2 a1 false _ A3.out).mono ?_); rintro e w15 ⟨rfl, hb⟩; refine ⟨_, rfl, ?_⟩; have n0_ := Aside0.mk (blk_below (g := gb849) (o := .cells #[.int .i64 a0_0, .int .i64 a0_1, .int .i64 a0_2] 30 (0, 0)) (kb_ BK849.out) hb); have n1_ := Aside0.mk (below_step hb_ hb); clear BK849; clear HB; have BK849 := n0_; have HB := n1_; clear n0_ n1_; (try clear hb); (try clear hb2); (try clear hk); (try clear hi)))
  go_ret
  exact ⟨er_, hb_⟩

end Go.Proofs.Ytpaecckpdaiogaa.Q
