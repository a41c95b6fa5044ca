/- Plain Lean functions of Go functions, and for each the proof that its call comes to just that answer. Conditions: in each theorem's statement. -/
import Derived.Test.YtpaecckpdaiogaaQx0
import Derived.Test.YtpaecckpdaiogaaQx43
namespace Go.Proofs.Ytpaecckpdaiogaa.Q
open Go.RowKit Go.Proofs.YtpaecckpdaiogaaW.PrintWords Go.Proofs.YtpaecckpdaiogaaW.PrintLast
attribute [local go_sem] max2_int min2_int max_two min_two   -- for this text's walks alone
set_option linter.unusedVariables false
set_option linter.unusedSimpArgs false

/-! ### impl_IsConnected: function 56 -/
def impl_IsConnected.f (k : Nat) (a0_0 : Int) (a0_1 : Int) (a0_2 : Int) : Option (Bool) := (impl_CountParts.f k a0_0 a0_1 a0_2).bind fun t438 => (some (t438 == 1))
theorem impl_IsConnected.mono : ∀ a0 a1 a2 k, LeO (impl_IsConnected.f k a0 a1 a2) (impl_IsConnected.f (k + 1) a0 a1 a2) := by
 intro a0 a1 a2 k
 unfold impl_IsConnected.f
 repeat' first
   | (with_reducible exact impl_CountParts.mono _ _ _ _)
   | (with_reducible exact LeO.refl _)
   | (with_reducible exact LeO.none _)
   | (with_reducible refine LeO.ite ?_ ?_)
   | (with_reducible refine LeO.bind ?_ (fun _ => ?_))
   | exact impl_CountParts.mono _ _ _ _
   | exact LeO.none _
   | refine LeO.ite ?_ ?_
   | refine LeO.bind ?_ (fun _ => ?_)
set_option maxHeartbeats 8000000 in
set_option maxRecDepth 100000 in
theorem impl_IsConnected.calls (k : Nat) (a0_0 : Int) (a0_1 : Int) (a0_2 : Int) (r : Bool) (w : World) (h : impl_IsConnected.f k a0_0 a0_1 a0_2 = some r) :
  Calls Try.prog 56 #[.agg #[.int .i64 a0_0, .int .i64 a0_1, .int .i64 a0_2]] w fun e w' => e = .returned (.bool r) ∧ Below w.heap.size w w' := by
 have hu30 := Try.underlying30
 have HB := Aside0.mk (Below.refl w.heap.size w)
 have H : ((impl_CountParts.f k a0_0 a0_1 a0_2).bind fun t438 => (some (t438 == 1))) = some r := h
 clear h
 replace H := Option.bind_eq_some_iff.mp H
 obtain ⟨t438, A20, H⟩ := H
 replace H : (some (t438 == 1)) = some r := H
 have A2 := Aside0.mk A20
 clear A20
 obtain rfl := Option.some.inj H
 go_enter Try.func56, Try.ntmps56
 go_wp2_with (first | ((with_reducible refine gate_dst (N := 1) rfl ?_); refine box_event ?hg (N := 1) ?hd (cs := #[.int .i64 a0_0, .int .i64 a0_1, .int .i64 a0_2]) (t := 30) ?hr ?_; (case hd => rfl); (case hg => rfl); (case hr => first | (go_simp; done) | (go_simp; rfl)); intro gb437 hg w3 hbox hb; have n0_ := Aside0.mk (below_step hb_ hb); have n1_ := Aside0.mk (hbox); have n2_ := Aside0.mk ((by rw [hg]; exact (below_size hb_) : w.heap.size ≤ gb437)); have n3_ := Aside0.mk ((by rw [hg]; exact (below_size hb_) : w.heap.size ≤ gb437)); clear HB; have HB := n0_; have BK437 := n1_; have GW437 := n2_; have GE437 := n3_; clear n0_ n1_ n2_ n3_; clear hb hbox hg; have hcz4_0 := cz_ (.int .i64 a0_0) BK437.out 0; have hcz4_1 := cz_ (.int .i64 a0_1) BK437.out 1; have hcz4_2 := cz_ (.int .i64 a0_2) BK437.out 2; have hfz4_0 := blk_frozen BK437.out 0; have hfz4_1 := blk_frozen BK437.out 1; have hfz4_2 := blk_frozen BK437.out 2) | ((with_reducible refine gate_callee (f := 53) rfl ?_); refine goesL_ (some 4) rfl rfl Try.func53 (by kernel_rfl) rfl #[.agg #[.int .i64 a0_0, .int .i64 a0_1, .int .i64 a0_2]] rfl mp_ ?_; (with_reducible refine (impl_CountParts.calls k a0_0 a0_1 a0_2 t438 _ A2.out).mono ?_); rintro e w5 ⟨rfl, hb⟩; refine ⟨_, rfl, ?_⟩; have n0_ := Aside0.mk (blk_below (g := gb437) (o := .cells #[.int .i64 a0_0, .int .i64 a0_1, .int .i64 a0_2] 30 (0, 0)) (kb_ BK437.out) hb); have n1_ := Aside0.mk (below_step hb_ hb); clear BK437; clear HB; have BK437 := n0_; have HB := n1_; clear n0_ n1_; (try clear hb); (try clear hb2); (try clear hk); (try clear hi)))
 go_ret
 exact ⟨er_, hb_⟩

end Go.Proofs.Ytpaecckpdaiogaa.Q
