/- Plain Lean functions of Go functions, and for each the proof that its call comes to just that answer. Conditions: in each theorem's statement. -/
import Derived.Test.YtpaecckpdaiogaaQx0
import Derived.Test.YtpaecckpdaiogaaQx2
import Derived.Test.YtpaecckpdaiogaaQx4
import Derived.Test.YtpaecckpdaiogaaQx5
import Derived.Test.YtpaecckpdaiogaaQx32
import Derived.Test.YtpaecckpdaiogaaQx53
namespace Go.Proofs.Ytpaecckpdaiogaa.Q
open Go.RowKit Go.Proofs.YtpaecckpdaiogaaW.PrintWords Go.Proofs.YtpaecckpdaiogaaW.PrintLast
attribute [local go_sem] max2_int min2_int max_two min_two   -- for this text's walks alone
set_option linter.unusedVariables false
set_option linter.unusedSimpArgs false

/-! ### laws_at: function 45 -/
def laws_at.f (l0 : List Int) (a1 : Int) : Option (Int) := if (l0.length : Int) = 0 then (some 0) else (if 0 ≤ (Int.tmod (wrap64 ((wrap64 (a1 * 5)) + 1)) (l0.length : Int)) then (if (Int.tmod (wrap64 ((wrap64 (a1 * 5)) + 1)) (l0.length : Int)) < (l0.length : Int) then (some (wrap64 (rd l0 (Int.tmod (wrap64 ((wrap64 (a1 * 5)) + 1)) (l0.length : Int))))) else (none)) else (none))
set_option maxHeartbeats 8000000 in
set_option maxRecDepth 100000 in
theorem laws_at.calls (A0 : Option Addr) (c0 : Nat) (l0 : List Int) (a1 : Int) (r : Int) (w : World) (hr0 : Kd.C (Kd.int .u8) w A0 l0.length l0) (hc0 : l0.length ≤ c0) (h : laws_at.f l0 a1 = some r) :
  Calls Try.prog 45 #[.slice A0 l0.length c0, .int .i64 a1] w fun e w' => e = .returned (.int .i64 r) ∧ Drawn0 w w' := by
 have HR0 := Aside0.mk hr0
 have HC0 := Aside0.mk hc0
 clear hr0 hc0
 have H : (if (l0.length : Int) = 0 then (some 0) else (if 0 ≤ (Int.tmod (wrap64 ((wrap64 (a1 * 5)) + 1)) (l0.length : Int)) then (if (Int.tmod (wrap64 ((wrap64 (a1 * 5)) + 1)) (l0.length : Int)) < (l0.length : Int) then (some (wrap64 (rd l0 (Int.tmod (wrap64 ((wrap64 (a1 * 5)) + 1)) (l0.length : Int))))) else (none)) else (none))) = some r := h
 clear h
 by_cases c3 : (l0.length : Int) = 0
 ·rw [if_pos c3] at H
  have c3b0 : ((l0.length : Int) == 0) = true := beq_iff_eq.mpr c3
  have c3b1 : ((l0.length : Int) != 0) = false := bne_eq_false_iff_eq.mpr c3
  clear c3
  obtain rfl := Option.some.inj H
  go_enter Try.func45, Try.ntmps45
  go_wp2
  go_ret
  exact ⟨by first | rfl | (simp; done) | (simp [*]; done), by repeat (first | exact Drawn0.refl _ | apply Drawn0.step)⟩
 ·rw [if_neg c3] at H
  have c3b0 : ((l0.length : Int) == 0) = false := beq_eq_false_iff_ne.mpr c3
  have c3b1 : ((l0.length : Int) != 0) = true := bne_iff_ne.mpr c3
  have c3b2 : ¬ (l0 = []) := fun h_ => c3 (by rw [h_]; rfl)
  obtain ⟨ji4, hji4⟩ : ∃ j_ : Int, (Int.tmod (wrap64 ((wrap64 (a1 * 5)) + 1)) (l0.length : Int)) = j_ := ⟨_, rfl⟩
  replace H : (if 0 ≤ (ji4) then (if (ji4) < (l0.length : Int) then (some (wrap64 (rd l0 (ji4)))) else (none)) else (none)) = some r := by first | (rw [hji4] at H; exact H) | (simp only [hji4] at H ⊢; exact H)
  by_cases c5 : 0 ≤ (ji4)
  ·rw [if_pos c5] at H
   have c5b0 : decide (0 ≤ (ji4)) = true := decide_eq_true c5
   clear c5
   by_cases c6 : (ji4) < (l0.length : Int)
   ·rw [if_pos c6] at H
    have c6b0 : decide ((ji4) < (l0.length : Int)) = true := decide_eq_true c6
    clear c6
    obtain rfl := Option.some.inj H
    have p629 : 0 ≤ ((ji4) : Int) := of_decide_eq_true (by first | (with_reducible assumption) | assumption)
    have q629 : (ji4) < (l0.length : Int) := of_decide_eq_true (by first | (with_reducible assumption) | assumption)
    obtain ⟨ad629, e629, hx629_0⟩ := Kd.at_int HR0.out (ji4) p629 q629
    cases e629
    replace p629 := eq_true p629
    replace q629 := eq_true q629
    go_enter Try.func45, Try.ntmps45
    go_wp2
    go_ret
    exact ⟨by first | rfl | (simp; done) | (simp only [← hji4] <;> (first | rfl | simp)) | (simp [*]; done), by repeat (first | exact Drawn0.refl _ | apply Drawn0.step)⟩
   ·rw [if_neg c6] at H
    exact absurd H (by simp)
  ·rw [if_neg c5] at H
   exact absurd H (by simp)

/-! ### impl_SetGap: function 47 -/
def impl_SetGap.f (a0_0 : Int) (a0_1 : Int) (a0_2 : Int) (a1 : Int) (a2 : Bool) : Option (Int × Int × Int × Bool) := (impl_MazeOk.f a0_0 a0_1 a0_2).bind fun t636 => (if t636 = true then ((impl_isGap.f a0_0 a0_1 a1).bind fun t637 => (if t637 = true then ((impl_with.f a0_0 a0_1 a0_2 a1 a2).bind fun bt638 => (some (bt638.1, bt638.2.1, bt638.2.2, true))) else (some (a0_0, a0_1, a0_2, false)))) else (some (a0_0, a0_1, a0_2, false)))
set_option maxHeartbeats 8000000 in
set_option maxRecDepth 100000 in
theorem impl_SetGap.calls (a0_0 : Int) (a0_1 : Int) (a0_2 : Int) (a1 : Int) (a2 : Bool) (r1 : Int) (r2 : Int) (r3 : Int) (r4 : Bool) (w : World) (h : impl_SetGap.f a0_0 a0_1 a0_2 a1 a2 = some (r1, r2, r3, r4)) :
  Calls Try.prog 47 #[.agg #[.int .i64 a0_0, .int .i64 a0_1, .int .i64 a0_2], .int .i64 a1, .bool a2] w fun e w' => e = .returned (.tuple #[.agg #[.int .i64 r1, .int .i64 r2, .int .i64 r3], .bool r4]) ∧ Below w.heap.size w w' := by
 have hu30 := Try.underlying30
 have hu28 := Try.underlying28
 have HB := Aside0.mk (Below.refl w.heap.size w)
 have H : ((impl_MazeOk.f a0_0 a0_1 a0_2).bind fun t636 => (if t636 = true then ((impl_isGap.f a0_0 a0_1 a1).bind fun t637 => (if t637 = true then ((impl_with.f a0_0 a0_1 a0_2 a1 a2).bind fun bt638 => (some (bt638.1, bt638.2.1, bt638.2.2, true))) else (some (a0_0, a0_1, a0_2, false)))) else (some (a0_0, a0_1, a0_2, false)))) = some (r1, r2, r3, r4) := h
 clear h
 replace H := Option.bind_eq_some_iff.mp H
 obtain ⟨t636, A40, H⟩ := H
 replace H : (if t636 = true then ((impl_isGap.f a0_0 a0_1 a1).bind fun t637 => (if t637 = true then ((impl_with.f a0_0 a0_1 a0_2 a1 a2).bind fun bt638 => (some (bt638.1, bt638.2.1, bt638.2.2, true))) else (some (a0_0, a0_1, a0_2, false)))) else (some (a0_0, a0_1, a0_2, false))) = some (r1, r2, r3, r4) := H
 have A4 := Aside0.mk A40
 clear A40
 by_cases c5 : t636 = true
 ·subst c5
  have H1 : ((impl_isGap.f a0_0 a0_1 a1).bind fun t637 => (if t637 = true then ((impl_with.f a0_0 a0_1 a0_2 a1 a2).bind fun bt638 => (some (bt638.1, bt638.2.1, bt638.2.2, true))) else (some (a0_0, a0_1, a0_2, false)))) = some (r1, r2, r3, r4) := by rw [if_pos rfl] at H; exact H
  clear H
  have H := H1
  clear H1
  replace H := Option.bind_eq_some_iff.mp H
  obtain ⟨t637, A60, H⟩ := H
  replace H : (if t637 = true then ((impl_with.f a0_0 a0_1 a0_2 a1 a2).bind fun bt638 => (some (bt638.1, bt638.2.1, bt638.2.2, true))) else (some (a0_0, a0_1, a0_2, false))) = some (r1, r2, r3, r4) := H
  have A6 := Aside0.mk A60
  clear A60
  by_cases c7 : t637 = true
  ·subst c7
   have H1 : ((impl_with.f a0_0 a0_1 a0_2 a1 a2).bind fun bt638 => (some (bt638.1, bt638.2.1, bt638.2.2, true))) = some (r1, r2, r3, r4) := by rw [if_pos rfl] at H; exact H
   clear H
   have H := H1
   clear H1
   replace H := Option.bind_eq_some_iff.mp H
   obtain ⟨⟨t638, t639, t640⟩, A80, H⟩ := H
   replace H : (some (t638, t639, t640, true)) = some (r1, r2, r3, r4) := H
   have A8 := Aside0.mk A80
   clear A80
   simp only [Option.some.injEq, Prod.mk.injEq] at H
   obtain ⟨rfl, rfl, rfl, rfl⟩ := H
   go_enter Try.func47, Try.ntmps47
   go_wp2_with (first | ((with_reducible refine gate_dst (N := 3) rfl ?_); refine box_event ?hg (N := 3) ?hd (cs := #[.int .i64 a0_0, .int .i64 a0_1, .int .i64 a0_2]) (t := 30) ?hr ?_; (case hd => rfl); (case hg => rfl); (case hr => first | (go_simp; done) | (go_simp; rfl)); intro gb634 hg w9 hbox hb; have n0_ := Aside0.mk (below_step hb_ hb); have n1_ := Aside0.mk (hbox); have n2_ := Aside0.mk ((by rw [hg]; exact (below_size hb_) : w.heap.size ≤ gb634)); have n3_ := Aside0.mk ((by rw [hg]; exact (below_size hb_) : w.heap.size ≤ gb634)); clear HB; have HB := n0_; have BK634 := n1_; have GW634 := n2_; have GE634 := n3_; clear n0_ n1_ n2_ n3_; clear hb hbox hg) | ((with_reducible refine gate_dst (N := 6) rfl ?_); refine box_event ?hg (N := 6) ?hd (cs := #[.int .i64 0, .int .i64 0, .int .i64 0]) (t := 30) ?hr ?_; (case hd => rfl); (case hg => rfl); (case hr => first | (go_simp; done) | (go_simp; rfl)); intro gb635 hg w10 hbox hb; have n0_ := Aside0.mk (blk_below (g := gb634) (o := .cells #[.int .i64 a0_0, .int .i64 a0_1, .int .i64 a0_2] 30 (0, 0)) (kb_ BK634.out) hb); have n1_ := Aside0.mk (below_step hb_ hb); have n2_ := Aside0.mk (hbox); have n3_ := Aside0.mk ((by rw [hg]; exact (below_size hb_) : w.heap.size ≤ gb635)); have n4_ := Aside0.mk ((by rw [hg]; exact (below_size hb_) : w.heap.size ≤ gb635)); have n5_ := Aside0.mk ((by rw [hg]; exact Nat.ne_of_lt (blk_lt (g := gb634) (o := .cells #[.int .i64 a0_0, .int .i64 a0_1, .int .i64 a0_2] 30 (0, 0)) (kb_ BK634.out)) : gb634 ≠ gb635)); have n6_ := Aside0.mk ((by rw [hg]; exact Nat.ne_of_gt (blk_lt (g := gb634) (o := .cells #[.int .i64 a0_0, .int .i64 a0_1, .int .i64 a0_2] 30 (0, 0)) (kb_ BK634.out)) : gb635 ≠ gb634)); clear BK634; clear HB; have BK634 := n0_; have HB := n1_; have BK635 := n2_; have GW635 := n3_; have GE635 := n4_; have NB634_635 := n5_; have NB635_634 := n6_; clear n0_ n1_ n2_ n3_ n4_ n5_ n6_; clear hb hbox hg; have hnb11 := NB634_635.out; have hnc11 := NB635_634.out; have hcz12_0 := cz_ (.int .i64 a0_0) BK634.out 0; have hcz12_1 := cz_ (.int .i64 a0_1) BK634.out 1; have hcz12_2 := cz_ (.int .i64 a0_2) BK634.out 2; have hfz12_0 := blk_frozen BK634.out 0; have hfz12_1 := blk_frozen BK634.out 1; have hfz12_2 := blk_frozen BK634.out 2) | ((with_reducible refine gate_callee (f := 87) rfl ?_); refine goesL_ (some 9) rfl rfl Try.func87 (by kernel_rfl) rfl #[.agg #[.int .i64 a0_0, .int .i64 a0_1, .int .i64 a0_2]] rfl mp_ ?_; (with_reducible refine (impl_MazeOk.calls a0_0 a0_1 a0_2 true _ A4.out).mono ?_); rintro e w13 ⟨rfl, hb⟩; refine ⟨_, rfl, ?_⟩; have n0_ := Aside0.mk (blk_below (g := gb634) (o := .cells #[.int .i64 a0_0, .int .i64 a0_1, .int .i64 a0_2] 30 (0, 0)) (kb_ BK634.out) hb); have n1_ := Aside0.mk (blk_below (g := gb635) (o := .cells #[.int .i64 0, .int .i64 0, .int .i64 0] 30 (0, 0)) (kb_ BK635.out) hb); have n2_ := Aside0.mk (below_step hb_ hb); clear BK634; clear BK635; clear HB; have BK634 := n0_; have BK635 := n1_; have HB := n2_; clear n0_ n1_ n2_; (try clear hb); (try clear hb2); (try clear hk); (try clear hi); have hcz14_0 := cz_ (.int .i64 a0_0) BK634.out 0; have hcz14_1 := cz_ (.int .i64 a0_1) BK634.out 1; have hcz14_2 := cz_ (.int .i64 a0_2) BK634.out 2; have hfz14_0 := blk_frozen BK634.out 0; have hfz14_1 := blk_frozen BK634.out 1; have hfz14_2 := blk_frozen BK634.out 2) | (go_at_call 99; (with_reducible refine (impl_isGap.calls a0_0 a0_1 a1 true _ A6.out).mono ?_); rintro e w15 ⟨rfl, hb⟩; have n0_ := Aside0.mk (blk_below (g := gb634) (o := .cells #[.int .i64 a0_0, .int .i64 a0_1, .int .i64 a0_2] 30 (0, 0)) (kb_ BK634.out) hb); have n1_ := Aside0.mk (blk_below (g := gb635) (o := .cells #[.int .i64 0, .int .i64 0, .int .i64 0] 30 (0, 0)) (kb_ BK635.out) hb); have n2_ := Aside0.mk (below_step hb_ hb); clear BK634; clear BK635; clear HB; have BK634 := n0_; have BK635 := n1_; have HB := n2_; clear n0_ n1_ n2_; (try clear hb); (try clear hb2); (try clear hk); (try clear hi); have hcz16_0 := cz_ (.int .i64 a0_0) BK634.out 0; have hcz16_1 := cz_ (.int .i64 a0_1) BK634.out 1; have hcz16_2 := cz_ (.int .i64 a0_2) BK634.out 2; have hfz16_0 := blk_frozen BK634.out 0; have hfz16_1 := blk_frozen BK634.out 1; have hfz16_2 := blk_frozen BK634.out 2) | ((with_reducible refine gate_callee (f := 80) rfl ?_); refine goesL_ (some 22) rfl rfl Try.func80 (by kernel_rfl) rfl #[.agg #[.int .i64 a0_0, .int .i64 a0_1, .int .i64 a0_2], .int .i64 a1, .bool a2] rfl mp_ ?_; (with_reducible refine (impl_with.calls a0_0 a0_1 a0_2 a1 a2 t638 t639 t640 _ A8.out).mono ?_); rintro e w17 ⟨rfl, hb⟩; refine ⟨_, rfl, ?_⟩; have n0_ := Aside0.mk (blk_below (g := gb634) (o := .cells #[.int .i64 a0_0, .int .i64 a0_1, .int .i64 a0_2] 30 (0, 0)) (kb_ BK634.out) hb); have n1_ := Aside0.mk (blk_below (g := gb635) (o := .cells #[.int .i64 0, .int .i64 0, .int .i64 0] 30 (0, 0)) (kb_ BK635.out) hb); have n2_ := Aside0.mk (below_step hb_ hb); clear BK634; clear BK635; clear HB; have BK634 := n0_; have BK635 := n1_; have HB := n2_; clear n0_ n1_ n2_; (try clear hb); (try clear hb2); (try clear hk); (try clear hi); have hcz18_0 := cz_ (.int .i64 0) BK635.out 0; have hcz18_1 := cz_ (.int .i64 0) BK635.out 1; have hcz18_2 := cz_ (.int .i64 0) BK635.out 2; have hfz18_0 := blk_frozen BK635.out 0; have hfz18_1 := blk_frozen BK635.out 1; have hfz18_2 := blk_frozen BK635.out 2))
   try (have hq634_0 : _ = some (.int .i64 a0_0) := (blk_cell BK634.out 0).trans rfl; have hqf634_0 := blk_frozen BK634.out 0; have hq634_1 : _ = some (.int .i64 a0_1) := (blk_cell BK634.out 1).trans rfl; have hqf634_1 := blk_frozen BK634.out 1; have hq634_2 : _ = some (.int .i64 a0_2) := (blk_cell BK634.out 2).trans rfl; have hqf634_2 := blk_frozen BK634.out 2; have hq635_0 : _ = some (.int .i64 t638) := (blk_cell BK635.out 0).trans rfl; have hqf635_0 := blk_frozen BK635.out 0; have hq635_1 : _ = some (.int .i64 t639) := (blk_cell BK635.out 1).trans rfl; have hqf635_1 := blk_frozen BK635.out 1; have hq635_2 : _ = some (.int .i64 t640) := (blk_cell BK635.out 2).trans rfl; have hqf635_2 := blk_frozen BK635.out 2; go_wp2)
   refine bodyPost_ret (results_ct rfl _ _ gb635 30 #[.int .i64 t638, .int .i64 t639, .int .i64 t640] (0, 0) _ rfl (by (with_reducible repeat (first | refine blk_drewN ?_ _ | refine blk_drew ?_ | refine blk_alloc ?_ _)); refine blk_put (cs := #[.int .i64 t638, .int .i64 t639, .int .i64 0]) ?_ 2 _ rfl; (with_reducible repeat (first | refine blk_drewN ?_ _ | refine blk_drew ?_ | refine blk_alloc ?_ _)); refine blk_put (cs := #[.int .i64 t638, .int .i64 0, .int .i64 0]) ?_ 1 _ rfl; (with_reducible repeat (first | refine blk_drewN ?_ _ | refine blk_drew ?_ | refine blk_alloc ?_ _)); refine blk_put (cs := #[.int .i64 0, .int .i64 0, .int .i64 0]) ?_ 0 _ rfl; (with_reducible repeat (first | refine blk_drewN ?_ _ | refine blk_drew ?_ | refine blk_alloc ?_ _)); exact BK635.out) Try.underlying30 rfl (by kernel_rfl)) rfl ?_
   exact ⟨er_, hb_⟩
  ·replace c7 := Bool.eq_false_iff.mpr c7
   subst c7
   have H1 : (some (a0_0, a0_1, a0_2, false)) = some (r1, r2, r3, r4) := by rw [if_neg (show ¬ (false = true) by decide)] at H; exact H
   clear H
   have H := H1
   clear H1
   simp only [Option.some.injEq, Prod.mk.injEq] at H
   obtain ⟨rfl, rfl, rfl, rfl⟩ := H
   go_enter Try.func47, Try.ntmps47
   go_wp2_with (first | ((with_reducible refine gate_dst (N := 3) rfl ?_); refine box_event ?hg (N := 3) ?hd (cs := #[.int .i64 a0_0, .int .i64 a0_1, .int .i64 a0_2]) (t := 30) ?hr ?_; (case hd => rfl); (case hg => rfl); (case hr => first | (go_simp; done) | (go_simp; rfl)); intro gb634 hg w19 hbox hb; have n0_ := Aside0.mk (below_step hb_ hb); have n1_ := Aside0.mk (hbox); have n2_ := Aside0.mk ((by rw [hg]; exact (below_size hb_) : w.heap.size ≤ gb634)); have n3_ := Aside0.mk ((by rw [hg]; exact (below_size hb_) : w.heap.size ≤ gb634)); clear HB; have HB := n0_; have BK634 := n1_; have GW634 := n2_; have GE634 := n3_; clear n0_ n1_ n2_ n3_; clear hb hbox hg) | ((with_reducible refine gate_dst (N := 6) rfl ?_); refine box_event ?hg (N := 6) ?hd (cs := #[.int .i64 0, .int .i64 0, .int .i64 0]) (t := 30) ?hr ?_; (case hd => rfl); (case hg => rfl); (case hr => first | (go_simp; done) | (go_simp; rfl)); intro gb635 hg w20 hbox hb; have n0_ := Aside0.mk (blk_below (g := gb634) (o := .cells #[.int .i64 a0_0, .int .i64 a0_1, .int .i64 a0_2] 30 (0, 0)) (kb_ BK634.out) hb); have n1_ := Aside0.mk (below_step hb_ hb); have n2_ := Aside0.mk (hbox); have n3_ := Aside0.mk ((by rw [hg]; exact (below_size hb_) : w.heap.size ≤ gb635)); have n4_ := Aside0.mk ((by rw [hg]; exact (below_size hb_) : w.heap.size ≤ gb635)); have n5_ := Aside0.mk ((by rw [hg]; exact Nat.ne_of_lt (blk_lt (g := gb634) (o := .cells #[.int .i64 a0_0, .int .i64 a0_1, .int .i64 a0_2] 30 (0, 0)) (kb_ BK634.out)) : gb634 ≠ gb635)); have n6_ := Aside0.mk ((by rw [hg]; exact Nat.ne_of_gt (blk_lt (g := gb634) (o := .cells #[.int .i64 a0_0, .int .i64 a0_1, .int .i64 a0_2] 30 (0, 0)) (kb_ BK634.out)) : gb635 ≠ gb634)); clear BK634; clear HB; have BK634 := n0_; have HB := n1_; have BK635 := n2_; have GW635 := n3_; have GE635 := n4_; have NB634_635 := n5_; have NB635_634 := n6_; clear n0_ n1_ n2_ n3_ n4_ n5_ n6_; clear hb hbox hg; have hnb21 := NB634_635.out; have hnc21 := NB635_634.out; have hcz22_0 := cz_ (.int .i64 a0_0) BK634.out 0; have hcz22_1 := cz_ (.int .i64 a0_1) BK634.out 1; have hcz22_2 := cz_ (.int .i64 a0_2) BK634.out 2; have hfz22_0 := blk_frozen BK634.out 0; have hfz22_1 := blk_frozen BK634.out 1; have hfz22_2 := blk_frozen BK634.out 2) | ((with_reducible refine gate_callee (f := 87) rfl ?_); refine goesL_ (some 9) rfl rfl Try.func87 (by kernel_rfl) rfl #[.agg #[.int .i64 a0_0, .int .i64 a0_1, .int .i64 a0_2]] rfl mp_ ?_; (with_reducible refine (impl_MazeOk.calls a0_0 a0_1 a0_2 true _ A4.out).mono ?_); rintro e w23 ⟨rfl, hb⟩; refine ⟨_, rfl, ?_⟩; have n0_ := Aside0.mk (blk_below (g := gb634) (o := .cells #[.int .i64 a0_0, .int .i64 a0_1, .int .i64 a0_2] 30 (0, 0)) (kb_ BK634.out) hb); have n1_ := Aside0.mk (blk_below (g := gb635) (o := .cells #[.int .i64 0, .int .i64 0, .int .i64 0] 30 (0, 0)) (kb_ BK635.out) hb); have n2_ := Aside0.mk (below_step hb_ hb); clear BK634; clear BK635; clear HB; have BK634 := n0_; have BK635 := n1_; have HB := n2_; clear n0_ n1_ n2_; (try clear hb); (try clear hb2); (try clear hk); (try clear hi); have hcz24_0 := cz_ (.int .i64 a0_0) BK634.out 0; have hcz24_1 := cz_ (.int .i64 a0_1) BK634.out 1; have hcz24_2 := cz_ (.int .i64 a0_2) BK634.out 2; have hfz24_0 := blk_frozen BK634.out 0; have hfz24_1 := blk_frozen BK634.out 1; have hfz24_2 := blk_frozen BK634.out 2) | (go_at_call 99; (with_reducible refine (impl_isGap.calls a0_0 a0_1 a1 false _ A6.out).mono ?_); rintro e w25 ⟨rfl, hb⟩; have n0_ := Aside0.mk (blk_below (g := gb634) (o := .cells #[.int .i64 a0_0, .int .i64 a0_1, .int .i64 a0_2] 30 (0, 0)) (kb_ BK634.out) hb); have n1_ := Aside0.mk (blk_below (g := gb635) (o := .cells #[.int .i64 0, .int .i64 0, .int .i64 0] 30 (0, 0)) (kb_ BK635.out) hb); have n2_ := Aside0.mk (below_step hb_ hb); clear BK634; clear BK635; clear HB; have BK634 := n0_; have BK635 := n1_; have HB := n2_; clear n0_ n1_ n2_; (try clear hb); (try clear hb2); (try clear hk); (try clear hi); have hcz26_0 := cz_ (.int .i64 a0_0) BK634.out 0; have hcz26_1 := cz_ (.int .i64 a0_1) BK634.out 1; have hcz26_2 := cz_ (.int .i64 a0_2) BK634.out 2; have hfz26_0 := blk_frozen BK634.out 0; have hfz26_1 := blk_frozen BK634.out 1; have hfz26_2 := blk_frozen BK634.out 2; have hcz27_0 := cz_ (.int .i64 0) BK635.out 0; have hcz27_1 := cz_ (.int .i64 0) BK635.out 1; have hcz27_2 := cz_ (.int .i64 0) BK635.out 2; have hfz27_0 := blk_frozen BK635.out 0; have hfz27_1 := blk_frozen BK635.out 1; have hfz27_2 := blk_frozen BK635.out 2))
   try (have hq634_0 : _ = some (.int .i64 a0_0) := (blk_cell BK634.out 0).trans rfl; have hqf634_0 := blk_frozen BK634.out 0; have hq634_1 : _ = some (.int .i64 a0_1) := (blk_cell BK634.out 1).trans rfl; have hqf634_1 := blk_frozen BK634.out 1; have hq634_2 : _ = some (.int .i64 a0_2) := (blk_cell BK634.out 2).trans rfl; have hqf634_2 := blk_frozen BK634.out 2; have hq635_0 : _ = some (.int .i64 a0_0) := (blk_cell BK635.out 0).trans rfl; have hqf635_0 := blk_frozen BK635.out 0; have hq635_1 : _ = some (.int .i64 a0_1) := (blk_cell BK635.out 1).trans rfl; have hqf635_1 := blk_frozen BK635.out 1; have hq635_2 : _ = some (.int .i64 a0_2) := (blk_cell BK635.out 2).trans rfl; have hqf635_2 := blk_frozen BK635.out 2; go_wp2)
   refine bodyPost_ret (results_ct rfl _ _ gb635 30 #[.int .i64 a0_0, .int .i64 a0_1, .int .i64 a0_2] (0, 0) _ rfl (by (with_reducible repeat (first | refine blk_drewN ?_ _ | refine blk_drew ?_ | refine blk_alloc ?_ _)); refine blk_put (cs := #[.int .i64 a0_0, .int .i64 a0_1, .int .i64 0]) ?_ 2 _ rfl; (with_reducible repeat (first | refine blk_drewN ?_ _ | refine blk_drew ?_ | refine blk_alloc ?_ _)); refine blk_put (cs := #[.int .i64 a0_0, .int .i64 0, .int .i64 0]) ?_ 1 _ rfl; (with_reducible repeat (first | refine blk_drewN ?_ _ | refine blk_drew ?_ | refine blk_alloc ?_ _)); refine blk_put (cs := #[.int .i64 0, .int .i64 0, .int .i64 0]) ?_ 0 _ rfl; (with_reducible repeat (first | refine blk_drewN ?_ _ | refine blk_drew ?_ | refine blk_alloc ?_ _)); exact BK635.out) Try.underlying30 rfl (by kernel_rfl)) rfl ?_
   exact ⟨er_, hb_⟩
 ·replace c5 := Bool.eq_false_iff.mpr c5
  subst c5
  have H1 : (some (a0_0, a0_1, a0_2, false)) = some (r1, r2, r3, r4) := by rw [if_neg (show ¬ (false = true) by decide)] at H; exact H
  clear H
  have H := H1
  clear H1
  simp only [Option.some.injEq, Prod.mk.injEq] at H
  obtain ⟨rfl, rfl, rfl, rfl⟩ := H
  go_enter Try.func47, Try.ntmps47
  go_wp2_with (first | ((with_reducible refine gate_dst (N := 3) rfl ?_); refine box_event ?hg (N := 3) ?hd (cs := #[.int .i64 a0_0, .int .i64 a0_1, .int .i64 a0_2]) (t := 30) ?hr ?_; (case hd => rfl); (case hg => rfl); (case hr => first | (go_simp; done) | (go_simp; rfl)); intro gb634 hg w28 hbox hb; have n0_ := Aside0.mk (below_step hb_ hb); have n1_ := Aside0.mk (hbox); have n2_ := Aside0.mk ((by rw [hg]; exact (below_size hb_) : w.heap.size ≤ gb634)); have n3_ := Aside0.mk ((by rw [hg]; exact (below_size hb_) : w.heap.size ≤ gb634)); clear HB; have HB := n0_; have BK634 := n1_; have GW634 := n2_; have GE634 := n3_; clear n0_ n1_ n2_ n3_; clear hb hbox hg) | ((with_reducible refine gate_dst (N := 6) rfl ?_); refine box_event ?hg (N := 6) ?hd (cs := #[.int .i64 0, .int .i64 0, .int .i64 0]) (t := 30) ?hr ?_; (case hd => rfl); (case hg => rfl); (case hr => first | (go_simp; done) | (go_simp; rfl)); intro gb635 hg w29 hbox hb; have n0_ := Aside0.mk (blk_below (g := gb634) (o := .cells #[.int .i64 a0_0, .int .i64 a0_1, .int .i64 a0_2] 30 (0, 0)) (kb_ BK634.out) hb); have n1_ := Aside0.mk (below_step hb_ hb); have n2_ := Aside0.mk (hbox); have n3_ := Aside0.mk ((by rw [hg]; exact (below_size hb_) : w.heap.size ≤ gb635)); have n4_ := Aside0.mk ((by rw [hg]; exact (below_size hb_) : w.heap.size ≤ gb635)); have n5_ := Aside0.mk ((by rw [hg]; exact Nat.ne_of_lt (blk_lt (g := gb634) (o := .cells #[.int .i64 a0_0, .int .i64 a0_1, .int .i64 a0_2] 30 (0, 0)) (kb_ BK634.out)) : gb634 ≠ gb635)); have n6_ := Aside0.mk ((by rw [hg]; exact Nat.ne_of_gt (blk_lt (g := gb634) (o := .cells #[.int .i64 a0_0, .int .i64 a0_1, .int .i64 a0_2] 30 (0, 0)) (kb_ BK634.out)) : gb635 ≠ gb634)); clear BK634; clear HB; have BK634 := n0_; have HB := n1_; have BK635 := n2_; have GW635 := n3_; have GE635 := n4_; have NB634_635 := n5_; have NB635_634 := n6_; clear n0_ n1_ n2_ n3_ n4_ n5_ n6_; clear hb hbox hg; have hnb30 := NB634_635.out; have hnc30 := NB635_634.out; have hcz31_0 := cz_ (.int .i64 a0_0) BK634.out 0; have hcz31_1 := cz_ (.int .i64 a0_1) BK634.out 1; have hcz31_2 := cz_ (.int .i64 a0_2) BK634.out 2; have hfz31_0 := blk_frozen BK634.out 0; have hfz31_1 := blk_frozen BK634.out 1; have hfz31_2 := blk_frozen BK634.out 2) | ((with_reducible refine gate_callee (f := 87) rfl ?_); refine goesL_ (some 9) rfl rfl Try.func87 (by kernel_rfl) rfl #[.agg #[.int .i64 a0_0, .int .i64 a0_1, .int .i64 a0_2]] rfl mp_ ?_; (with_reducible refine (impl_MazeOk.calls a0_0 a0_1 a0_2 false _ A4.out).mono ?_); rintro e w32 ⟨rfl, hb⟩; refine ⟨_, rfl, ?_⟩; have n0_ := Aside0.mk (blk_below (g := gb634) (o := .cells #[.int .i64 a0_0, .int .i64 a0_1, .int .i64 a0_2] 30 (0, 0)) (kb_ BK634.out) hb); have n1_ := Aside0.mk (blk_below (g := gb635) (o := .cells #[.int .i64 0, .int .i64 0, .int .i64 0] 30 (0, 0)) (kb_ BK635.out) hb); have n2_ := Aside0.mk (below_step hb_ hb); clear BK634; clear BK635; clear HB; have BK634 := n0_; have BK635 := n1_; have HB := n2_; clear n0_ n1_ n2_; (try clear hb); (try clear hb2); (try clear hk); (try clear hi); have hcz33_0 := cz_ (.int .i64 a0_0) BK634.out 0; have hcz33_1 := cz_ (.int .i64 a0_1) BK634.out 1; have hcz33_2 := cz_ (.int .i64 a0_2) BK634.out 2; have hfz33_0 := blk_frozen BK634.out 0; have hfz33_1 := blk_frozen BK634.out 1; have hfz33_2 := blk_frozen BK634.out 2; have hcz34_0 := cz_ (.int .i64 0) BK635.out 0; have hcz34_1 := cz_ (.int .i64 0) BK635.out 1; have hcz34_2 := cz_ (.int .i64 0) BK635.out 2; have hfz34_0 := blk_frozen BK635.out 0; have hfz34_1 := blk_frozen BK635.out 1; have hfz34_2 := blk_frozen BK635.out 2))
  try (have hq634_0 : _ = some (.int .i64 a0_0) := (blk_cell BK634.out 0).trans rfl; have hqf634_0 := blk_frozen BK634.out 0; have hq634_1 : _ = some (.int .i64 a0_1) := (blk_cell BK634.out 1).trans rfl; have hqf634_1 := blk_frozen BK634.out 1; have hq634_2 : _ = some (.int .i64 a0_2) := (blk_cell BK634.out 2).trans rfl; have hqf634_2 := blk_frozen BK634.out 2; have hq635_0 : _ = some (.int .i64 a0_0) := (blk_cell BK635.out 0).trans rfl; have hqf635_0 := blk_frozen BK635.out 0; have hq635_1 : _ = some (.int .i64 a0_1) := (blk_cell BK635.out 1).trans rfl; have hqf635_1 := blk_frozen BK635.out 1; have hq635_2 : _ = some (.int .i64 a0_2) := (blk_cell BK635.out 2).trans rfl; have hqf635_2 := blk_frozen BK635.out 2; go_wp2)
  refine bodyPost_ret (results_ct rfl _ _ gb635 30 #[.int .i64 a0_0, .int .i64 a0_1, .int .i64 a0_2] (0, 0) _ rfl (by (with_reducible repeat (first | refine blk_drewN ?_ _ | refine blk_drew ?_ | refine blk_alloc ?_ _)); refine blk_put (cs := #[.int .i64 a0_0, .int .i64 a0_1, .int .i64 0]) ?_ 2 _ rfl; (with_reducible repeat (first | refine blk_drewN ?_ _ | refine blk_drew ?_ | refine blk_alloc ?_ _)); refine blk_put (cs := #[.int .i64 a0_0, .int .i64 0, .int .i64 0]) ?_ 1 _ rfl; (with_reducible repeat (first | refine blk_drewN ?_ _ | refine blk_drew ?_ | refine blk_alloc ?_ _)); refine blk_put (cs := #[.int .i64 0, .int .i64 0, .int .i64 0]) ?_ 0 _ rfl; (with_reducible repeat (first | refine blk_drewN ?_ _ | refine blk_drew ?_ | refine blk_alloc ?_ _)); exact BK635.out) Try.underlying30 rfl (by kernel_rfl)) rfl ?_
  exact ⟨er_, hb_⟩

/-! ### impl_FullMaze: function 48 -/
def impl_FullMaze.f (a0_0 : Int) (a0_1 : Int) : Option (Int × Int × Int) := (impl_GridOk.f a0_0 a0_1).bind fun t643 => (if t643 = true then ((impl_CountGaps.f a0_0 a0_1).bind fun t644 => (if 0 ≤ t644 then (some (a0_0, a0_1, wrap64 ((shl .i64 1 t644) - 1))) else (none))) else (some (0, 0, 0)))
set_option maxHeartbeats 8000000 in
set_option maxRecDepth 100000 in
theorem impl_FullMaze.calls (a0_0 : Int) (a0_1 : Int) (r1 : Int) (r2 : Int) (r3 : Int) (w : World) (h : impl_FullMaze.f a0_0 a0_1 = some (r1, r2, r3)) :
  Calls Try.prog 48 #[.agg #[.int .i64 a0_0, .int .i64 a0_1]] w fun e w' => e = .returned (.agg #[.int .i64 r1, .int .i64 r2, .int .i64 r3]) ∧ Below w.heap.size w w' := by
 have hu28 := Try.underlying28
 have hu30 := Try.underlying30
 have HB := Aside0.mk (Below.refl w.heap.size w)
 have H : ((impl_GridOk.f a0_0 a0_1).bind fun t643 => (if t643 = true then ((impl_CountGaps.f a0_0 a0_1).bind fun t644 => (if 0 ≤ t644 then (some (a0_0, a0_1, wrap64 ((shl .i64 1 t644) - 1))) else (none))) else (some (0, 0, 0)))) = some (r1, r2, r3) := h
 clear h
 replace H := Option.bind_eq_some_iff.mp H
 obtain ⟨t643, A20, H⟩ := H
 replace H : (if t643 = true then ((impl_CountGaps.f a0_0 a0_1).bind fun t644 => (if 0 ≤ t644 then (some (a0_0, a0_1, wrap64 ((shl .i64 1 t644) - 1))) else (none))) else (some (0, 0, 0))) = some (r1, r2, r3) := H
 have A2 := Aside0.mk A20
 clear A20
 by_cases c3 : t643 = true
 ·subst c3
  have H1 : ((impl_CountGaps.f a0_0 a0_1).bind fun t644 => (if 0 ≤ t644 then (some (a0_0, a0_1, wrap64 ((shl .i64 1 t644) - 1))) else (none))) = some (r1, r2, r3) := by rw [if_pos rfl] at H; exact H
  clear H
  have H := H1
  clear H1
  replace H := Option.bind_eq_some_iff.mp H
  obtain ⟨t644, A40, H⟩ := H
  replace H : (if 0 ≤ t644 then (some (a0_0, a0_1, wrap64 ((shl .i64 1 t644) - 1))) else (none)) = some (r1, r2, r3) := H
  have A4 := Aside0.mk A40
  clear A40
  by_cases c5 : 0 ≤ t644
  ·rw [if_pos c5] at H
   have c5b0 := eq_true c5
   have c5b1 : decide (0 ≤ t644) = true := decide_eq_true c5
   clear c5
   obtain ⟨ji6, hji6⟩ : ∃ j_ : Int, (shl .i64 1 t644) = j_ := ⟨_, rfl⟩
   replace H : (some (a0_0, a0_1, wrap64 ((ji6) - 1))) = some (r1, r2, r3) := by first | (rw [hji6] at H; exact H) | (simp only [hji6] at H ⊢; exact H)
   (try rw [hji6] at A2)
   (try rw [hji6] at A4)
   have hji6_ : (IntKind.i64.wrap (1 * 2 ^ min t644.toNat 64)) = ji6 := hji6
   have hji6z : t644 ≤ 64 → (IntKind.i64.wrap (1 * 2 ^ t644.toNat)) = ji6 := shl_small hji6
   have hji6u : (IntKind.i64.wrap (2 ^ min t644.toNat 64)) = ji6 := by have h_ := hji6_; rw [Int.one_mul] at h_; exact h_
   have hji6v : t644 ≤ 64 → (IntKind.i64.wrap (2 ^ t644.toNat)) = ji6 := fun hle_ => by have h_ := hji6z hle_; rw [Int.one_mul] at h_; exact h_
   have hji6y : (wrap64 (1 * 2 ^ min t644.toNat 64)) = ji6 := (i64_w _).symm.trans hji6_
   have hji6x : t644 ≤ 64 → (wrap64 (1 * 2 ^ t644.toNat)) = ji6 := fun h_ => (i64_w _).symm.trans (hji6z h_)
   simp only [Option.some.injEq, Prod.mk.injEq] at H
   obtain ⟨rfl, rfl, rfl⟩ := H
   go_enter Try.func48, Try.ntmps48
   try go_wp2_with (first | ((with_reducible refine gate_dst (N := 1) rfl ?_); refine box_event ?hg (N := 1) ?hd (cs := #[.int .i64 a0_0, .int .i64 a0_1]) (t := 28) ?hr ?_; (case hd => rfl); (case hg => rfl); (case hr => first | (go_simp; done) | (go_simp; rfl)); intro gb641 hg w7 hbox hb; have n0_ := Aside0.mk (below_step hb_ hb); have n1_ := Aside0.mk (hbox); have n2_ := Aside0.mk ((by rw [hg]; exact (below_size hb_) : w.heap.size ≤ gb641)); have n3_ := Aside0.mk ((by rw [hg]; exact (below_size hb_) : w.heap.size ≤ gb641)); clear HB; have HB := n0_; have BK641 := n1_; have GW641 := n2_; have GE641 := n3_; clear n0_ n1_ n2_ n3_; clear hb hbox hg) | ((with_reducible refine gate_dst (N := 2) rfl ?_); refine box_event ?hg (N := 2) ?hd (cs := #[.int .i64 0, .int .i64 0, .int .i64 0]) (t := 30) ?hr ?_; (case hd => rfl); (case hg => rfl); (case hr => first | (go_simp; done) | (go_simp; rfl)); intro gb642 hg w8 hbox hb; have n0_ := Aside0.mk (blk_below (g := gb641) (o := .cells #[.int .i64 a0_0, .int .i64 a0_1] 28 (0, 0)) (kb_ BK641.out) hb); have n1_ := Aside0.mk (below_step hb_ hb); have n2_ := Aside0.mk (hbox); have n3_ := Aside0.mk ((by rw [hg]; exact (below_size hb_) : w.heap.size ≤ gb642)); have n4_ := Aside0.mk ((by rw [hg]; exact (below_size hb_) : w.heap.size ≤ gb642)); have n5_ := Aside0.mk ((by rw [hg]; exact Nat.ne_of_lt (blk_lt (g := gb641) (o := .cells #[.int .i64 a0_0, .int .i64 a0_1] 28 (0, 0)) (kb_ BK641.out)) : gb641 ≠ gb642)); have n6_ := Aside0.mk ((by rw [hg]; exact Nat.ne_of_gt (blk_lt (g := gb641) (o := .cells #[.int .i64 a0_0, .int .i64 a0_1] 28 (0, 0)) (kb_ BK641.out)) : gb642 ≠ gb641)); clear BK641; clear HB; have BK641 := n0_; have HB := n1_; have BK642 := n2_; have GW642 := n3_; have GE642 := n4_; have NB641_642 := n5_; have NB642_641 := n6_; clear n0_ n1_ n2_ n3_ n4_ n5_ n6_; clear hb hbox hg; have hnb9 := NB641_642.out; have hnc9 := NB642_641.out; have hcz10_0 := cz_ (.int .i64 a0_0) BK641.out 0; have hcz10_1 := cz_ (.int .i64 a0_1) BK641.out 1; have hfz10_0 := blk_frozen BK641.out 0; have hfz10_1 := blk_frozen BK641.out 1) | ((with_reducible refine gate_callee (f := 100) rfl ?_); refine goesL_ (some 4) rfl rfl Try.func100 (by kernel_rfl) rfl #[.agg #[.int .i64 a0_0, .int .i64 a0_1]] rfl mp_ ?_; (with_reducible refine (impl_GridOk.calls a0_0 a0_1 true _ A2.out).mono ?_); rintro e w11 ⟨rfl, hb⟩; refine ⟨_, rfl, ?_⟩; have n0_ := Aside0.mk (blk_below (g := gb641) (o := .cells #[.int .i64 a0_0, .int .i64 a0_1] 28 (0, 0)) (kb_ BK641.out) hb); have n1_ := Aside0.mk (blk_below (g := gb642) (o := .cells #[.int .i64 0, .int .i64 0, .int .i64 0] 30 (0, 0)) (kb_ BK642.out) hb); have n2_ := Aside0.mk (below_step hb_ hb); clear BK641; clear BK642; clear HB; have BK641 := n0_; have BK642 := n1_; have HB := n2_; clear n0_ n1_ n2_; (try clear hb); (try clear hb2); (try clear hk); (try clear hi)))
   have n0_ := Aside0.mk (blk_drew BK641.out)
   have n1_ := Aside0.mk (blk_drew BK642.out)
   have n2_ := Aside0.mk (below_drew1 HB.out)
   clear BK641
   clear BK642
   clear HB
   have BK641 := n0_
   have BK642 := n1_
   have HB := n2_
   clear n0_ n1_ n2_
   refine start_ (n := 7) (S := fun w' => w'.cell? ⟨gb641, 0, none⟩ = some (.int .i64 a0_0) ∧ w'.cell? ⟨gb641, 1, none⟩ = some (.int .i64 a0_1)) (ds := []) #[false, false, false, false, false, false, false] (by kernel_rfl) rfl rfl ⟨(blk_cell BK641.out 0).trans rfl, (blk_cell BK641.out 1).trans rfl⟩ (fun hHeld => ?_)
   generalize w11.drew = w12 at BK641 BK642 HB hHeld ⊢
   refine take_ (i := 0) (N := some 7) (v := ?_) (a' := ?_) #[true, false, false, false, false, false, false] rfl rfl (by kernel_rfl) (fun _ _ _ h => h) (Or.inl ⟨by rfl, ?_⟩) hHeld ?_ ?_
   rotate_left
   ·rintro w' ⟨s0, s1⟩
    go_simp
    with_reducible rfl
   rotate_left
   ·simp only [Act.put, List.setIfInBounds_toArray, List.set_cons_zero, List.set_cons_succ, i64_w, i32_w]
    rfl
   refine take_ (i := 1) (N := some 8) (v := ?_) (a' := ?_) #[true, true, false, false, false, false, false] rfl rfl (by kernel_rfl) (fun _ _ _ h => h) (Or.inl ⟨by rfl, ?_⟩) hHeld ?_ ?_
   rotate_left
   ·rintro w' ⟨s0, s1⟩
    go_simp
    with_reducible rfl
   rotate_left
   ·simp only [Act.put, List.setIfInBounds_toArray, List.set_cons_zero, List.set_cons_succ, i64_w, i32_w]
    rfl
   refine one_ (i := 2) (N := some 9) #[true, true, true, false, false, false, false] rfl rfl (by kernel_rfl) (by decide) (fun K hK => ?_)
   refine goes_ Try.func49 (by kernel_rfl) rfl #[.agg #[.int .i64 a0_0, .int .i64 a0_1]] (by rfl) rfl rfl mp_ ?_
   with_reducible refine (impl_CountGaps.calls a0_0 a0_1 t644 _ A4.out).mono ?_
   rintro e w13 ⟨rfl, hb⟩
   refine ⟨_, rfl, ?_⟩
   have n0_ := Aside0.mk (blk_below (g := gb641) (o := .cells #[.int .i64 a0_0, .int .i64 a0_1] 28 (0, 0)) (kb_ BK641.out) hb)
   have n1_ := Aside0.mk (blk_below (g := gb642) (o := .cells #[.int .i64 0, .int .i64 0, .int .i64 0] 30 (0, 0)) (kb_ BK642.out) hb)
   have n2_ := Aside0.mk (below_step hb_ hb)
   clear BK641
   clear BK642
   clear HB
   have BK641 := n0_
   have BK642 := n1_
   have HB := n2_
   clear n0_ n1_ n2_
   (try clear hb)
   (try clear hb2)
   (try clear hk)
   (try clear hi)
   refine hK.out _ _ ⟨(blk_cell BK641.out 0).trans rfl, (blk_cell BK641.out 1).trans rfl⟩ (fun hHeld => ?_)
   clear hK K
   refine norm_ (a' := ?_) ?_ ?_
   rotate_left
   ·show Act.put _ (some 9) _ = _
    simp only [Act.put, List.setIfInBounds_toArray, List.set_cons_zero, List.set_cons_succ, i64_w, i32_w]
    rfl
   refine pure_ (i := 3) (N := some 10) (v := ?_) (a' := ?_) #[true, true, true, true, false, false, false] rfl rfl (by kernel_rfl) (fun _ _ _ h => h) (Or.inl ⟨by rfl, ?_⟩) ?_ ?_
   rotate_left
   ·intro w'
    go_simp
    with_reducible rfl
   rotate_left
   ·simp only [Act.put, List.setIfInBounds_toArray, List.set_cons_zero, List.set_cons_succ, i64_w, i32_w]
    rfl
   refine pure_ (i := 4) (N := some 11) (v := ?_) (a' := ?_) #[true, true, true, true, true, false, false] rfl rfl (by kernel_rfl) (fun _ _ _ h => h) (Or.inl ⟨by rfl, ?_⟩) ?_ ?_
   rotate_left
   ·intro w'
    go_simp
    with_reducible rfl
   rotate_left
   ·simp only [Act.put, List.setIfInBounds_toArray, List.set_cons_zero, List.set_cons_succ, i64_w, i32_w]
    rfl
   refine pure_ (i := 5) (N := some 12) (v := ?_) (a' := ?_) #[true, true, true, true, true, true, false] rfl rfl (by kernel_rfl) (fun _ _ _ h => h) (Or.inl ⟨by rfl, ?_⟩) ?_ ?_
   rotate_left
   ·intro w'
    go_simp
    with_reducible rfl
   rotate_left
   ·simp only [Act.put, List.setIfInBounds_toArray, List.set_cons_zero, List.set_cons_succ, i64_w, i32_w]
    rfl
   refine one_ (i := 6) (N := none) #[true, true, true, true, true, true, true] rfl rfl (by kernel_rfl) (by decide) (fun K hK => ?_)
   have hs14 : w13.cell? ⟨gb642, 0, none⟩ = some (.int .i64 0) := (blk_cell BK642.out 0).trans rfl
   have hfs14 := blk_frozen BK642.out 0
   have hns14_0 := NB641_642.out
   have hms14_0 := NB642_641.out
   have hs15 : w13.cell? ⟨gb642, 1, none⟩ = some (.int .i64 0) := (blk_cell BK642.out 1).trans rfl
   have hfs15 := blk_frozen BK642.out 1
   have hns15_0 := NB641_642.out
   have hms15_0 := NB642_641.out
   have hs16 : w13.cell? ⟨gb642, 2, none⟩ = some (.int .i64 0) := (blk_cell BK642.out 2).trans rfl
   have hfs16 := blk_frozen BK642.out 2
   have hns16_0 := NB641_642.out
   have hms16_0 := NB642_641.out
   refine skip_ (w1 := ?_) (by rfl) rfl ?_ ?_
   rotate_left
   ·go_simp
    rfl
   refine hK.out _ _ ⟨((cell_far (p := ⟨gb642, _, none⟩) NB641_642.out _).trans (((cell_far (p := ⟨gb642, _, none⟩) NB641_642.out _).trans (((cell_far (p := ⟨gb642, _, none⟩) NB641_642.out _).trans (hHeld.1)))))), ((cell_far (p := ⟨gb642, _, none⟩) NB641_642.out _).trans (((cell_far (p := ⟨gb642, _, none⟩) NB641_642.out _).trans (((cell_far (p := ⟨gb642, _, none⟩) NB641_642.out _).trans (hHeld.2))))))⟩ (fun hHeld => ?_)
   clear hK K
   refine done_ (by kernel_rfl) ?_
   try go_wp2
   try (have hq641_0 : _ = some (.int .i64 a0_0) := (blk_cell BK641.out 0).trans rfl; have hqf641_0 := blk_frozen BK641.out 0; have hq641_1 : _ = some (.int .i64 a0_1) := (blk_cell BK641.out 1).trans rfl; have hqf641_1 := blk_frozen BK641.out 1; have hq642_0 : _ = some (.int .i64 a0_0) := (blk_cell BK642.out 0).trans rfl; have hqf642_0 := blk_frozen BK642.out 0; have hq642_1 : _ = some (.int .i64 a0_1) := (blk_cell BK642.out 1).trans rfl; have hqf642_1 := blk_frozen BK642.out 1; have hq642_2 : _ = some (.int .i64 (wrap64 ((ji6) - 1))) := (blk_cell BK642.out 2).trans rfl; have hqf642_2 := blk_frozen BK642.out 2; go_wp2)
   refine bodyPost_ret (results_cell_row rfl _ _ gb642 30 #[.int .i64 a0_0, .int .i64 a0_1, .int .i64 (wrap64 ((ji6) - 1))] (0, 0) _ rfl (by (with_reducible repeat (first | refine blk_drewN ?_ _ | refine blk_drew ?_ | refine blk_alloc ?_ _)); refine blk_put (cs := #[.int .i64 a0_0, .int .i64 a0_1, .int .i64 0]) ?_ 2 _ rfl; (with_reducible repeat (first | refine blk_drewN ?_ _ | refine blk_drew ?_ | refine blk_alloc ?_ _)); refine blk_put (cs := #[.int .i64 a0_0, .int .i64 0, .int .i64 0]) ?_ 1 _ rfl; (with_reducible repeat (first | refine blk_drewN ?_ _ | refine blk_drew ?_ | refine blk_alloc ?_ _)); refine blk_put (cs := #[.int .i64 0, .int .i64 0, .int .i64 0]) ?_ 0 _ rfl; (with_reducible repeat (first | refine blk_drewN ?_ _ | refine blk_drew ?_ | refine blk_alloc ?_ _)); exact BK642.out) Try.underlying30 rfl (by kernel_rfl)) rfl ?_
   exact ⟨by first | rfl | (simp [errW_none, errW_some] <;> rfl) | (simp only [← hji6]; first | rfl | (simp [errW_none, errW_some] <;> rfl)) | (simp [*, errW_none, errW_some] <;> rfl), hb_⟩
  ·rw [if_neg c5] at H
   exact absurd H (by simp)
 ·replace c3 := Bool.eq_false_iff.mpr c3
  subst c3
  have H1 : (some (0, 0, 0)) = some (r1, r2, r3) := by rw [if_neg (show ¬ (false = true) by decide)] at H; exact H
  clear H
  have H := H1
  clear H1
  simp only [Option.some.injEq, Prod.mk.injEq] at H
  obtain ⟨rfl, rfl, rfl⟩ := H
  go_enter Try.func48, Try.ntmps48
  go_wp2_with (first | ((with_reducible refine gate_dst (N := 1) rfl ?_); refine box_event ?hg (N := 1) ?hd (cs := #[.int .i64 a0_0, .int .i64 a0_1]) (t := 28) ?hr ?_; (case hd => rfl); (case hg => rfl); (case hr => first | (go_simp; done) | (go_simp; rfl)); intro gb641 hg w17 hbox hb; have n0_ := Aside0.mk (below_step hb_ hb); have n1_ := Aside0.mk (hbox); have n2_ := Aside0.mk ((by rw [hg]; exact (below_size hb_) : w.heap.size ≤ gb641)); have n3_ := Aside0.mk ((by rw [hg]; exact (below_size hb_) : w.heap.size ≤ gb641)); clear HB; have HB := n0_; have BK641 := n1_; have GW641 := n2_; have GE641 := n3_; clear n0_ n1_ n2_ n3_; clear hb hbox hg) | ((with_reducible refine gate_dst (N := 2) rfl ?_); refine box_event ?hg (N := 2) ?hd (cs := #[.int .i64 0, .int .i64 0, .int .i64 0]) (t := 30) ?hr ?_; (case hd => rfl); (case hg => rfl); (case hr => first | (go_simp; done) | (go_simp; rfl)); intro gb642 hg w18 hbox hb; have n0_ := Aside0.mk (blk_below (g := gb641) (o := .cells #[.int .i64 a0_0, .int .i64 a0_1] 28 (0, 0)) (kb_ BK641.out) hb); have n1_ := Aside0.mk (below_step hb_ hb); have n2_ := Aside0.mk (hbox); have n3_ := Aside0.mk ((by rw [hg]; exact (below_size hb_) : w.heap.size ≤ gb642)); have n4_ := Aside0.mk ((by rw [hg]; exact (below_size hb_) : w.heap.size ≤ gb642)); have n5_ := Aside0.mk ((by rw [hg]; exact Nat.ne_of_lt (blk_lt (g := gb641) (o := .cells #[.int .i64 a0_0, .int .i64 a0_1] 28 (0, 0)) (kb_ BK641.out)) : gb641 ≠ gb642)); have n6_ := Aside0.mk ((by rw [hg]; exact Nat.ne_of_gt (blk_lt (g := gb641) (o := .cells #[.int .i64 a0_0, .int .i64 a0_1] 28 (0, 0)) (kb_ BK641.out)) : gb642 ≠ gb641)); clear BK641; clear HB; have BK641 := n0_; have HB := n1_; have BK642 := n2_; have GW642 := n3_; have GE642 := n4_; have NB641_642 := n5_; have NB642_641 := n6_; clear n0_ n1_ n2_ n3_ n4_ n5_ n6_; clear hb hbox hg; have hnb19 := NB641_642.out; have hnc19 := NB642_641.out; have hcz20_0 := cz_ (.int .i64 a0_0) BK641.out 0; have hcz20_1 := cz_ (.int .i64 a0_1) BK641.out 1; have hfz20_0 := blk_frozen BK641.out 0; have hfz20_1 := blk_frozen BK641.out 1) | ((with_reducible refine gate_callee (f := 100) rfl ?_); refine goesL_ (some 4) rfl rfl Try.func100 (by kernel_rfl) rfl #[.agg #[.int .i64 a0_0, .int .i64 a0_1]] rfl mp_ ?_; (with_reducible refine (impl_GridOk.calls a0_0 a0_1 false _ A2.out).mono ?_); rintro e w21 ⟨rfl, hb⟩; refine ⟨_, rfl, ?_⟩; have n0_ := Aside0.mk (blk_below (g := gb641) (o := .cells #[.int .i64 a0_0, .int .i64 a0_1] 28 (0, 0)) (kb_ BK641.out) hb); have n1_ := Aside0.mk (blk_below (g := gb642) (o := .cells #[.int .i64 0, .int .i64 0, .int .i64 0] 30 (0, 0)) (kb_ BK642.out) hb); have n2_ := Aside0.mk (below_step hb_ hb); clear BK641; clear BK642; clear HB; have BK641 := n0_; have BK642 := n1_; have HB := n2_; clear n0_ n1_ n2_; (try clear hb); (try clear hb2); (try clear hk); (try clear hi); have hcz22_0 := cz_ (.int .i64 0) BK642.out 0; have hcz22_1 := cz_ (.int .i64 0) BK642.out 1; have hcz22_2 := cz_ (.int .i64 0) BK642.out 2; have hfz22_0 := blk_frozen BK642.out 0; have hfz22_1 := blk_frozen BK642.out 1; have hfz22_2 := blk_frozen BK642.out 2))
  try (have hq641_0 : _ = some (.int .i64 a0_0) := (blk_cell BK641.out 0).trans rfl; have hqf641_0 := blk_frozen BK641.out 0; have hq641_1 : _ = some (.int .i64 a0_1) := (blk_cell BK641.out 1).trans rfl; have hqf641_1 := blk_frozen BK641.out 1; have hq642_0 : _ = some (.int .i64 0) := (blk_cell BK642.out 0).trans rfl; have hqf642_0 := blk_frozen BK642.out 0; have hq642_1 : _ = some (.int .i64 0) := (blk_cell BK642.out 1).trans rfl; have hqf642_1 := blk_frozen BK642.out 1; have hq642_2 : _ = some (.int .i64 0) := (blk_cell BK642.out 2).trans rfl; have hqf642_2 := blk_frozen BK642.out 2; go_wp2)
  refine bodyPost_ret (results_cell_row rfl _ _ gb642 30 #[.int .i64 0, .int .i64 0, .int .i64 0] (0, 0) _ rfl (by (with_reducible repeat (first | refine blk_drewN ?_ _ | refine blk_drew ?_ | refine blk_alloc ?_ _)); refine blk_put (cs := #[.int .i64 0, .int .i64 0, .int .i64 0]) ?_ 2 _ rfl; (with_reducible repeat (first | refine blk_drewN ?_ _ | refine blk_drew ?_ | refine blk_alloc ?_ _)); refine blk_put (cs := #[.int .i64 0, .int .i64 0, .int .i64 0]) ?_ 1 _ rfl; (with_reducible repeat (first | refine blk_drewN ?_ _ | refine blk_drew ?_ | refine blk_alloc ?_ _)); refine blk_put (cs := #[.int .i64 0, .int .i64 0, .int .i64 0]) ?_ 0 _ rfl; (with_reducible repeat (first | refine blk_drewN ?_ _ | refine blk_drew ?_ | refine blk_alloc ?_ _)); exact BK642.out) Try.underlying30 rfl (by kernel_rfl)) rfl ?_
  exact ⟨er_, hb_⟩

end Go.Proofs.Ytpaecckpdaiogaa.Q
