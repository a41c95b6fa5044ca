/- Plain Lean functions of Go functions, and for each the proof that its call comes to just that answer. Conditions: in each theorem's statement. -/
import Derived.Test.YtpaecckpdaiogaaQx0
import Derived.Test.YtpaecckpdaiogaaQx13
import Derived.Test.YtpaecckpdaiogaaQx19
import Derived.Test.YtpaecckpdaiogaaQx31
import Derived.Test.YtpaecckpdaiogaaQx51
import Derived.Test.YtpaecckpdaiogaaQx53
namespace Go.Proofs.Ytpaecckpdaiogaa.Q
open Go.RowKit Go.Proofs.YtpaecckpdaiogaaW.PrintWords Go.Proofs.YtpaecckpdaiogaaW.PrintLast
attribute [local go_sem] max2_int min2_int max_two min_two   -- for this text's walks alone
set_option linter.unusedVariables false
set_option linter.unusedSimpArgs false

/-! ### laws_FnExactKruskalMaze: function 10 -/
def laws_FnExactKruskalMaze.j0 : Nat → List Int → List Int → Bool → Option (Bool)
 | 0, _, _, _ => none
 | k + 1, x1, x7, x38 => if x38 = true then (some false) else ((laws_toIntS.f k x1).bind fun t558 => ((laws_eqIntS.f k x7 t558).bind fun t561 => (if t561 = true then (some true) else (some false))))
def laws_FnExactKruskalMaze.f (k : Nat) (a0_0 : Int) (a0_1 : Int) (l1 : List Int) : Option (Bool) := if (l1.length : Int) > 1048576 then (some true) else ((laws_toGrid.f a0_0 a0_1).bind fun bt537 => ((laws_toIntS.f k l1).bind fun t539 => ((spec_KruskalMaze.f k bt537.1 bt537.2 t539).bind fun bt542 => ((laws_toIntS.f k l1).bind fun t547 => ((laws_toGrid.f a0_0 a0_1).bind fun bt550 => ((impl_KruskalMaze.f k bt550.1 bt550.2 t547).bind fun bt552 => ((laws_eqMaze.f bt552.1 bt552.2.1 bt552.2.2.1 bt542.1 bt542.2.1 bt542.2.2.1).bind fun t557 => (if t557 = true then (laws_FnExactKruskalMaze.j0 k l1 t547 (bt552.2.2.2 != bt542.2.2.2)) else (laws_FnExactKruskalMaze.j0 k l1 t547 true)))))))))
theorem laws_FnExactKruskalMaze.mono_l : ∀ k, (∀ y0 y1 y2, LeO (laws_FnExactKruskalMaze.j0 k y0 y1 y2) (laws_FnExactKruskalMaze.j0 (k + 1) y0 y1 y2))
 | 0 => fun _ _ _ r h => by simp [laws_FnExactKruskalMaze.j0] at h
 | k + 1 => by
  have ih0 := laws_FnExactKruskalMaze.mono_l k
  ·intro y0 y1 y2
   unfold laws_FnExactKruskalMaze.j0
   repeat' first
   | (with_reducible exact ih0 _ _ _)
   | (with_reducible exact impl_KruskalMaze.mono _ _ _ _)
   | (with_reducible exact laws_eqIntS.mono _ _ _)
   | (with_reducible exact laws_toIntS.mono _ _)
   | (with_reducible exact spec_KruskalMaze.mono _ _ _ _)
   | (with_reducible exact LeO.refl _)
   | (with_reducible exact LeO.none _)
   | (with_reducible refine LeO.ite ?_ ?_)
   | (with_reducible refine LeO.bind ?_ (fun _ => ?_))
   | exact ih0 _ _ _
   | exact impl_KruskalMaze.mono _ _ _ _
   | exact laws_eqIntS.mono _ _ _
   | exact laws_toIntS.mono _ _
   | exact spec_KruskalMaze.mono _ _ _ _
   | exact LeO.none _
   | refine LeO.ite ?_ ?_
   | refine LeO.bind ?_ (fun _ => ?_)
theorem laws_FnExactKruskalMaze.mono : ∀ a0 a1 a2 k, LeO (laws_FnExactKruskalMaze.f k a0 a1 a2) (laws_FnExactKruskalMaze.f (k + 1) a0 a1 a2) := by
 intro a0 a1 a2 k
 have ih0 := laws_FnExactKruskalMaze.mono_l k
 unfold laws_FnExactKruskalMaze.f
 repeat' first
   | (with_reducible exact ih0 _ _ _)
   | (with_reducible exact impl_KruskalMaze.mono _ _ _ _)
   | (with_reducible exact laws_eqIntS.mono _ _ _)
   | (with_reducible exact laws_toIntS.mono _ _)
   | (with_reducible exact spec_KruskalMaze.mono _ _ _ _)
   | (with_reducible exact LeO.refl _)
   | (with_reducible exact LeO.none _)
   | (with_reducible refine LeO.ite ?_ ?_)
   | (with_reducible refine LeO.bind ?_ (fun _ => ?_))
   | exact ih0 _ _ _
   | exact impl_KruskalMaze.mono _ _ _ _
   | exact laws_eqIntS.mono _ _ _
   | exact laws_toIntS.mono _ _
   | exact spec_KruskalMaze.mono _ _ _ _
   | exact LeO.none _
   | refine LeO.ite ?_ ?_
   | refine LeO.bind ?_ (fun _ => ?_)
set_option maxHeartbeats 8000000 in
set_option maxRecDepth 100000 in
theorem laws_FnExactKruskalMaze.calls (k : Nat) (a0_0 : Int) (a0_1 : Int) (A1 : Option Addr) (c1 : Nat) (l1 : List Int) (r : Bool) (w : World) (hr1 : Kd.C (Kd.int .i64) w A1 l1.length l1) (hc1 : l1.length ≤ c1) (HT_ : Aside0 (r = true)) (h : laws_FnExactKruskalMaze.f k a0_0 a0_1 l1 = some r) :
  Calls Try.prog 10 #[.agg #[.int .i64 a0_0, .int .i64 a0_1], .slice A1 l1.length c1] w fun e w' => e = .returned (.bool r) ∧ Below w.heap.size w w' := by
 have hu23 := Try.underlying23
 have hu30 := Try.underlying30
 have HR1 := Aside0.mk hr1
 have HC1 := Aside0.mk hc1
 clear hr1 hc1
 have HB := Aside0.mk (Below.refl w.heap.size w)
 have H : (if (l1.length : Int) > 1048576 then (some true) else ((laws_toGrid.f a0_0 a0_1).bind fun bt537 => ((laws_toIntS.f k l1).bind fun t539 => ((spec_KruskalMaze.f k bt537.1 bt537.2 t539).bind fun bt542 => ((laws_toIntS.f k l1).bind fun t547 => ((laws_toGrid.f a0_0 a0_1).bind fun bt550 => ((impl_KruskalMaze.f k bt550.1 bt550.2 t547).bind fun bt552 => ((laws_eqMaze.f bt552.1 bt552.2.1 bt552.2.2.1 bt542.1 bt542.2.1 bt542.2.2.1).bind fun t557 => (if t557 = true then (laws_FnExactKruskalMaze.j0 k l1 t547 (bt552.2.2.2 != bt542.2.2.2)) else (laws_FnExactKruskalMaze.j0 k l1 t547 true)))))))))) = some r := h
 clear h
 by_cases c3 : (l1.length : Int) > 1048576
 ·rw [if_pos c3] at H
  have c3b0 : decide (1048576 < (l1.length : Int)) = true := decide_eq_true c3
  have c3b1 : decide (1048576 < l1.length) = true := decide_eq_true (by omega)
  clear c3
  obtain rfl := Option.some.inj H
  go_enter Try.func10, Try.ntmps10
  go_wp2_with (first | ((with_reducible refine gate_dst (N := 2) rfl ?_); refine box_event ?hg (N := 2) ?hd (cs := #[.int .i64 a0_0, .int .i64 a0_1]) (t := 23) ?hr ?_; (case hd => rfl); (case hg => rfl); (case hr => first | (go_simp; done) | (go_simp; rfl)); intro gb536 hg w4 hbox hb; have n0_ := Aside0.mk (below_step hb_ hb); have n1_ := Aside0.mk (hbox); have n2_ := Aside0.mk ((by rw [hg]; exact (below_size hb_) : w.heap.size ≤ gb536)); have n3_ := Aside0.mk ((by rw [hg]; exact (below_size hb_) : w.heap.size ≤ gb536)); clear HB; have HB := n0_; have BK536 := n1_; have GW536 := n2_; have GE536 := n3_; clear n0_ n1_ n2_ n3_; clear hb hbox hg))
  go_ret
  exact ⟨er_, hb_⟩
 ·rw [if_neg c3] at H
  have c3b0 : decide (1048576 < (l1.length : Int)) = false := decide_eq_false c3
  have c3b1 : decide (1048576 < l1.length) = false := decide_eq_false (by omega)
  clear c3
  replace H := Option.bind_eq_some_iff.mp H
  obtain ⟨⟨t537, t538⟩, A50, H⟩ := H
  replace H : ((laws_toIntS.f k l1).bind fun t539 => ((spec_KruskalMaze.f k t537 t538 t539).bind fun bt542 => ((laws_toIntS.f k l1).bind fun t547 => ((laws_toGrid.f a0_0 a0_1).bind fun bt550 => ((impl_KruskalMaze.f k bt550.1 bt550.2 t547).bind fun bt552 => ((laws_eqMaze.f bt552.1 bt552.2.1 bt552.2.2.1 bt542.1 bt542.2.1 bt542.2.2.1).bind fun t557 => (if t557 = true then (laws_FnExactKruskalMaze.j0 k l1 t547 (bt552.2.2.2 != bt542.2.2.2)) else (laws_FnExactKruskalMaze.j0 k l1 t547 true)))))))) = some r := H
  have A5 := Aside0.mk A50
  clear A50
  replace H := Option.bind_eq_some_iff.mp H
  obtain ⟨t539, A60, H⟩ := H
  replace H : ((spec_KruskalMaze.f k t537 t538 t539).bind fun bt542 => ((laws_toIntS.f k l1).bind fun t547 => ((laws_toGrid.f a0_0 a0_1).bind fun bt550 => ((impl_KruskalMaze.f k bt550.1 bt550.2 t547).bind fun bt552 => ((laws_eqMaze.f bt552.1 bt552.2.1 bt552.2.2.1 bt542.1 bt542.2.1 bt542.2.2.1).bind fun t557 => (if t557 = true then (laws_FnExactKruskalMaze.j0 k l1 t547 (bt552.2.2.2 != bt542.2.2.2)) else (laws_FnExactKruskalMaze.j0 k l1 t547 true))))))) = some r := H
  have A6 := Aside0.mk A60
  clear A60
  replace H := Option.bind_eq_some_iff.mp H
  obtain ⟨⟨t542, t543, t544, t545⟩, A70, H⟩ := H
  replace H : ((laws_toIntS.f k l1).bind fun t547 => ((laws_toGrid.f a0_0 a0_1).bind fun bt550 => ((impl_KruskalMaze.f k bt550.1 bt550.2 t547).bind fun bt552 => ((laws_eqMaze.f bt552.1 bt552.2.1 bt552.2.2.1 t542 t543 t544).bind fun t557 => (if t557 = true then (laws_FnExactKruskalMaze.j0 k l1 t547 (bt552.2.2.2 != t545)) else (laws_FnExactKruskalMaze.j0 k l1 t547 true)))))) = some r := H
  have A7 := Aside0.mk A70
  clear A70
  replace H := Option.bind_eq_some_iff.mp H
  obtain ⟨t547, A80, H⟩ := H
  replace H : ((laws_toGrid.f a0_0 a0_1).bind fun bt550 => ((impl_KruskalMaze.f k bt550.1 bt550.2 t547).bind fun bt552 => ((laws_eqMaze.f bt552.1 bt552.2.1 bt552.2.2.1 t542 t543 t544).bind fun t557 => (if t557 = true then (laws_FnExactKruskalMaze.j0 k l1 t547 (bt552.2.2.2 != t545)) else (laws_FnExactKruskalMaze.j0 k l1 t547 true))))) = some r := H
  have A8 := Aside0.mk A80
  clear A80
  replace H := Option.bind_eq_some_iff.mp H
  obtain ⟨⟨t550, t551⟩, A90, H⟩ := H
  replace H : ((impl_KruskalMaze.f k t550 t551 t547).bind fun bt552 => ((laws_eqMaze.f bt552.1 bt552.2.1 bt552.2.2.1 t542 t543 t544).bind fun t557 => (if t557 = true then (laws_FnExactKruskalMaze.j0 k l1 t547 (bt552.2.2.2 != t545)) else (laws_FnExactKruskalMaze.j0 k l1 t547 true)))) = some r := H
  have A9 := Aside0.mk A90
  clear A90
  have EA9 := Aside0.mk (show t550 = t537 ∧ t551 = t538 from by have e_ := Option.some.inj (A9.out.symm.trans A5.out); simpa only [Prod.mk.injEq] using e_)
  replace H := Option.bind_eq_some_iff.mp H
  obtain ⟨⟨t552, t553, t554, t555⟩, A100, H⟩ := H
  replace H : ((laws_eqMaze.f t552 t553 t554 t542 t543 t544).bind fun t557 => (if t557 = true then (laws_FnExactKruskalMaze.j0 k l1 t547 (t555 != t545)) else (laws_FnExactKruskalMaze.j0 k l1 t547 true))) = some r := H
  have A10 := Aside0.mk A100
  clear A100
  have HC11 := Aside0.mk H
  clear H
  go_enter Try.func10, Try.ntmps10
  go_upto_region 6 with (first | ((with_reducible refine gate_dst (N := 2) rfl ?_); refine box_event ?hg (N := 2) ?hd (cs := #[.int .i64 a0_0, .int .i64 a0_1]) (t := 23) ?hr ?_; (case hd => rfl); (case hg => rfl); (case hr => first | (go_simp; done) | (go_simp; rfl)); intro gb536 hg w12 hbox hb; have n0_ := Aside0.mk (below_step hb_ hb); have n1_ := Aside0.mk (hbox); have n2_ := Aside0.mk ((by rw [hg]; exact (below_size hb_) : w.heap.size ≤ gb536)); have n3_ := Aside0.mk ((by rw [hg]; exact (below_size hb_) : w.heap.size ≤ gb536)); clear HB; have HB := n0_; have BK536 := n1_; have GW536 := n2_; have GE536 := n3_; clear n0_ n1_ n2_ n3_; clear hb hbox hg; have hcz13_0 := cz_ (.int .i64 a0_0) BK536.out 0; have hcz13_1 := cz_ (.int .i64 a0_1) BK536.out 1; have hfz13_0 := blk_frozen BK536.out 0; have hfz13_1 := blk_frozen BK536.out 1) | ((with_reducible refine gate_callee (f := 36) rfl ?_); refine goesL_ (some 15) rfl rfl Try.func36 (by kernel_rfl) rfl #[.agg #[.int .i64 a0_0, .int .i64 a0_1]] rfl mp_ ?_; (with_reducible refine (laws_toGrid.calls a0_0 a0_1 t537 t538 _ A5.out).mono ?_); rintro e w14 ⟨rfl, hb⟩; refine ⟨_, rfl, ?_⟩; have n0_ := Aside0.mk (blk_below (g := gb536) (o := .cells #[.int .i64 a0_0, .int .i64 a0_1] 23 (0, 0)) (kb_ BK536.out) hb); have n1_ := Aside0.mk (below_step hb_ hb); clear BK536; clear HB; have BK536 := n0_; have HB := n1_; clear n0_ n1_; (try clear hb); (try clear hb2); (try clear hk); (try clear hi)) | ((with_reducible refine gate_callee (f := 28) rfl ?_); refine goesL_ (some 17) rfl rfl Try.func28 (by kernel_rfl) rfl #[.slice A1 l1.length c1] rfl mp_ ?_; (with_reducible refine (laws_toIntS.calls k _ _ l1 t539 _ ?side1 ?side2 A6.out).mono ?_); (case side1 => repeat (first | exact (Kd.C_below HR1.out HB.out) | (with_reducible refine Kd.C_alloc ?_ _) | (with_reducible refine Kd.C_drewN ?_ _) | (with_reducible refine Kd.C_drew ?_))); (case side2 => exact HC1.out); rintro e w15 ⟨v540, rfl, ho0, hb⟩; refine ⟨_, rfl, ?_⟩; have n0_ := Aside0.mk (Kd.R_lower ho0 (below_size hb_)); have n1_ := Aside0.mk (blk_below (g := gb536) (o := .cells #[.int .i64 a0_0, .int .i64 a0_1] 23 (0, 0)) (kb_ BK536.out) hb); have n2_ := Aside0.mk (below_step hb_ hb); clear BK536; clear HB; have HO541 := n0_; have BK536 := n1_; have HB := n2_; clear n0_ n1_ n2_; (try clear hb); (try clear hb2); (try clear hk); (try clear hi); (try clear ho0); obtain ⟨Ao16, co16, eo16⟩ := Kd.R_slice HO541.out; subst eo16) | ((with_reducible refine gate_callee (f := 35) rfl ?_); refine goesL_ (some 18) rfl rfl Try.func35 (by kernel_rfl) rfl #[.agg #[.int .i64 t537, .int .i64 t538], .slice Ao16 t539.length co16] rfl mp_ ?_; (with_reducible refine (spec_KruskalMaze.calls k t537 t538 _ _ t539 t542 t543 t544 t545 _ ?side1 ?side2 A7.out).mono ?_); (case side1 => repeat (first | exact (Kd.R_reads' HO541.out).2.2 | (with_reducible refine Kd.C_alloc ?_ _) | (with_reducible refine Kd.C_drewN ?_ _) | (with_reducible refine Kd.C_drew ?_))); (case side2 => exact (Kd.R_reads' HO541.out).2.1); rintro e w17 ⟨rfl, hb⟩; refine ⟨_, rfl, ?_⟩; have n0_ := Aside0.mk (Kd.R_below (kr_ HO541.out) hb); have n1_ := Aside0.mk (blk_below (g := gb536) (o := .cells #[.int .i64 a0_0, .int .i64 a0_1] 23 (0, 0)) (kb_ BK536.out) hb); have n2_ := Aside0.mk (below_step hb_ hb); clear HO541; clear BK536; clear HB; have HO541 := n0_; have BK536 := n1_; have HB := n2_; clear n0_ n1_ n2_; (try clear hb); (try clear hb2); (try clear hk); (try clear hi)) | ((with_reducible refine gate_dst (N := 5) rfl ?_); refine box_event ?hg (N := 5) ?hd (cs := #[.int .i64 0, .int .i64 0, .int .i64 0]) (t := 30) ?hr ?_; (case hd => rfl); (case hg => rfl); (case hr => first | (go_simp; done) | (go_simp; rfl)); intro gb546 hg w18 hbox hb; have n0_ := Aside0.mk (Kd.R_below (kr_ HO541.out) hb); have n1_ := Aside0.mk (blk_below (g := gb536) (o := .cells #[.int .i64 a0_0, .int .i64 a0_1] 23 (0, 0)) (kb_ BK536.out) hb); have n2_ := Aside0.mk (below_step hb_ hb); have n3_ := Aside0.mk (hbox); have n4_ := Aside0.mk ((by rw [hg]; exact (below_size hb_) : w.heap.size ≤ gb546)); have n5_ := Aside0.mk ((by rw [hg]; exact (below_size hb_) : w.heap.size ≤ gb546)); have n6_ := Aside0.mk ((by rw [hg]; exact Nat.ne_of_lt (blk_lt (g := gb536) (o := .cells #[.int .i64 a0_0, .int .i64 a0_1] 23 (0, 0)) (kb_ BK536.out)) : gb536 ≠ gb546)); have n7_ := Aside0.mk ((by rw [hg]; exact Nat.ne_of_gt (blk_lt (g := gb536) (o := .cells #[.int .i64 a0_0, .int .i64 a0_1] 23 (0, 0)) (kb_ BK536.out)) : gb546 ≠ gb536)); clear HO541; clear BK536; clear HB; have HO541 := n0_; have BK536 := n1_; have HB := n2_; have BK546 := n3_; have GW546 := n4_; have GE546 := n5_; have NB536_546 := n6_; have NB546_536 := n7_; clear n0_ n1_ n2_ n3_ n4_ n5_ n6_ n7_; clear hb hbox hg; have hnb19 := NB546_536.out; have hnc19 := NB536_546.out; have hcz20_0 := cz_ (.int .i64 0) BK546.out 0; have hcz20_1 := cz_ (.int .i64 0) BK546.out 1; have hcz20_2 := cz_ (.int .i64 0) BK546.out 2; have hfz20_0 := blk_frozen BK546.out 0; have hfz20_1 := blk_frozen BK546.out 1; have hfz20_2 := blk_frozen BK546.out 2) | ((with_reducible refine gate_callee (f := 28) rfl ?_); refine goesL_ (some 22) rfl rfl Try.func28 (by kernel_rfl) rfl #[.slice A1 l1.length c1] rfl mp_ ?_; (with_reducible refine (laws_toIntS.calls k _ _ l1 t547 _ ?side1 ?side2 A8.out).mono ?_); (case side1 => exact Kd.C_below HR1.out hb_); (case side2 => exact HC1.out); rintro e w21 ⟨v548, rfl, ho0, hb⟩; refine ⟨_, rfl, ?_⟩; have n0_ := Aside0.mk (Kd.R_elder' (by (with_reducible repeat (first | apply Kd.R_alloc | apply Kd.R_drewN | apply Kd.R_drew)); exact (Kd.R_mono (Kd.R_far (p := ⟨gb546, 2, none⟩) (Kd.R_far (p := ⟨gb546, 1, none⟩) (Kd.R_far (p := ⟨gb546, 0, none⟩) (Kd.R_types HO541.out BK546.out (by decide)) (fun _ hk => hk.2) (.int .i64 t542)) (fun _ hk => hk.2) (.int .i64 t543)) (fun _ hk => hk.2) (.int .i64 t544)) (fun _ h_ => h_.1))) (Kd.R_base ho0) hb); have n1_ := Aside0.mk (Kd.R_lower (Kd.R_new' ho0 (Kd.R_lt (by (with_reducible repeat (first | apply Kd.R_alloc | apply Kd.R_drewN | apply Kd.R_drew)); exact (Kd.R_mono (Kd.R_far (p := ⟨gb546, 2, none⟩) (Kd.R_far (p := ⟨gb546, 1, none⟩) (Kd.R_far (p := ⟨gb546, 0, none⟩) (Kd.R_types HO541.out BK546.out (by decide)) (fun _ hk => hk.2) (.int .i64 t542)) (fun _ hk => hk.2) (.int .i64 t543)) (fun _ hk => hk.2) (.int .i64 t544)) (fun _ h_ => h_.1))))) (below_size hb_)); have n2_ := Aside0.mk (blk_below (g := gb536) (o := .cells #[.int .i64 a0_0, .int .i64 a0_1] 23 (0, 0)) (by (with_reducible repeat (first | refine blk_drewN ?_ _ | refine blk_drew ?_ | refine blk_alloc ?_ _)); refine blk_far ?_ NB536_546.out _; (with_reducible repeat (first | refine blk_drewN ?_ _ | refine blk_drew ?_ | refine blk_alloc ?_ _)); refine blk_far ?_ NB536_546.out _; (with_reducible repeat (first | refine blk_drewN ?_ _ | refine blk_drew ?_ | refine blk_alloc ?_ _)); refine blk_far ?_ NB536_546.out _; (with_reducible repeat (first | refine blk_drewN ?_ _ | refine blk_drew ?_ | refine blk_alloc ?_ _)); exact BK536.out) hb); have n3_ := Aside0.mk (blk_below (g := gb546) (o := .cells #[.int .i64 t542, .int .i64 t543, .int .i64 t544] 30 (0, 0)) (by (with_reducible repeat (first | refine blk_drewN ?_ _ | refine blk_drew ?_ | refine blk_alloc ?_ _)); refine blk_put (cs := #[.int .i64 t542, .int .i64 t543, .int .i64 0]) ?_ 2 _ rfl; (with_reducible repeat (first | refine blk_drewN ?_ _ | refine blk_drew ?_ | refine blk_alloc ?_ _)); refine blk_put (cs := #[.int .i64 t542, .int .i64 0, .int .i64 0]) ?_ 1 _ rfl; (with_reducible repeat (first | refine blk_drewN ?_ _ | refine blk_drew ?_ | refine blk_alloc ?_ _)); refine blk_put (cs := #[.int .i64 0, .int .i64 0, .int .i64 0]) ?_ 0 _ rfl; (with_reducible repeat (first | refine blk_drewN ?_ _ | refine blk_drew ?_ | refine blk_alloc ?_ _)); exact BK546.out) hb); have n4_ := Aside0.mk (below_step hb_ hb); clear HO541; clear BK536; clear BK546; clear HB; have HO541 := n0_; have HO549 := n1_; have BK536 := n2_; have BK546 := n3_; have HB := n4_; clear n0_ n1_ n2_ n3_ n4_; (try clear hb); (try clear hb2); (try clear hk); (try clear hi); (try clear ho0); have hcz22_0 := cz_ (.int .i64 a0_0) BK536.out 0; have hcz22_1 := cz_ (.int .i64 a0_1) BK536.out 1; have hfz22_0 := blk_frozen BK536.out 0; have hfz22_1 := blk_frozen BK536.out 1) | ((with_reducible refine gate_callee (f := 36) rfl ?_); refine goesL_ (some 25) rfl rfl Try.func36 (by kernel_rfl) rfl #[.agg #[.int .i64 a0_0, .int .i64 a0_1]] rfl mp_ ?_; (with_reducible refine (laws_toGrid.calls a0_0 a0_1 t550 t551 _ A9.out).mono ?_); rintro e w23 ⟨rfl, hb⟩; refine ⟨_, rfl, ?_⟩; have n0_ := Aside0.mk (Kd.R_below (kr_ HO541.out) hb); have n1_ := Aside0.mk (Kd.R_below (kr_ HO549.out) hb); have n2_ := Aside0.mk (blk_below (g := gb536) (o := .cells #[.int .i64 a0_0, .int .i64 a0_1] 23 (0, 0)) (kb_ BK536.out) hb); have n3_ := Aside0.mk (blk_below (g := gb546) (o := .cells #[.int .i64 t542, .int .i64 t543, .int .i64 t544] 30 (0, 0)) (kb_ BK546.out) hb); have n4_ := Aside0.mk (below_step hb_ hb); clear HO541; clear HO549; clear BK536; clear BK546; clear HB; have HO541 := n0_; have HO549 := n1_; have BK536 := n2_; have BK546 := n3_; have HB := n4_; clear n0_ n1_ n2_ n3_ n4_; (try clear hb); (try clear hb2); (try clear hk); (try clear hi); obtain ⟨Ao24, co24, eo24⟩ := Kd.R_slice HO549.out; subst eo24) | ((with_reducible refine gate_callee (f := 37) rfl ?_); refine goesL_ (some 27) rfl rfl Try.func37 (by kernel_rfl) rfl #[.agg #[.int .i64 t550, .int .i64 t551], .slice Ao24 t547.length co24] rfl mp_ ?_; (with_reducible refine (impl_KruskalMaze.calls k t550 t551 _ _ t547 t552 t553 t554 t555 _ ?side1 ?side2 A10.out).mono ?_); (case side1 => repeat (first | exact (Kd.R_reads' HO549.out).2.2 | (with_reducible refine Kd.C_alloc ?_ _) | (with_reducible refine Kd.C_drewN ?_ _) | (with_reducible refine Kd.C_drew ?_))); (case side2 => exact (Kd.R_reads' HO549.out).2.1); rintro e w25 ⟨rfl, hb⟩; refine ⟨_, rfl, ?_⟩; have n0_ := Aside0.mk (Kd.R_below (kr_ HO541.out) hb); have n1_ := Aside0.mk (Kd.R_below (kr_ HO549.out) hb); have n2_ := Aside0.mk (blk_below (g := gb536) (o := .cells #[.int .i64 a0_0, .int .i64 a0_1] 23 (0, 0)) (kb_ BK536.out) hb); have n3_ := Aside0.mk (blk_below (g := gb546) (o := .cells #[.int .i64 t542, .int .i64 t543, .int .i64 t544] 30 (0, 0)) (kb_ BK546.out) hb); have n4_ := Aside0.mk (below_step hb_ hb); clear HO541; clear HO549; clear BK536; clear BK546; clear HB; have HO541 := n0_; have HO549 := n1_; have BK536 := n2_; have BK546 := n3_; have HB := n4_; clear n0_ n1_ n2_ n3_ n4_; (try clear hb); (try clear hb2); (try clear hk); (try clear hi)) | ((with_reducible refine gate_dst (N := 8) rfl ?_); refine box_event ?hg (N := 8) ?hd (cs := #[.int .i64 0, .int .i64 0, .int .i64 0]) (t := 30) ?hr ?_; (case hd => rfl); (case hg => rfl); (case hr => first | (go_simp; done) | (go_simp; rfl)); intro gb556 hg w26 hbox hb; have n0_ := Aside0.mk (Kd.R_below (kr_ HO541.out) hb); have n1_ := Aside0.mk (Kd.R_below (kr_ HO549.out) hb); have n2_ := Aside0.mk (blk_below (g := gb536) (o := .cells #[.int .i64 a0_0, .int .i64 a0_1] 23 (0, 0)) (kb_ BK536.out) hb); have n3_ := Aside0.mk (blk_below (g := gb546) (o := .cells #[.int .i64 t542, .int .i64 t543, .int .i64 t544] 30 (0, 0)) (kb_ BK546.out) hb); have n4_ := Aside0.mk (below_step hb_ hb); have n5_ := Aside0.mk (hbox); have n6_ := Aside0.mk ((by rw [hg]; exact (below_size hb_) : w.heap.size ≤ gb556)); have n7_ := Aside0.mk ((by rw [hg]; exact (below_size hb_) : w.heap.size ≤ gb556)); have n8_ := Aside0.mk ((by rw [hg]; exact Nat.ne_of_lt (blk_lt (g := gb536) (o := .cells #[.int .i64 a0_0, .int .i64 a0_1] 23 (0, 0)) (kb_ BK536.out)) : gb536 ≠ gb556)); have n9_ := Aside0.mk ((by rw [hg]; exact Nat.ne_of_gt (blk_lt (g := gb536) (o := .cells #[.int .i64 a0_0, .int .i64 a0_1] 23 (0, 0)) (kb_ BK536.out)) : gb556 ≠ gb536)); have n10_ := Aside0.mk ((by rw [hg]; exact Nat.ne_of_lt (blk_lt (g := gb546) (o := .cells #[.int .i64 t542, .int .i64 t543, .int .i64 t544] 30 (0, 0)) (kb_ BK546.out)) : gb546 ≠ gb556)); have n11_ := Aside0.mk ((by rw [hg]; exact Nat.ne_of_gt (blk_lt (g := gb546) (o := .cells #[.int .i64 t542, .int .i64 t543, .int .i64 t544] 30 (0, 0)) (kb_ BK546.out)) : gb556 ≠ gb546)); clear HO541; clear HO549; clear BK536; clear BK546; clear HB; have HO541 := n0_; have HO549 := n1_; have BK536 := n2_; have BK546 := n3_; have HB := n4_; have BK556 := n5_; have GW556 := n6_; have GE556 := n7_; have NB536_556 := n8_; have NB556_536 := n9_; have NB546_556 := n10_; have NB556_546 := n11_; clear n0_ n1_ n2_ n3_ n4_ n5_ n6_ n7_ n8_ n9_ n10_ n11_; clear hb hbox hg; have hnb27 := NB556_536.out; have hnc27 := NB536_556.out; have hnb28 := NB556_546.out; have hnc28 := NB546_556.out; have hcz29_0 := cz_ (.int .i64 0) BK556.out 0; have hcz29_1 := cz_ (.int .i64 0) BK556.out 1; have hcz29_2 := cz_ (.int .i64 0) BK556.out 2; have hfz29_0 := blk_frozen BK556.out 0; have hfz29_1 := blk_frozen BK556.out 1; have hfz29_2 := blk_frozen BK556.out 2))
  (try simp only [Act.put, List.setIfInBounds_toArray, List.set_cons_zero, List.set_cons_succ])
  go_cut [38] (fun v38 wc => ∃ (kq : Nat) (x38_10 : Bool), v38 = .bool x38_10 ∧ Aside0 (laws_FnExactKruskalMaze.j0 kq l1 t547 x38_10 = some r) ∧ Aside0 (kq ≤ k) ∧ Aside0 (Kd.R (Kd.int .i64) 3 wc w.heap.size (fun _ => True) (.slice Ao24 t547.length co24) t547) ∧ Aside0 (wc.heap[gb536]? = some (.cells #[.int .i64 a0_0, .int .i64 a0_1] 23 (0, 0))) ∧ Aside0 (wc.heap[gb546]? = some (.cells #[.int .i64 t542, .int .i64 t543, .int .i64 t544] 30 (0, 0))) ∧ Aside0 (wc.heap[gb556]? = some (.cells #[.int .i64 t552, .int .i64 t553, .int .i64 t554] 30 (0, 0))) ∧ Aside0 (Below w.heap.size w wc))
  case first =>
   have H := HC11.out
   clear HC11
   replace H := Option.bind_eq_some_iff.mp H
   obtain ⟨t557, A300, H⟩ := H
   replace H : (if t557 = true then (laws_FnExactKruskalMaze.j0 k l1 t547 (t555 != t545)) else (laws_FnExactKruskalMaze.j0 k l1 t547 true)) = some r := H
   have A30 := Aside0.mk A300
   clear A300
   by_cases c31 : t557 = true
   ·subst c31
    have H1 : (laws_FnExactKruskalMaze.j0 k l1 t547 (t555 != t545)) = some r := by rw [if_pos rfl] at H; exact H
    clear H
    have H := H1
    clear H1
    have H' := Aside0.mk H
    clear H
    have hnb32 := NB556_536.out
    have hnc32 := NB536_556.out
    have hnb33 := NB556_546.out
    have hnc33 := NB546_556.out
    have hcz34_0 := cz_ (.int .i64 0) BK556.out 0
    have hcz34_1 := cz_ (.int .i64 0) BK556.out 1
    have hcz34_2 := cz_ (.int .i64 0) BK556.out 2
    have hfz34_0 := blk_frozen BK556.out 0
    have hfz34_1 := blk_frozen BK556.out 1
    have hfz34_2 := blk_frozen BK556.out 2
    have hnb35 := NB546_536.out
    have hnc35 := NB536_546.out
    have hcz36_0 := cz_ (.int .i64 t542) BK546.out 0
    have hcz36_1 := cz_ (.int .i64 t543) BK546.out 1
    have hcz36_2 := cz_ (.int .i64 t544) BK546.out 2
    have hfz36_0 := blk_frozen BK546.out 0
    have hfz36_1 := blk_frozen BK546.out 1
    have hfz36_2 := blk_frozen BK546.out 2
    go_wp2_with (first | ((with_reducible refine gate_callee (f := 30) rfl ?_); refine goesL_ (some 32) rfl rfl Try.func30 (by kernel_rfl) rfl #[.agg #[.int .i64 t552, .int .i64 t553, .int .i64 t554], .agg #[.int .i64 t542, .int .i64 t543, .int .i64 t544]] rfl mp_ ?_; (with_reducible refine (laws_eqMaze.calls t552 t553 t554 t542 t543 t544 true _ A30.out).mono ?_); rintro e w37 ⟨rfl, hb⟩; refine ⟨_, rfl, ?_⟩; have n0_ := Aside0.mk (Kd.R_below (by (with_reducible repeat (first | apply Kd.R_alloc | apply Kd.R_drewN | apply Kd.R_drew)); exact (Kd.R_mono (Kd.R_far (p := ⟨gb556, 2, none⟩) (Kd.R_far (p := ⟨gb556, 1, none⟩) (Kd.R_far (p := ⟨gb556, 0, none⟩) (Kd.R_types HO541.out BK556.out (by decide)) (fun _ hk => hk.2) (.int .i64 t552)) (fun _ hk => hk.2) (.int .i64 t553)) (fun _ hk => hk.2) (.int .i64 t554)) (fun _ h_ => h_.1))) hb); have n1_ := Aside0.mk (Kd.R_below (by (with_reducible repeat (first | apply Kd.R_alloc | apply Kd.R_drewN | apply Kd.R_drew)); exact (Kd.R_mono (Kd.R_far (p := ⟨gb556, 2, none⟩) (Kd.R_far (p := ⟨gb556, 1, none⟩) (Kd.R_far (p := ⟨gb556, 0, none⟩) (Kd.R_types HO549.out BK556.out (by decide)) (fun _ hk => hk.2) (.int .i64 t552)) (fun _ hk => hk.2) (.int .i64 t553)) (fun _ hk => hk.2) (.int .i64 t554)) (fun _ h_ => h_.1))) hb); have n2_ := Aside0.mk (blk_below (g := gb536) (o := .cells #[.int .i64 a0_0, .int .i64 a0_1] 23 (0, 0)) (by (with_reducible repeat (first | refine blk_drewN ?_ _ | refine blk_drew ?_ | refine blk_alloc ?_ _)); refine blk_far ?_ NB536_556.out _; (with_reducible repeat (first | refine blk_drewN ?_ _ | refine blk_drew ?_ | refine blk_alloc ?_ _)); refine blk_far ?_ NB536_556.out _; (with_reducible repeat (first | refine blk_drewN ?_ _ | refine blk_drew ?_ | refine blk_alloc ?_ _)); refine blk_far ?_ NB536_556.out _; (with_reducible repeat (first | refine blk_drewN ?_ _ | refine blk_drew ?_ | refine blk_alloc ?_ _)); exact BK536.out) hb); have n3_ := Aside0.mk (blk_below (g := gb546) (o := .cells #[.int .i64 t542, .int .i64 t543, .int .i64 t544] 30 (0, 0)) (by (with_reducible repeat (first | refine blk_drewN ?_ _ | refine blk_drew ?_ | refine blk_alloc ?_ _)); refine blk_far ?_ NB546_556.out _; (with_reducible repeat (first | refine blk_drewN ?_ _ | refine blk_drew ?_ | refine blk_alloc ?_ _)); refine blk_far ?_ NB546_556.out _; (with_reducible repeat (first | refine blk_drewN ?_ _ | refine blk_drew ?_ | refine blk_alloc ?_ _)); refine blk_far ?_ NB546_556.out _; (with_reducible repeat (first | refine blk_drewN ?_ _ | refine blk_drew ?_ | refine blk_alloc ?_ _)); exact BK546.out) hb); have n4_ := Aside0.mk (blk_below (g := gb556) (o := .cells #[.int .i64 t552, .int .i64 t553, .int .i64 t554] 30 (0, 0)) (by (with_reducible repeat (first | refine blk_drewN ?_ _ | refine blk_drew ?_ | refine blk_alloc ?_ _)); refine blk_put (cs := #[.int .i64 t552, .int .i64 t553, .int .i64 0]) ?_ 2 _ rfl; (with_reducible repeat (first | refine blk_drewN ?_ _ | refine blk_drew ?_ | refine blk_alloc ?_ _)); refine blk_put (cs := #[.int .i64 t552, .int .i64 0, .int .i64 0]) ?_ 1 _ rfl; (with_reducible repeat (first | refine blk_drewN ?_ _ | refine blk_drew ?_ | refine blk_alloc ?_ _)); refine blk_put (cs := #[.int .i64 0, .int .i64 0, .int .i64 0]) ?_ 0 _ rfl; (with_reducible repeat (first | refine blk_drewN ?_ _ | refine blk_drew ?_ | refine blk_alloc ?_ _)); exact BK556.out) hb); have n5_ := Aside0.mk (below_step hb_ hb); clear HO541; clear HO549; clear BK536; clear BK546; clear BK556; clear HB; have HO541 := n0_; have HO549 := n1_; have BK536 := n2_; have BK546 := n3_; have BK556 := n4_; have HB := n5_; clear n0_ n1_ n2_ n3_ n4_ n5_; (try clear hb); (try clear hb2); (try clear hk); (try clear hi)))
    go_meet
    case rel => exact ⟨_, ((t555 != t545)), (by first | rfl | (simp; done) | (simp [*]; done)), H', ⟨by first | omega | exact Nat.le_refl _⟩, ⟨by (with_reducible repeat (first | apply Kd.R_alloc | apply Kd.R_drewN | apply Kd.R_drew)); exact Kd.R_mono HO549.out (fun _ hk => trivial)⟩, ⟨kb_ BK536.out⟩, ⟨kb_ BK546.out⟩, ⟨kb_ BK556.out⟩, ⟨hb_⟩⟩
   ·replace c31 := Bool.eq_false_iff.mpr c31
    subst c31
    have H1 : (laws_FnExactKruskalMaze.j0 k l1 t547 true) = some r := by rw [if_neg (show ¬ (false = true) by decide)] at H; exact H
    clear H
    have H := H1
    clear H1
    have H' := Aside0.mk H
    clear H
    have hnb38 := NB556_536.out
    have hnc38 := NB536_556.out
    have hnb39 := NB556_546.out
    have hnc39 := NB546_556.out
    have hcz40_0 := cz_ (.int .i64 0) BK556.out 0
    have hcz40_1 := cz_ (.int .i64 0) BK556.out 1
    have hcz40_2 := cz_ (.int .i64 0) BK556.out 2
    have hfz40_0 := blk_frozen BK556.out 0
    have hfz40_1 := blk_frozen BK556.out 1
    have hfz40_2 := blk_frozen BK556.out 2
    have hnb41 := NB546_536.out
    have hnc41 := NB536_546.out
    have hcz42_0 := cz_ (.int .i64 t542) BK546.out 0
    have hcz42_1 := cz_ (.int .i64 t543) BK546.out 1
    have hcz42_2 := cz_ (.int .i64 t544) BK546.out 2
    have hfz42_0 := blk_frozen BK546.out 0
    have hfz42_1 := blk_frozen BK546.out 1
    have hfz42_2 := blk_frozen BK546.out 2
    go_wp2_with (first | ((with_reducible refine gate_callee (f := 30) rfl ?_); refine goesL_ (some 32) rfl rfl Try.func30 (by kernel_rfl) rfl #[.agg #[.int .i64 t552, .int .i64 t553, .int .i64 t554], .agg #[.int .i64 t542, .int .i64 t543, .int .i64 t544]] rfl mp_ ?_; (with_reducible refine (laws_eqMaze.calls t552 t553 t554 t542 t543 t544 false _ A30.out).mono ?_); rintro e w43 ⟨rfl, hb⟩; refine ⟨_, rfl, ?_⟩; have n0_ := Aside0.mk (Kd.R_below (by (with_reducible repeat (first | apply Kd.R_alloc | apply Kd.R_drewN | apply Kd.R_drew)); exact (Kd.R_mono (Kd.R_far (p := ⟨gb556, 2, none⟩) (Kd.R_far (p := ⟨gb556, 1, none⟩) (Kd.R_far (p := ⟨gb556, 0, none⟩) (Kd.R_types HO541.out BK556.out (by decide)) (fun _ hk => hk.2) (.int .i64 t552)) (fun _ hk => hk.2) (.int .i64 t553)) (fun _ hk => hk.2) (.int .i64 t554)) (fun _ h_ => h_.1))) hb); have n1_ := Aside0.mk (Kd.R_below (by (with_reducible repeat (first | apply Kd.R_alloc | apply Kd.R_drewN | apply Kd.R_drew)); exact (Kd.R_mono (Kd.R_far (p := ⟨gb556, 2, none⟩) (Kd.R_far (p := ⟨gb556, 1, none⟩) (Kd.R_far (p := ⟨gb556, 0, none⟩) (Kd.R_types HO549.out BK556.out (by decide)) (fun _ hk => hk.2) (.int .i64 t552)) (fun _ hk => hk.2) (.int .i64 t553)) (fun _ hk => hk.2) (.int .i64 t554)) (fun _ h_ => h_.1))) hb); have n2_ := Aside0.mk (blk_below (g := gb536) (o := .cells #[.int .i64 a0_0, .int .i64 a0_1] 23 (0, 0)) (by (with_reducible repeat (first | refine blk_drewN ?_ _ | refine blk_drew ?_ | refine blk_alloc ?_ _)); refine blk_far ?_ NB536_556.out _; (with_reducible repeat (first | refine blk_drewN ?_ _ | refine blk_drew ?_ | refine blk_alloc ?_ _)); refine blk_far ?_ NB536_556.out _; (with_reducible repeat (first | refine blk_drewN ?_ _ | refine blk_drew ?_ | refine blk_alloc ?_ _)); refine blk_far ?_ NB536_556.out _; (with_reducible repeat (first | refine blk_drewN ?_ _ | refine blk_drew ?_ | refine blk_alloc ?_ _)); exact BK536.out) hb); have n3_ := Aside0.mk (blk_below (g := gb546) (o := .cells #[.int .i64 t542, .int .i64 t543, .int .i64 t544] 30 (0, 0)) (by (with_reducible repeat (first | refine blk_drewN ?_ _ | refine blk_drew ?_ | refine blk_alloc ?_ _)); refine blk_far ?_ NB546_556.out _; (with_reducible repeat (first | refine blk_drewN ?_ _ | refine blk_drew ?_ | refine blk_alloc ?_ _)); refine blk_far ?_ NB546_556.out _; (with_reducible repeat (first | refine blk_drewN ?_ _ | refine blk_drew ?_ | refine blk_alloc ?_ _)); refine blk_far ?_ NB546_556.out _; (with_reducible repeat (first | refine blk_drewN ?_ _ | refine blk_drew ?_ | refine blk_alloc ?_ _)); exact BK546.out) hb); have n4_ := Aside0.mk (blk_below (g := gb556) (o := .cells #[.int .i64 t552, .int .i64 t553, .int .i64 t554] 30 (0, 0)) (by (with_reducible repeat (first | refine blk_drewN ?_ _ | refine blk_drew ?_ | refine blk_alloc ?_ _)); refine blk_put (cs := #[.int .i64 t552, .int .i64 t553, .int .i64 0]) ?_ 2 _ rfl; (with_reducible repeat (first | refine blk_drewN ?_ _ | refine blk_drew ?_ | refine blk_alloc ?_ _)); refine blk_put (cs := #[.int .i64 t552, .int .i64 0, .int .i64 0]) ?_ 1 _ rfl; (with_reducible repeat (first | refine blk_drewN ?_ _ | refine blk_drew ?_ | refine blk_alloc ?_ _)); refine blk_put (cs := #[.int .i64 0, .int .i64 0, .int .i64 0]) ?_ 0 _ rfl; (with_reducible repeat (first | refine blk_drewN ?_ _ | refine blk_drew ?_ | refine blk_alloc ?_ _)); exact BK556.out) hb); have n5_ := Aside0.mk (below_step hb_ hb); clear HO541; clear HO549; clear BK536; clear BK546; clear BK556; clear HB; have HO541 := n0_; have HO549 := n1_; have BK536 := n2_; have BK546 := n3_; have BK556 := n4_; have HB := n5_; clear n0_ n1_ n2_ n3_ n4_ n5_; (try clear hb); (try clear hb2); (try clear hk); (try clear hi)))
    go_meet
    case rel => exact ⟨_, (true), (by first | rfl | (simp; done) | (simp [*]; done)), H', ⟨by first | omega | exact Nat.le_refl _⟩, ⟨by (with_reducible repeat (first | apply Kd.R_alloc | apply Kd.R_drewN | apply Kd.R_drew)); exact Kd.R_mono HO549.out (fun _ hk => trivial)⟩, ⟨kb_ BK536.out⟩, ⟨kb_ BK546.out⟩, ⟨kb_ BK556.out⟩, ⟨hb_⟩⟩
  case rest =>
   clear HC11
   try clear c1
   try clear c2
   try clear p2
   try clear c3
   try clear c3b0
   try clear c3b1
   try clear c4
   try clear c10
   try clear c19
   try clear c27
   try clear c28
   try clear c30
   try clear c31
   try clear c32
   try clear c33
   try clear c35
   try clear c36
   try clear c37
   try clear c38
   try clear c39
   try clear c41
   try clear hcz13_0
   try clear hcz13_1
   try clear hcz20_0
   try clear hcz20_1
   try clear hcz20_2
   try clear hcz22_0
   try clear hcz22_1
   try clear hcz29_0
   try clear hcz29_1
   try clear hcz29_2
   try clear hcz34_0
   try clear hcz34_1
   try clear hcz34_2
   try clear hcz36_0
   try clear hcz36_1
   try clear hcz36_2
   try clear hcz40_0
   try clear hcz40_1
   try clear hcz40_2
   try clear hcz42_0
   try clear hcz42_1
   try clear hcz42_2
   try clear hfz13_0
   try clear hfz13_1
   try clear hfz20_0
   try clear hfz20_1
   try clear hfz20_2
   try clear hfz22_0
   try clear hfz22_1
   try clear hfz29_0
   try clear hfz29_1
   try clear hfz29_2
   try clear hfz34_0
   try clear hfz34_1
   try clear hfz34_2
   try clear hfz36_0
   try clear hfz36_1
   try clear hfz36_2
   try clear hfz40_0
   try clear hfz40_1
   try clear hfz40_2
   try clear hfz42_0
   try clear hfz42_1
   try clear hfz42_2
   obtain ⟨kq, x38_10, rfl, HA, HJ10, HO_7, BK536, BK546, BK556, HB⟩ := hcut
   cases kq with
   | zero => exact absurd HA.out (by simp [laws_FnExactKruskalMaze.j0])
   | succ kj10 =>
    have H := HA.out
    clear HA
    simp only [laws_FnExactKruskalMaze.j0] at H
    by_cases c44 : x38_10 = true
    ·subst c44
     have H1 : (some false) = some r := by rw [if_pos rfl] at H; exact H
     clear H
     have H := H1
     clear H1
     exact absurd ((Option.some.inj H).trans HT_.out) (by decide)
    ·replace c44 := Bool.eq_false_iff.mpr c44
     subst c44
     have H1 : ((laws_toIntS.f kj10 l1).bind fun t558 => ((laws_eqIntS.f kj10 t547 t558).bind fun t561 => (if t561 = true then (some true) else (some false)))) = some r := by rw [if_neg (show ¬ (false = true) by decide)] at H; exact H
     clear H
     have H := H1
     clear H1
     replace H := Option.bind_eq_some_iff.mp H
     obtain ⟨t558, A450, H⟩ := H
     replace H : ((laws_eqIntS.f kj10 t547 t558).bind fun t561 => (if t561 = true then (some true) else (some false))) = some r := H
     have A45 := Aside0.mk A450
     clear A450
     replace H := Option.bind_eq_some_iff.mp H
     obtain ⟨t561, A460, H⟩ := H
     replace H : (if t561 = true then (some true) else (some false)) = some r := H
     have A46 := Aside0.mk A460
     clear A460
     by_cases c47 : t561 = true
     ·subst c47
      have H1 : (some true) = some r := by rw [if_pos rfl] at H; exact H
      clear H
      have H := H1
      clear H1
      obtain rfl := Option.some.inj H
      go_wp2_with (first | ((with_reducible refine gate_callee (f := 28) rfl ?_); refine goesL_ (some 41) rfl rfl Try.func28 (by kernel_rfl) rfl #[.slice A1 l1.length c1] rfl mp_ ?_; (with_reducible refine (laws_toIntS.calls kj10 _ _ l1 t558 _ ?side1 ?side2 A45.out).mono ?_); (case side1 => repeat (first | exact (Kd.C_below HR1.out HB.out) | (with_reducible refine Kd.C_alloc ?_ _) | (with_reducible refine Kd.C_drewN ?_ _) | (with_reducible refine Kd.C_drew ?_))); (case side2 => exact HC1.out); rintro e w48 ⟨v559, rfl, ho0, hb⟩; refine ⟨_, rfl, ?_⟩; have n0_ := Aside0.mk (Kd.R_elder' (kr_ HO_7.out) (Kd.R_base ho0) hb); have n1_ := Aside0.mk (Kd.R_lower (Kd.R_new' ho0 (Kd.R_lt (kr_ HO_7.out))) (below_size hb_)); have n2_ := Aside0.mk (blk_below (g := gb536) (o := .cells #[.int .i64 a0_0, .int .i64 a0_1] 23 (0, 0)) (kb_ BK536.out) hb); have n3_ := Aside0.mk (blk_below (g := gb546) (o := .cells #[.int .i64 t542, .int .i64 t543, .int .i64 t544] 30 (0, 0)) (kb_ BK546.out) hb); have n4_ := Aside0.mk (blk_below (g := gb556) (o := .cells #[.int .i64 t552, .int .i64 t553, .int .i64 t554] 30 (0, 0)) (kb_ BK556.out) hb); have n5_ := Aside0.mk (below_step hb_ hb); clear HO_7; clear BK536; clear BK546; clear BK556; clear HB; have HO_7 := n0_; have HO560 := n1_; have BK536 := n2_; have BK546 := n3_; have BK556 := n4_; have HB := n5_; clear n0_ n1_ n2_ n3_ n4_ n5_; (try clear hb); (try clear hb2); (try clear hk); (try clear hi); (try clear ho0); obtain ⟨Ao49, co49, eo49⟩ := Kd.R_slice HO560.out; subst eo49) | ((with_reducible refine gate_callee (f := 18) rfl ?_); refine goesL_ (some 42) rfl rfl Try.func18 (by kernel_rfl) rfl #[.slice Ao24 t547.length co24, .slice Ao49 t558.length co49] rfl mp_ ?_; (with_reducible refine (laws_eqIntS.calls kj10 _ _ t547 _ _ t558 true _ ?side1 ?side2 ?side3 ?side4 A46.out).mono ?_); (case side1 => repeat (first | exact (Kd.R_reads' HO_7.out).2.2 | (with_reducible refine Kd.C_alloc ?_ _) | (with_reducible refine Kd.C_drewN ?_ _) | (with_reducible refine Kd.C_drew ?_))); (case side2 => exact (Kd.R_reads' HO_7.out).2.1); (case side3 => repeat (first | exact (Kd.R_reads' HO560.out).2.2 | (with_reducible refine Kd.C_alloc ?_ _) | (with_reducible refine Kd.C_drewN ?_ _) | (with_reducible refine Kd.C_drew ?_))); (case side4 => exact (Kd.R_reads' HO560.out).2.1); rintro e w' ⟨rfl, ⟨nd, rfl⟩⟩; refine ⟨_, rfl, ?_⟩))
      go_ret
      exact ⟨er_, hb_⟩
     ·replace c47 := Bool.eq_false_iff.mpr c47
      subst c47
      have H1 : (some false) = some r := by rw [if_neg (show ¬ (false = true) by decide)] at H; exact H
      clear H
      have H := H1
      clear H1
      exact absurd ((Option.some.inj H).trans HT_.out) (by decide)

/-- THE ONE PURE STATEMENT of laws_FnExactKruskalMaze: yours. -/
def laws_FnExactKruskalMaze.Pure : Prop := ∀ (a0_0 : Int) (a0_1 : Int) (l1 : List Int), (Lit.int .i64 a0_0).wf = true → (Lit.int .i64 a0_1).wf = true → l1.length ≤ maxLen → l1.length * 8 ≤ 140737488351232 → (∀ x ∈ l1, (Lit.int .i64 x).wf = true) → ∃ k, laws_FnExactKruskalMaze.f k a0_0 a0_1 l1 = some true
theorem laws_FnExactKruskalMaze.walk (P : laws_FnExactKruskalMaze.Pure) (a0_0 : Int) (a0_1 : Int) (a1 : Option Addr) (len1 cap1 : Nat) (z1 : List Int) (w : World) (w0_0 : (Lit.int .i64 a0_0).wf = true) (w0_1 : (Lit.int .i64 a0_1).wf = true) (w1 : (a1 = none ∧ len1 = 0 ∧ cap1 = 0 ∧ z1 = []) ∨ ∃ x, a1 = some x ∧ len1 ≤ cap1 ∧ cap1 ≤ maxLen ∧ z1.length = cap1 ∧ (∀ i, i < z1.length → w.cell? (x.add i) = some (.int .i64 (z1.getD i 0))) ∧ ∀ n ∈ z1, (Lit.int .i64 n).wf = true) (y1 : len1 * 8 ≤ 140737488351232) :
  Calls Try.prog 10 #[.agg #[.int .i64 a0_0, .int .i64 a0_1], .slice a1 len1 cap1] w fun e w' => e = .returned (.bool true) ∧ Below w.heap.size w w' := by
 obtain ⟨l1, rfl, hr1, hm1, hw1, hc1⟩ := ReadsInt.ofRowC w1
 obtain ⟨k, h⟩ := P a0_0 a0_1 l1 w0_0 w0_1 hm1 y1 hw1
 refine (laws_FnExactKruskalMaze.calls k a0_0 a0_1 _ _ l1 true w (Kd.C_of_reads (d := (0 : Int)) (h1 := fun _ => rfl) hr1) hc1 ⟨rfl⟩ h).mono ?_
 rintro e w' ⟨rfl, hd⟩
 exact ⟨rfl, hd⟩

end Go.Proofs.Ytpaecckpdaiogaa.Q
