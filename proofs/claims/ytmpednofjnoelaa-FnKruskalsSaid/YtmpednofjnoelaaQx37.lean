/- Plain Lean functions of Go functions, and for each the proof that its call comes to just that answer. Conditions: in each theorem's statement. -/
import Derived.Test.YtmpednofjnoelaaQx0
import Derived.Test.YtmpednofjnoelaaQx1
import Derived.Test.YtmpednofjnoelaaQx24
import Derived.Test.YtmpednofjnoelaaQx25
import Derived.Test.YtmpednofjnoelaaQx33
import Derived.Test.YtmpednofjnoelaaQx34
import Derived.Test.YtmpednofjnoelaaQx35
import Derived.Test.YtmpednofjnoelaaQx36
namespace Go.Proofs.Ytmpednofjnoelaa.Q
open Go.RowKit Go.Proofs.YtmpednofjnoelaaW.PrintWords Go.Proofs.YtmpednofjnoelaaW.PrintLast
attribute [local go_sem] max2_int min2_int max_two min_two   -- for this text's walks alone
set_option linter.unusedVariables false
set_option linter.unusedSimpArgs false

/-! ### laws_FnKruskals: function 5 -/
mutual
def laws_FnKruskals.l0 : Nat → List Int → List Int → Int → Int → Int → Int → Option (Bool)
 | 0, _, _, _, _, _, _ => none
 | k + 1, x0, x4, x5, x6, x460000, x460001 => if x6 < x5 then ((laws_at.f x0 x6).bind fun t464 => (if x5 = 0 then (none) else (if x4.length < 17592186044416 then (laws_FnKruskals.l0 k x0 (x4 ++ [Int.tmod t464 x5]) x5 (wrap64 (x6 + 1)) x460000 x460001) else (none)))) else (laws_FnKruskals.l1 k x4 x5 0 x460000 x460001)
def laws_FnKruskals.l1 : Nat → List Int → Int → Int → Int → Int → Option (Bool)
 | 0, _, _, _, _, _ => none
 | k + 1, x4, x5, x7, x460000, x460001 => if x7 < x5 then (if x4.length < 17592186044416 then (laws_FnKruskals.l1 k (x4 ++ [x7]) x5 (wrap64 (x7 + 1)) x460000 x460001) else (none)) else ((impl_KruskalMaze.f k x460000 x460001 x4).bind fun bt471 => (laws_FnKruskals.l2 k x4 x5 bt471.2.2.2 0 bt471.1 bt471.2.1 bt471.2.2.1))
def laws_FnKruskals.l2 : Nat → List Int → Int → Bool → Int → Int → Int → Int → Option (Bool)
 | 0, _, _, _, _, _, _, _ => none
 | k + 1, x4, x5, x9, x10, x476000, x476001, x476002 => if x10 < x5 then ((impl_WouldJoin.f k x476000 x476001 x476002 x10).bind fun t476 => (if t476 = true then (some false) else (laws_FnKruskals.l2 k x4 x5 x9 (wrap64 (x10 + 1)) x476000 x476001 x476002))) else (if x9 = true then ((impl_IsPerfect.f k x476000 x476001 x476002).bind fun t477 => (if t477 = true then (if x5 = 0 then (some true) else (if 0 < (x4.length : Int) then ((impl_IsPassage.f x476000 x476001 x476002 (rd x4 0)).bind fun t479 => (some t479)) else (none))) else (some false))) else (some false))
end
def laws_FnKruskals.f (k : Nat) (l0 : List Int) : Option (Bool) := (laws_big.f l0).bind fun t456 => (if t456 = true then (some true) else ((spec_DrawGrid.f k l0).bind fun bt457 => ((spec_CountGaps.f bt457.1 bt457.2).bind fun t463 => (laws_FnKruskals.l0 k l0 (([] : List Int)) t463 0 bt457.1 bt457.2))))
theorem laws_FnKruskals.mono_l : ∀ k, (∀ y0 y1 y2 y3 y4 y5, LeO (laws_FnKruskals.l0 k y0 y1 y2 y3 y4 y5) (laws_FnKruskals.l0 (k + 1) y0 y1 y2 y3 y4 y5)) ∧ (∀ y0 y1 y2 y3 y4, LeO (laws_FnKruskals.l1 k y0 y1 y2 y3 y4) (laws_FnKruskals.l1 (k + 1) y0 y1 y2 y3 y4)) ∧ (∀ y0 y1 y2 y3 y4 y5 y6, LeO (laws_FnKruskals.l2 k y0 y1 y2 y3 y4 y5 y6) (laws_FnKruskals.l2 (k + 1) y0 y1 y2 y3 y4 y5 y6))
 | 0 => ⟨fun _ _ _ _ _ _ r h => by simp [laws_FnKruskals.l0] at h, fun _ _ _ _ _ r h => by simp [laws_FnKruskals.l1] at h, fun _ _ _ _ _ _ _ r h => by simp [laws_FnKruskals.l2] at h⟩
 | k + 1 => by
  obtain ⟨ih0, ih1, ih2⟩ := laws_FnKruskals.mono_l k
  refine ⟨?_, ?_, ?_⟩
  ·intro y0 y1 y2 y3 y4 y5
   unfold laws_FnKruskals.l0
   repeat' first
   | (with_reducible exact ih0 _ _ _ _ _ _)
   | (with_reducible exact ih1 _ _ _ _ _)
   | (with_reducible exact ih2 _ _ _ _ _ _ _)
   | (with_reducible exact impl_IsPerfect.mono _ _ _ _)
   | (with_reducible exact impl_KruskalMaze.mono _ _ _ _)
   | (with_reducible exact impl_WouldJoin.mono _ _ _ _ _)
   | (with_reducible exact spec_DrawGrid.mono _ _)
   | (with_reducible exact LeO.refl _)
   | (with_reducible exact LeO.none _)
   | (with_reducible refine LeO.ite ?_ ?_)
   | (with_reducible refine LeO.bind ?_ (fun _ => ?_))
   | exact ih0 _ _ _ _ _ _
   | exact ih1 _ _ _ _ _
   | exact ih2 _ _ _ _ _ _ _
   | exact impl_IsPerfect.mono _ _ _ _
   | exact impl_KruskalMaze.mono _ _ _ _
   | exact impl_WouldJoin.mono _ _ _ _ _
   | exact spec_DrawGrid.mono _ _
   | exact LeO.none _
   | refine LeO.ite ?_ ?_
   | refine LeO.bind ?_ (fun _ => ?_)
  ·intro y0 y1 y2 y3 y4
   unfold laws_FnKruskals.l1
   repeat' first
   | (with_reducible exact ih0 _ _ _ _ _ _)
   | (with_reducible exact ih1 _ _ _ _ _)
   | (with_reducible exact ih2 _ _ _ _ _ _ _)
   | (with_reducible exact impl_IsPerfect.mono _ _ _ _)
   | (with_reducible exact impl_KruskalMaze.mono _ _ _ _)
   | (with_reducible exact impl_WouldJoin.mono _ _ _ _ _)
   | (with_reducible exact spec_DrawGrid.mono _ _)
   | (with_reducible exact LeO.refl _)
   | (with_reducible exact LeO.none _)
   | (with_reducible refine LeO.ite ?_ ?_)
   | (with_reducible refine LeO.bind ?_ (fun _ => ?_))
   | exact ih0 _ _ _ _ _ _
   | exact ih1 _ _ _ _ _
   | exact ih2 _ _ _ _ _ _ _
   | exact impl_IsPerfect.mono _ _ _ _
   | exact impl_KruskalMaze.mono _ _ _ _
   | exact impl_WouldJoin.mono _ _ _ _ _
   | exact spec_DrawGrid.mono _ _
   | exact LeO.none _
   | refine LeO.ite ?_ ?_
   | refine LeO.bind ?_ (fun _ => ?_)
  ·intro y0 y1 y2 y3 y4 y5 y6
   unfold laws_FnKruskals.l2
   repeat' first
   | (with_reducible exact ih0 _ _ _ _ _ _)
   | (with_reducible exact ih1 _ _ _ _ _)
   | (with_reducible exact ih2 _ _ _ _ _ _ _)
   | (with_reducible exact impl_IsPerfect.mono _ _ _ _)
   | (with_reducible exact impl_KruskalMaze.mono _ _ _ _)
   | (with_reducible exact impl_WouldJoin.mono _ _ _ _ _)
   | (with_reducible exact spec_DrawGrid.mono _ _)
   | (with_reducible exact LeO.refl _)
   | (with_reducible exact LeO.none _)
   | (with_reducible refine LeO.ite ?_ ?_)
   | (with_reducible refine LeO.bind ?_ (fun _ => ?_))
   | exact ih0 _ _ _ _ _ _
   | exact ih1 _ _ _ _ _
   | exact ih2 _ _ _ _ _ _ _
   | exact impl_IsPerfect.mono _ _ _ _
   | exact impl_KruskalMaze.mono _ _ _ _
   | exact impl_WouldJoin.mono _ _ _ _ _
   | exact spec_DrawGrid.mono _ _
   | exact LeO.none _
   | refine LeO.ite ?_ ?_
   | refine LeO.bind ?_ (fun _ => ?_)
theorem laws_FnKruskals.mono : ∀ a0 k, LeO (laws_FnKruskals.f k a0) (laws_FnKruskals.f (k + 1) a0) := by
 intro a0 k
 obtain ⟨ih0, ih1, ih2⟩ := laws_FnKruskals.mono_l k
 unfold laws_FnKruskals.f
 repeat' first
   | (with_reducible exact ih0 _ _ _ _ _ _)
   | (with_reducible exact ih1 _ _ _ _ _)
   | (with_reducible exact ih2 _ _ _ _ _ _ _)
   | (with_reducible exact impl_IsPerfect.mono _ _ _ _)
   | (with_reducible exact impl_KruskalMaze.mono _ _ _ _)
   | (with_reducible exact impl_WouldJoin.mono _ _ _ _ _)
   | (with_reducible exact spec_DrawGrid.mono _ _)
   | (with_reducible exact LeO.refl _)
   | (with_reducible exact LeO.none _)
   | (with_reducible refine LeO.ite ?_ ?_)
   | (with_reducible refine LeO.bind ?_ (fun _ => ?_))
   | exact ih0 _ _ _ _ _ _
   | exact ih1 _ _ _ _ _
   | exact ih2 _ _ _ _ _ _ _
   | exact impl_IsPerfect.mono _ _ _ _
   | exact impl_KruskalMaze.mono _ _ _ _
   | exact impl_WouldJoin.mono _ _ _ _ _
   | exact spec_DrawGrid.mono _ _
   | exact LeO.none _
   | refine LeO.ite ?_ ?_
   | refine LeO.bind ?_ (fun _ => ?_)
def laws_FnKruskals.T20 : Bool × List (List Nat × List Nat) := (true, [([], []), ([0], [0]), ([1], [1]), ([2, 1, 1], [1, 2]), ([1, 3], [1, 3]), ([4, 3], [4]), ([5], [5]), ([6, 5], [5, 6]), ([7, 5, 5], [5, 7]), ([8], [8]), ([8], [8]), ([10, 8], [8, 10]), ([11, 8], [8, 11]), ([9, 12, 8, 8], [8, 9, 12]), ([8, 13, 5], [5, 8, 13]), ([5, 14], [5, 14]), ([15, 13, 0, 1, 2, 3, 4, 5, 6, 7, 8, 9, 10, 11, 12, 13, 14, 15], [15])])
def laws_FnKruskals.B20 : List Nat := [0, 1, 3, 7, 15, 31, 63, 127, 255, 511, 511, 1535, 3583, 8191, 16383, 32767, 65535]
theorem laws_FnKruskals.tab20 : rtab .any (opsOf Try.f5 20) = laws_FnKruskals.T20 := by kernel_rfl
theorem laws_FnKruskals.bits20 : waitsOk laws_FnKruskals.T20.2 laws_FnKruskals.B20 = true := by kernel_rfl
set_option maxHeartbeats 8000000 in
set_option maxRecDepth 100000 in
theorem laws_FnKruskals.calls (k : Nat) (A0 : Option Addr) (c0 : Nat) (l0 : List Int) (r : Bool) (w : World) (hr0 : Kd.C (Kd.int .u8) w A0 l0.length l0) (hc0 : l0.length ≤ c0) (HT_ : Aside0 (r = true)) (h : laws_FnKruskals.f k l0 = some r) :
  Calls Try.prog 5 #[.slice A0 l0.length c0] w fun e w' => e = .returned (.bool r) ∧ Below w.heap.size w w' := by
 have hu28 := Try.underlying28
 have hu30 := Try.underlying30
 have HR0 := Aside0.mk hr0
 have HC0 := Aside0.mk hc0
 clear hr0 hc0
 have HB := Aside0.mk (Below.refl w.heap.size w)
 have H : ((laws_big.f l0).bind fun t456 => (if t456 = true then (some true) else ((spec_DrawGrid.f k l0).bind fun bt457 => ((spec_CountGaps.f bt457.1 bt457.2).bind fun t463 => (laws_FnKruskals.l0 k l0 (([] : List Int)) t463 0 bt457.1 bt457.2))))) = some r := h
 clear h
 replace H := Option.bind_eq_some_iff.mp H
 obtain ⟨t456, A20, H⟩ := H
 replace H : (if t456 = true then (some true) else ((spec_DrawGrid.f k l0).bind fun bt457 => ((spec_CountGaps.f bt457.1 bt457.2).bind fun t463 => (laws_FnKruskals.l0 k l0 (([] : List Int)) t463 0 bt457.1 bt457.2)))) = some r := H
 have A2 := Aside0.mk A20
 clear A20
 by_cases c3 : t456 = true
 ·subst c3
  have H1 : (some true) = some r := by rw [if_pos rfl] at H; exact H
  clear H
  have H := H1
  clear H1
  obtain rfl := Option.some.inj H
  go_enter Try.func5, Try.ntmps5
  go_wp2_with (first | ((with_reducible refine gate_callee (f := 18) rfl ?_); refine goesL_ (some 12) rfl rfl Try.func18 (by kernel_rfl) rfl #[.slice A0 l0.length c0] rfl mp_ ?_; (with_reducible refine (laws_big.calls _ _ l0 true _ ?side1 ?side2 A2.out).mono ?_); (case side1 => repeat (first | exact HR0.out | (with_reducible refine Kd.C_alloc ?_ _) | (with_reducible refine Kd.C_drewN ?_ _) | (with_reducible refine Kd.C_drew ?_))); (case side2 => exact HC0.out); rintro e w' ⟨rfl, ⟨nd, rfl⟩⟩; refine ⟨_, rfl, ?_⟩))
  go_ret
  exact ⟨er_, hb_⟩
 ·replace c3 := Bool.eq_false_iff.mpr c3
  subst c3
  have H1 : ((spec_DrawGrid.f k l0).bind fun bt457 => ((spec_CountGaps.f bt457.1 bt457.2).bind fun t463 => (laws_FnKruskals.l0 k l0 (([] : List Int)) t463 0 bt457.1 bt457.2))) = some r := by rw [if_neg (show ¬ (false = true) by decide)] at H; exact H
  clear H
  have H := H1
  clear H1
  replace H := Option.bind_eq_some_iff.mp H
  obtain ⟨⟨t457, t458⟩, A40, H⟩ := H
  replace H : ((spec_CountGaps.f t457 t458).bind fun t463 => (laws_FnKruskals.l0 k l0 (([] : List Int)) t463 0 t457 t458)) = some r := H
  have A4 := Aside0.mk A40
  clear A40
  obtain ⟨y460, hy460⟩ : ∃ y_ : List Int, y_ = (([] : List Int)) := ⟨_, rfl⟩
  replace H : ((spec_CountGaps.f t457 t458).bind fun t463 => (laws_FnKruskals.l0 k l0 y460 t463 0 t457 t458)) = some r := by first | (rw [hy460]; with_reducible exact H) | (have H2_ := (Option.bind_some _ _).symm.trans H; rw [hy460]; with_reducible exact H2_) | (have H2_ := (Option.bind_some _ _).symm.trans H; with_reducible exact H2_) | with_reducible exact H | (rw [hy460]; exact H) | exact H
  have Ny460 := Aside0.mk hy460
  clear hy460
  replace H := Option.bind_eq_some_iff.mp H
  obtain ⟨t463, A50, H⟩ := H
  replace H : (laws_FnKruskals.l0 k l0 y460 t463 0 t457 t458) = some r := H
  have A5 := Aside0.mk A50
  clear A50
  have H' := Aside0.mk H
  clear H
  go_enter Try.func5, Try.ntmps5
  go_wp2_with (first | ((with_reducible refine gate_callee (f := 18) rfl ?_); refine goesL_ (some 12) rfl rfl Try.func18 (by kernel_rfl) rfl #[.slice A0 l0.length c0] rfl mp_ ?_; (with_reducible refine (laws_big.calls _ _ l0 false _ ?side1 ?side2 A2.out).mono ?_); (case side1 => repeat (first | exact HR0.out | (with_reducible refine Kd.C_alloc ?_ _) | (with_reducible refine Kd.C_drewN ?_ _) | (with_reducible refine Kd.C_drew ?_))); (case side2 => exact HC0.out); rintro e w' ⟨rfl, ⟨nd, rfl⟩⟩; refine ⟨_, rfl, ?_⟩) | ((with_reducible refine gate_callee (f := 19) rfl ?_); refine goesL_ (some 14) rfl rfl Try.func19 (by kernel_rfl) rfl #[.slice A0 l0.length c0] rfl mp_ ?_; (with_reducible refine (spec_DrawGrid.calls k _ _ l0 t457 t458 _ ?side1 ?side2 A4.out).mono ?_); (case side1 => repeat (first | exact HR0.out | (with_reducible refine Kd.C_alloc ?_ _) | (with_reducible refine Kd.C_drewN ?_ _) | (with_reducible refine Kd.C_drew ?_))); (case side2 => exact HC0.out); rintro e w6 ⟨rfl, hb⟩; refine ⟨_, rfl, ?_⟩; have n0_ := Aside0.mk (below_step hb_ hb); clear HB; have HB := n0_; clear n0_; (try clear hb); (try clear hb2); (try clear hk); (try clear hi)) | ((with_reducible refine gate_dst (N := 3) rfl ?_); refine box_event ?hg (N := 3) ?hd (cs := #[.int .i64 0, .int .i64 0]) (t := 28) ?hr ?_; (case hd => rfl); (case hg => rfl); (case hr => first | (go_simp; done) | (go_simp; rfl)); intro gb459 hg w7 hbox hb; have n0_ := Aside0.mk (below_step hb_ hb); have n1_ := Aside0.mk (hbox); have n2_ := Aside0.mk ((by rw [hg]; exact (below_size hb_) : w.heap.size ≤ gb459)); have n3_ := Aside0.mk ((by rw [hg]; exact (below_size hb_) : w.heap.size ≤ gb459)); clear HB; have HB := n0_; have BK459 := n1_; have GW459 := n2_; have GE459 := n3_; clear n0_ n1_ n2_ n3_; clear hb hbox hg; have hcz8_0 := cz_ (.int .i64 0) BK459.out 0; have hcz8_1 := cz_ (.int .i64 0) BK459.out 1; have hfz8_0 := blk_frozen BK459.out 0; have hfz8_1 := blk_frozen BK459.out 1) | ((with_reducible refine gate_dst (N := 15) rfl ?_); refine Kd.R_lit (Kd.int .i64) _ 3 ?hg (N := 15) ?hd (xs := ([] : List Int)) (inner := []) (ok := fun _ => True) (okp := fun _ => True) ?hr ?hp (fun _ hk => hk) trivial (Below.refl _ _) (Nat.le_refl _) (by simp) ?_; (case hd => rfl); (case hg => rfl); (case hr => first | (go_simp; done) | (go_simp; rfl)); (case hp => exact (Reps.none _ _)); intro v461 w9 ho10 hb hg_ hnew_; clear hg_ hnew_; (first | rw [← Ny460.out] at ho10 | (simp only [Int.reduceToNat] at ho10; rw [← Ny460.out] at ho10)); have n0_ := Aside0.mk (Kd.R_lower ho10 (below_size hb_)); have n1_ := Aside0.mk (blk_below (g := gb459) (o := .cells #[.int .i64 t457, .int .i64 t458] 28 (0, 0)) (by (with_reducible repeat (first | refine blk_drewN ?_ _ | refine blk_drew ?_ | refine blk_alloc ?_ _)); refine blk_put (cs := #[.int .i64 t457, .int .i64 0]) ?_ 1 _ rfl; (with_reducible repeat (first | refine blk_drewN ?_ _ | refine blk_drew ?_ | refine blk_alloc ?_ _)); refine blk_put (cs := #[.int .i64 0, .int .i64 0]) ?_ 0 _ rfl; (with_reducible repeat (first | refine blk_drewN ?_ _ | refine blk_drew ?_ | refine blk_alloc ?_ _)); exact BK459.out) hb); have n2_ := Aside0.mk (below_step hb_ hb); clear BK459; clear HB; have HO462 := n0_; have BK459 := n1_; have HB := n2_; clear n0_ n1_ n2_; clear hb ho10; have hcz11_0 := cz_ (.int .i64 t457) BK459.out 0; have hcz11_1 := cz_ (.int .i64 t458) BK459.out 1; have hfz11_0 := blk_frozen BK459.out 0; have hfz11_1 := blk_frozen BK459.out 1) | ((with_reducible refine gate_callee (f := 20) rfl ?_); refine goesL_ (some 17) rfl rfl Try.func20 (by kernel_rfl) rfl #[.agg #[.int .i64 t457, .int .i64 t458]] rfl mp_ ?_; (with_reducible refine (spec_CountGaps.calls t457 t458 t463 _ A5.out).mono ?_); rintro e w12 ⟨rfl, hb⟩; refine ⟨_, rfl, ?_⟩; have n0_ := Aside0.mk (Kd.R_below (kr_ HO462.out) hb); have n1_ := Aside0.mk (blk_below (g := gb459) (o := .cells #[.int .i64 t457, .int .i64 t458] 28 (0, 0)) (kb_ BK459.out) hb); have n2_ := Aside0.mk (below_step hb_ hb); clear HO462; clear BK459; clear HB; have HO462 := n0_; have BK459 := n1_; have HB := n2_; clear n0_ n1_ n2_; (try clear hb); (try clear hb2); (try clear hk); (try clear hi)))
  go_loopg [4, 6] k (fun kq v4 v6 w' => ∃ (x4_1 : List Int) (x6_1 : Int), v6 = .int .i64 x6_1 ∧ Aside0 (laws_FnKruskals.l0 kq l0 x4_1 t463 x6_1 t457 t458 = some r) ∧ Aside0 (kq ≤ k) ∧ Aside0 (Kd.R (Kd.int .i64) 3 w' w.heap.size (fun _ => True) v4 x4_1) ∧ Aside0 (w'.heap[gb459]? = some (.cells #[.int .i64 t457, .int .i64 t458] 28 (0, 0))) ∧ Aside0 (Below w.heap.size w w'))
  case atStart => exact ⟨(y460), (0), (by first | rfl | (simp; done) | (simp [*]; done)), H', ⟨Nat.le_refl _⟩, ⟨kr_ HO462.out⟩, ⟨kb_ BK459.out⟩, ⟨hb_⟩⟩
  case round =>
   clear H'
   try clear c1
   try clear c2
   try clear p2
   try clear c3
   try clear c5
   try clear hcz11_0
   try clear hcz11_1
   try clear hcz8_0
   try clear hcz8_1
   try clear hfz11_0
   try clear hfz11_1
   try clear hfz8_0
   try clear hfz8_1
   obtain ⟨x4_1, x6_1, rfl, HA, HK1, HO_4, BK459, HB⟩ := hrel
   cases gk with
   | zero => exact absurd HA.out (by simp [laws_FnKruskals.l0])
   | succ k1 =>
    have H := HA.out
    clear HA
    simp only [laws_FnKruskals.l0] at H
    by_cases c13 : x6_1 < t463
    ·rw [if_pos c13] at H
     have c13b0 : decide (x6_1 < t463) = true := decide_eq_true c13
     clear c13
     replace H := Option.bind_eq_some_iff.mp H
     obtain ⟨t464, A140, H⟩ := H
     replace H : (if t463 = 0 then (none) else (if x4_1.length < 17592186044416 then (laws_FnKruskals.l0 k1 l0 (x4_1 ++ [Int.tmod t464 t463]) t463 (wrap64 (x6_1 + 1)) t457 t458) else (none))) = some r := H
     have A14 := Aside0.mk A140
     clear A140
     by_cases c15 : t463 = 0
     ·rw [if_pos c15] at H
      exact absurd H (by simp)
     ·rw [if_neg c15] at H
      have c15b0 : (t463 == 0) = false := beq_eq_false_iff_ne.mpr c15
      have c15b1 : (t463 != 0) = true := bne_iff_ne.mpr c15
      by_cases c16 : x4_1.length < 17592186044416
      ·rw [if_pos c16] at H
       have LMc16 := Aside0.mk c16
       clear c16
       obtain ⟨y465, hy465⟩ : ∃ y_ : List Int, y_ = (x4_1 ++ [Int.tmod t464 t463]) := ⟨_, rfl⟩
       replace H : (laws_FnKruskals.l0 k1 l0 y465 t463 (wrap64 (x6_1 + 1)) t457 t458) = some r := by first | (rw [hy465]; with_reducible exact H) | (have H2_ := (Option.bind_some _ _).symm.trans H; rw [hy465]; with_reducible exact H2_) | (have H2_ := (Option.bind_some _ _).symm.trans H; with_reducible exact H2_) | with_reducible exact H | (rw [hy465]; exact H) | exact H
       have Ny465 := Aside0.mk hy465
       clear hy465
       have H' := Aside0.mk H
       clear H
       go_wp2_with (first | ((with_reducible refine gate_callee (f := 21) rfl ?_); refine goesL_ (some 26) rfl rfl Try.func21 (by kernel_rfl) rfl #[.slice A0 l0.length c0, .int .i64 x6_1] rfl mp_ ?_; (with_reducible refine (laws_at.calls _ _ l0 x6_1 t464 _ ?side1 ?side2 A14.out).mono ?_); (case side1 => repeat (first | exact (Kd.C_below HR0.out HB.out) | (with_reducible refine Kd.C_alloc ?_ _) | (with_reducible refine Kd.C_drewN ?_ _) | (with_reducible refine Kd.C_drew ?_))); (case side2 => exact HC0.out); rintro e w' ⟨rfl, ⟨nd, rfl⟩⟩; refine ⟨_, rfl, ?_⟩) | ((with_reducible refine gate_builtin (b := .append) (xs := #[.tmp 23, .tmp 29]) rfl ?_); at_builtin; refine Kd.R_append (Kd.int .i64) (w0 := w) w.heap.size rfl (.tmp 23) (.tmp 29) 43 3 (.int .i64 0) 8 rfl Try.underlying43 info3 rfl (by decide) (by omega) u4 x4_1 (Int.tmod t464 t463) [.int .i64 (Int.tmod t464 t463)] (fun _ => True) (fun _ => False) rfl rfl ?aP (fun _ hk => hk.elim) ?aF ?aO ?aB ?aS ?aL ?_; (case aP => exact rfl); (case aB => exact hb_); (case aF => exact (fun _ _ => trivial)); (case aO => exact (kr_ HO_4.out)); (case aS => exact (below_size hb_)); (case aL => have := LMc16.out; omega); intro v466 w17 ho hb hg hat; rw [← Ny465.out] at ho; have n0_ := Aside0.mk (blk_grown (g := gb459) (o := .cells #[.int .i64 t457, .int .i64 t458] 28 (0, 0)) (kb_ BK459.out) hg (Kd.R_ne HO_4.out BK459.out (by decide))); have n1_ := Aside0.mk (hb); have n2_ := Aside0.mk (ho); clear BK459; clear HB; clear HO_4; have BK459 := n0_; have HB := n1_; have HO467 := n2_; clear n0_ n1_ n2_; clear ho hb hg hat))
       go_roundg k1
       case measure => have := HK1.out; omega
       case rel => exact ⟨(y465), (wrap64 (x6_1 + 1)), (by first | rfl | (simp; done) | (simp [*]; done)), H', ⟨by have := HK1.out; omega⟩, ⟨kr_ HO467.out⟩, ⟨kb_ BK459.out⟩, ⟨hb_⟩⟩
      ·rw [if_neg c16] at H
       exact absurd H (by simp)
    ·rw [if_neg c13] at H
     have c13b0 : decide (x6_1 < t463) = false := decide_eq_false c13
     clear c13
     have H' := Aside0.mk H
     clear H
     go_wp2
     go_loopg [4, 7] k1 (fun kq v4 v7 w' => ∃ (x4_2 : List Int) (x7_2 : Int), v7 = .int .i64 x7_2 ∧ Aside0 (laws_FnKruskals.l1 kq x4_2 t463 x7_2 t457 t458 = some r) ∧ Aside0 (kq ≤ k1) ∧ Aside0 (Kd.R (Kd.int .i64) 3 w' w.heap.size (fun _ => True) v4 x4_2) ∧ Aside0 (w'.heap[gb459]? = some (.cells #[.int .i64 t457, .int .i64 t458] 28 (0, 0))) ∧ Aside0 (Below w.heap.size w w'))
     case atStart => exact ⟨(x4_1), (0), (by first | rfl | (simp; done) | (simp [*]; done)), H', ⟨Nat.le_refl _⟩, ⟨kr_ HO_4.out⟩, ⟨kb_ BK459.out⟩, ⟨hb_⟩⟩
     case round =>
      clear H'
      try clear c1
      try clear c2
      try clear p2
      try clear c3
      try clear c5
      try clear p6
      try clear c13
      try clear c13b0
      try clear c15
      try clear c15b0
      try clear c15b1
      try clear c16
      try clear hcz11_0
      try clear hcz11_1
      try clear hcz8_0
      try clear hcz8_1
      try clear hfz11_0
      try clear hfz11_1
      try clear hfz8_0
      try clear hfz8_1
      try clear p2
      obtain ⟨x4_2, x7_2, rfl, HA, HK2, HO_4, BK459, HB⟩ := hrel
      cases gk with
      | zero => exact absurd HA.out (by simp [laws_FnKruskals.l1])
      | succ k2 =>
       have H := HA.out
       clear HA
       simp only [laws_FnKruskals.l1] at H
       by_cases c18 : x7_2 < t463
       ·rw [if_pos c18] at H
        have c18b0 : decide (x7_2 < t463) = true := decide_eq_true c18
        clear c18
        by_cases c19 : x4_2.length < 17592186044416
        ·rw [if_pos c19] at H
         have LMc19 := Aside0.mk c19
         clear c19
         obtain ⟨y468, hy468⟩ : ∃ y_ : List Int, y_ = (x4_2 ++ [x7_2]) := ⟨_, rfl⟩
         replace H : (laws_FnKruskals.l1 k2 y468 t463 (wrap64 (x7_2 + 1)) t457 t458) = some r := by first | (rw [hy468]; with_reducible exact H) | (have H2_ := (Option.bind_some _ _).symm.trans H; rw [hy468]; with_reducible exact H2_) | (have H2_ := (Option.bind_some _ _).symm.trans H; with_reducible exact H2_) | with_reducible exact H | (rw [hy468]; exact H) | exact H
         have Ny468 := Aside0.mk hy468
         clear hy468
         have H' := Aside0.mk H
         clear H
         go_wp2_with (first | ((with_reducible refine gate_builtin (b := .append) (xs := #[.tmp 36, .tmp 38]) rfl ?_); at_builtin; refine Kd.R_append (Kd.int .i64) (w0 := w) w.heap.size rfl (.tmp 36) (.tmp 38) 43 3 (.int .i64 0) 8 rfl Try.underlying43 info3 rfl (by decide) (by omega) u4 x4_2 x7_2 [.int .i64 x7_2] (fun _ => True) (fun _ => False) rfl rfl ?aP (fun _ hk => hk.elim) ?aF ?aO ?aB ?aS ?aL ?_; (case aP => exact rfl); (case aB => exact hb_); (case aF => exact (fun _ _ => trivial)); (case aO => exact (kr_ HO_4.out)); (case aS => exact (below_size hb_)); (case aL => have := LMc19.out; omega); intro v469 w20 ho hb hg hat; rw [← Ny468.out] at ho; have n0_ := Aside0.mk (blk_grown (g := gb459) (o := .cells #[.int .i64 t457, .int .i64 t458] 28 (0, 0)) (kb_ BK459.out) hg (Kd.R_ne HO_4.out BK459.out (by decide))); have n1_ := Aside0.mk (hb); have n2_ := Aside0.mk (ho); clear BK459; clear HB; clear HO_4; have BK459 := n0_; have HB := n1_; have HO470 := n2_; clear n0_ n1_ n2_; clear ho hb hg hat))
         go_roundg k2
         case measure => have := HK1.out; have := HK2.out; omega
         case rel => exact ⟨(y468), (wrap64 (x7_2 + 1)), (by first | rfl | (simp; done) | (simp [*]; done)), H', ⟨by have := HK1.out; have := HK2.out; omega⟩, ⟨kr_ HO470.out⟩, ⟨kb_ BK459.out⟩, ⟨hb_⟩⟩
        ·rw [if_neg c19] at H
         exact absurd H (by simp)
       ·rw [if_neg c18] at H
        have c18b0 : decide (x7_2 < t463) = false := decide_eq_false c18
        clear c18
        replace H := Option.bind_eq_some_iff.mp H
        obtain ⟨⟨t471, t472, t473, t474⟩, A210, H⟩ := H
        replace H : (laws_FnKruskals.l2 k2 x4_2 t463 t474 0 t471 t472 t473) = some r := H
        have A21 := Aside0.mk A210
        clear A210
        have H' := Aside0.mk H
        clear H
        have hcz22_0 : wr.cell? ⟨gb459, 0, none⟩ = some (.int .i64 t457) := (blk_cell BK459.out 0).trans rfl
        have hcz22_1 : wr.cell? ⟨gb459, 1, none⟩ = some (.int .i64 t458) := (blk_cell BK459.out 1).trans rfl
        have hfz22_0 := blk_frozen BK459.out 0
        have hfz22_1 := blk_frozen BK459.out 1
        obtain ⟨Ao23, co23, eo23⟩ := Kd.R_slice HO_4.out
        subst eo23
        go_wp2_with (first | ((with_reducible refine gate_callee (f := 22) rfl ?_); refine goesL_ (some 43) rfl rfl Try.func22 (by kernel_rfl) rfl #[.agg #[.int .i64 t457, .int .i64 t458], .slice Ao23 x4_2.length co23] rfl mp_ ?_; (with_reducible refine (impl_KruskalMaze.calls k2 t457 t458 _ _ x4_2 t471 t472 t473 t474 _ ?side1 ?side2 A21.out).mono ?_); (case side1 => repeat (first | exact (Kd.R_reads' HO_4.out).2.2 | (with_reducible refine Kd.C_alloc ?_ _) | (with_reducible refine Kd.C_drewN ?_ _) | (with_reducible refine Kd.C_drew ?_))); (case side2 => exact (Kd.R_reads' HO_4.out).2.1); rintro e w24 ⟨rfl, hb⟩; refine ⟨_, rfl, ?_⟩; have n0_ := Aside0.mk (Kd.R_below (kr_ HO_4.out) hb); have n1_ := Aside0.mk (blk_below (g := gb459) (o := .cells #[.int .i64 t457, .int .i64 t458] 28 (0, 0)) (kb_ BK459.out) hb); have n2_ := Aside0.mk (below_step hb_ hb); clear HO_4; clear BK459; clear HB; have HO_4 := n0_; have BK459 := n1_; have HB := n2_; clear n0_ n1_ n2_; (try clear hb); (try clear hb2); (try clear hk); (try clear hi)) | ((with_reducible refine gate_dst (N := 8) rfl ?_); refine box_event ?hg (N := 8) ?hd (cs := #[.int .i64 0, .int .i64 0, .int .i64 0]) (t := 30) ?hr ?_; (case hd => rfl); (case hg => rfl); (case hr => first | (go_simp; done) | (go_simp; rfl)); intro gb475 hg w25 hbox hb; have n0_ := Aside0.mk (Kd.R_below (kr_ HO_4.out) hb); have n1_ := Aside0.mk (blk_below (g := gb459) (o := .cells #[.int .i64 t457, .int .i64 t458] 28 (0, 0)) (kb_ BK459.out) hb); have n2_ := Aside0.mk (below_step hb_ hb); have n3_ := Aside0.mk (hbox); have n4_ := Aside0.mk ((by rw [hg]; exact (below_size hb_) : w.heap.size ≤ gb475)); have n5_ := Aside0.mk ((by rw [hg]; exact (below_size hb_) : w.heap.size ≤ gb475)); have n6_ := Aside0.mk ((by rw [hg]; exact Nat.ne_of_lt (blk_lt (g := gb459) (o := .cells #[.int .i64 t457, .int .i64 t458] 28 (0, 0)) (kb_ BK459.out)) : gb459 ≠ gb475)); have n7_ := Aside0.mk ((by rw [hg]; exact Nat.ne_of_gt (blk_lt (g := gb459) (o := .cells #[.int .i64 t457, .int .i64 t458] 28 (0, 0)) (kb_ BK459.out)) : gb475 ≠ gb459)); clear HO_4; clear BK459; clear HB; have HO_4 := n0_; have BK459 := n1_; have HB := n2_; have BK475 := n3_; have GW475 := n4_; have GE475 := n5_; have NB459_475 := n6_; have NB475_459 := n7_; clear n0_ n1_ n2_ n3_ n4_ n5_ n6_ n7_; clear hb hbox hg; have hnb26 := NB475_459.out; have hnc26 := NB459_475.out; have hcz27_0 := cz_ (.int .i64 0) BK475.out 0; have hcz27_1 := cz_ (.int .i64 0) BK475.out 1; have hcz27_2 := cz_ (.int .i64 0) BK475.out 2; have hfz27_0 := blk_frozen BK475.out 0; have hfz27_1 := blk_frozen BK475.out 1; have hfz27_2 := blk_frozen BK475.out 2))
        go_loopg [10] k2 (fun kq v10 w' => ∃ (x10_3 : Int), v10 = .int .i64 x10_3 ∧ Aside0 (laws_FnKruskals.l2 kq x4_2 t463 t474 x10_3 t471 t472 t473 = some r) ∧ Aside0 (kq ≤ k2) ∧ Aside0 (Kd.R (Kd.int .i64) 3 w' w.heap.size (fun _ => True) (.slice Ao23 x4_2.length co23) x4_2) ∧ Aside0 (w'.heap[gb459]? = some (.cells #[.int .i64 t457, .int .i64 t458] 28 (0, 0))) ∧ Aside0 (w'.heap[gb475]? = some (.cells #[.int .i64 t471, .int .i64 t472, .int .i64 t473] 30 (0, 0))) ∧ Aside0 (Below w.heap.size w w'))
        case atStart => exact ⟨(0), (by first | rfl | (simp; done) | (simp [*]; done)), H', ⟨Nat.le_refl _⟩, ⟨by (with_reducible repeat (first | apply Kd.R_alloc | apply Kd.R_drewN | apply Kd.R_drew)); exact Kd.R_mono (Kd.R_far (p := ⟨gb475, 2, none⟩) (Kd.R_far (p := ⟨gb475, 1, none⟩) (Kd.R_far (p := ⟨gb475, 0, none⟩) (Kd.R_types HO_4.out BK475.out (by decide)) (fun _ hk => hk.2) (.int .i64 t471)) (fun _ hk => hk.2) (.int .i64 t472)) (fun _ hk => hk.2) (.int .i64 t473)) (fun _ hk => trivial)⟩, ⟨by (with_reducible repeat (first | refine blk_drewN ?_ _ | refine blk_drew ?_ | refine blk_alloc ?_ _)); refine blk_far ?_ NB459_475.out _; (with_reducible repeat (first | refine blk_drewN ?_ _ | refine blk_drew ?_ | refine blk_alloc ?_ _)); refine blk_far ?_ NB459_475.out _; (with_reducible repeat (first | refine blk_drewN ?_ _ | refine blk_drew ?_ | refine blk_alloc ?_ _)); refine blk_far ?_ NB459_475.out _; (with_reducible repeat (first | refine blk_drewN ?_ _ | refine blk_drew ?_ | refine blk_alloc ?_ _)); exact BK459.out⟩, ⟨by (with_reducible repeat (first | refine blk_drewN ?_ _ | refine blk_drew ?_ | refine blk_alloc ?_ _)); refine blk_put (cs := #[.int .i64 t471, .int .i64 t472, .int .i64 0]) ?_ 2 _ rfl; (with_reducible repeat (first | refine blk_drewN ?_ _ | refine blk_drew ?_ | refine blk_alloc ?_ _)); refine blk_put (cs := #[.int .i64 t471, .int .i64 0, .int .i64 0]) ?_ 1 _ rfl; (with_reducible repeat (first | refine blk_drewN ?_ _ | refine blk_drew ?_ | refine blk_alloc ?_ _)); refine blk_put (cs := #[.int .i64 0, .int .i64 0, .int .i64 0]) ?_ 0 _ rfl; (with_reducible repeat (first | refine blk_drewN ?_ _ | refine blk_drew ?_ | refine blk_alloc ?_ _)); exact BK475.out⟩, ⟨hb_⟩⟩
        case round =>
         clear H'
         try clear c1
         try clear c2
         try clear p2
         try clear c3
         try clear c5
         try clear p6
         try clear c13
         try clear c13b0
         try clear c15
         try clear c15b0
         try clear c15b1
         try clear c16
         try clear c18
         try clear c18b0
         try clear c19
         try clear c20
         try clear c21
         try clear c22
         try clear c26
         try clear hcz11_0
         try clear hcz11_1
         try clear hcz22_0
         try clear hcz22_1
         try clear hcz27_0
         try clear hcz27_1
         try clear hcz27_2
         try clear hcz8_0
         try clear hcz8_1
         try clear hfz11_0
         try clear hfz11_1
         try clear hfz22_0
         try clear hfz22_1
         try clear hfz27_0
         try clear hfz27_1
         try clear hfz27_2
         try clear hfz8_0
         try clear hfz8_1
         try clear p2
         try clear p6
         obtain ⟨x10_3, rfl, HA, HK3, HO_4, BK459, BK475, HB⟩ := hrel
         cases gk with
         | zero => exact absurd HA.out (by simp [laws_FnKruskals.l2])
         | succ k3 =>
          have H := HA.out
          clear HA
          simp only [laws_FnKruskals.l2] at H
          by_cases c28 : x10_3 < t463
          ·rw [if_pos c28] at H
           have c28b0 : decide (x10_3 < t463) = true := decide_eq_true c28
           clear c28
           replace H := Option.bind_eq_some_iff.mp H
           obtain ⟨t476, A290, H⟩ := H
           replace H : (if t476 = true then (some false) else (laws_FnKruskals.l2 k3 x4_2 t463 t474 (wrap64 (x10_3 + 1)) t471 t472 t473)) = some r := H
           have A29 := Aside0.mk A290
           clear A290
           by_cases c30 : t476 = true
           ·subst c30
            have H1 : (some false) = some r := by rw [if_pos rfl] at H; exact H
            clear H
            have H := H1
            clear H1
            exact absurd ((Option.some.inj H).trans HT_.out) (by decide)
           ·replace c30 := Bool.eq_false_iff.mpr c30
            subst c30
            have H1 : (laws_FnKruskals.l2 k3 x4_2 t463 t474 (wrap64 (x10_3 + 1)) t471 t472 t473) = some r := by rw [if_neg (show ¬ (false = true) by decide)] at H; exact H
            clear H
            have H := H1
            clear H1
            have H' := Aside0.mk H
            clear H
            have hnb31 := NB475_459.out
            have hnc31 := NB459_475.out
            have hcz32_0 : wr.cell? ⟨gb475, 0, none⟩ = some (.int .i64 t471) := (blk_cell BK475.out 0).trans rfl
            have hcz32_1 : wr.cell? ⟨gb475, 1, none⟩ = some (.int .i64 t472) := (blk_cell BK475.out 1).trans rfl
            have hcz32_2 : wr.cell? ⟨gb475, 2, none⟩ = some (.int .i64 t473) := (blk_cell BK475.out 2).trans rfl
            have hfz32_0 := blk_frozen BK475.out 0
            have hfz32_1 := blk_frozen BK475.out 1
            have hfz32_2 := blk_frozen BK475.out 2
            go_wp2_with (first | ((with_reducible refine gate_callee (f := 23) rfl ?_); refine goesL_ (some 53) rfl rfl Try.func23 (by kernel_rfl) rfl #[.agg #[.int .i64 t471, .int .i64 t472, .int .i64 t473], .int .i64 x10_3] rfl mp_ ?_; (with_reducible refine (impl_WouldJoin.calls k3 t471 t472 t473 x10_3 false _ A29.out).mono ?_); rintro e w33 ⟨rfl, hb⟩; refine ⟨_, rfl, ?_⟩; have n0_ := Aside0.mk (Kd.R_below (kr_ HO_4.out) hb); have n1_ := Aside0.mk (blk_below (g := gb459) (o := .cells #[.int .i64 t457, .int .i64 t458] 28 (0, 0)) (kb_ BK459.out) hb); have n2_ := Aside0.mk (blk_below (g := gb475) (o := .cells #[.int .i64 t471, .int .i64 t472, .int .i64 t473] 30 (0, 0)) (kb_ BK475.out) hb); have n3_ := Aside0.mk (below_step hb_ hb); clear HO_4; clear BK459; clear BK475; clear HB; have HO_4 := n0_; have BK459 := n1_; have BK475 := n2_; have HB := n3_; clear n0_ n1_ n2_ n3_; (try clear hb); (try clear hb2); (try clear hk); (try clear hi)))
            go_roundg k3
            case measure => have := HK1.out; have := HK2.out; have := HK3.out; omega
            case rel => exact ⟨(wrap64 (x10_3 + 1)), (by first | rfl | (simp; done) | (simp [*]; done)), H', ⟨by have := HK1.out; have := HK2.out; have := HK3.out; omega⟩, ⟨kr_ HO_4.out⟩, ⟨kb_ BK459.out⟩, ⟨kb_ BK475.out⟩, ⟨hb_⟩⟩
          ·rw [if_neg c28] at H
           have c28b0 : decide (x10_3 < t463) = false := decide_eq_false c28
           clear c28
           by_cases c34 : t474 = true
           ·subst c34
            have H1 : ((impl_IsPerfect.f k3 t471 t472 t473).bind fun t477 => (if t477 = true then (if t463 = 0 then (some true) else (if 0 < (x4_2.length : Int) then ((impl_IsPassage.f t471 t472 t473 (rd x4_2 0)).bind fun t479 => (some t479)) else (none))) else (some false))) = some r := by rw [if_pos rfl] at H; exact H
            clear H
            have H := H1
            clear H1
            replace H := Option.bind_eq_some_iff.mp H
            obtain ⟨t477, A350, H⟩ := H
            replace H : (if t477 = true then (if t463 = 0 then (some true) else (if 0 < (x4_2.length : Int) then ((impl_IsPassage.f t471 t472 t473 (rd x4_2 0)).bind fun t479 => (some t479)) else (none))) else (some false)) = some r := H
            have A35 := Aside0.mk A350
            clear A350
            by_cases c36 : t477 = true
            ·subst c36
             have H1 : (if t463 = 0 then (some true) else (if 0 < (x4_2.length : Int) then ((impl_IsPassage.f t471 t472 t473 (rd x4_2 0)).bind fun t479 => (some t479)) else (none))) = some r := by rw [if_pos rfl] at H; exact H
             clear H
             have H := H1
             clear H1
             by_cases c37 : t463 = 0
             ·rw [if_pos c37] at H
              have c37b0 : (t463 == 0) = true := beq_iff_eq.mpr c37
              have c37b1 : (t463 != 0) = false := bne_eq_false_iff_eq.mpr c37
              clear c37
              obtain rfl := Option.some.inj H
              try go_wp2
              have n0_ := Aside0.mk (Kd.R_drew HO_4.out)
              have n1_ := Aside0.mk (blk_drew BK459.out)
              have n2_ := Aside0.mk (blk_drew BK475.out)
              have n3_ := Aside0.mk (below_drew1 HB.out)
              clear HO_4
              clear BK459
              clear BK475
              clear HB
              have HO_4 := n0_
              have BK459 := n1_
              have BK475 := n2_
              have HB := n3_
              clear n0_ n1_ n2_ n3_
              refine start_ (n := 17) (S := fun w' => w'.cell? ⟨gb475, 0, none⟩ = some (.int .i64 t471) ∧ w'.cell? ⟨gb475, 1, none⟩ = some (.int .i64 t472) ∧ w'.cell? ⟨gb475, 2, none⟩ = some (.int .i64 t473)) (ds := []) #[false, false, false, false, false, false, false, false, false, false, false, false, false, false, false, false, false] (by kernel_rfl) rfl rfl ⟨(blk_cell BK475.out 0).trans rfl, (blk_cell BK475.out 1).trans rfl, (blk_cell BK475.out 2).trans rfl⟩ (fun hHeld => ?_); refine with_tabW laws_FnKruskals.tab20 laws_FnKruskals.bits20 (fun HT_ HW_ => ?_)
              generalize wr.drew = w38 at HO_4 BK459 BK475 HB hHeld ⊢
              refine pure_ (i := 0) (N := some 54) (v := ?_) (a' := ?_) #[true, false, false, false, false, false, false, false, false, false, false, false, false, false, false, false, false] rfl rfl (any_of HT_.out (by kernel_rfl)) (fun _ _ _ h => h) (Or.inl ⟨by rfl, ?_⟩) ?_ ?_
              rotate_left
              ·intro w'
               go_simp
               with_reducible rfl
              rotate_left
              ·simp only [Act.put, List.setIfInBounds_toArray, List.set_cons_zero, List.set_cons_succ, i64_w, i32_w]
               rfl
              refine pure_ (i := 1) (N := some 55) (v := ?_) (a' := ?_) #[true, true, false, false, false, false, false, false, false, false, false, false, false, false, false, false, false] rfl rfl (any_of HT_.out (by kernel_rfl)) (fun _ _ _ h => h) (Or.inl ⟨by rfl, ?_⟩) ?_ ?_
              rotate_left
              ·intro w'
               go_simp
               with_reducible rfl
              rotate_left
              ·simp only [Act.put, List.setIfInBounds_toArray, List.set_cons_zero, List.set_cons_succ, i64_w, i32_w]
               rfl
              refine take_ (i := 2) (N := some 56) (v := ?_) (a' := ?_) #[true, true, true, false, false, false, false, false, false, false, false, false, false, false, false, false, false] rfl rfl (take_ofW HT_.out HW_.out (by kernel_rfl)) (fun _ _ _ h => h) (Or.inl ⟨by rfl, ?_⟩) hHeld ?_ ?_
              rotate_left
              ·rintro w' ⟨s0, s1, s2⟩
               go_simp
               with_reducible rfl
              rotate_left
              ·simp only [Act.put, List.setIfInBounds_toArray, List.set_cons_zero, List.set_cons_succ, i64_w, i32_w]
               rfl
              refine one_ (i := 3) (N := some 57) #[true, true, true, true, false, false, false, false, false, false, false, false, false, false, false, false, false] rfl rfl (one_of HT_.out (by kernel_rfl)) (by decide) (fun K hK => ?_)
              refine goes_ Try.func24 (by kernel_rfl) rfl #[.agg #[.int .i64 t471, .int .i64 t472, .int .i64 t473]] (by rfl) rfl rfl mp_ ?_
              with_reducible refine (impl_IsPerfect.calls k3 t471 t472 t473 true _ A35.out).mono ?_
              rintro e w39 ⟨rfl, hb⟩
              refine ⟨_, rfl, ?_⟩
              have n0_ := Aside0.mk (Kd.R_below (kr_ HO_4.out) hb)
              have n1_ := Aside0.mk (blk_below (g := gb459) (o := .cells #[.int .i64 t457, .int .i64 t458] 28 (0, 0)) (kb_ BK459.out) hb)
              have n2_ := Aside0.mk (blk_below (g := gb475) (o := .cells #[.int .i64 t471, .int .i64 t472, .int .i64 t473] 30 (0, 0)) (kb_ BK475.out) hb)
              have n3_ := Aside0.mk (below_step hb_ hb)
              clear HO_4
              clear BK459
              clear BK475
              clear HB
              have HO_4 := n0_
              have BK459 := n1_
              have BK475 := n2_
              have HB := n3_
              clear n0_ n1_ n2_ n3_
              (try clear hb)
              (try clear hb2)
              (try clear hk)
              (try clear hi)
              refine hK.out _ _ ⟨(blk_cell BK475.out 0).trans rfl, (blk_cell BK475.out 1).trans rfl, (blk_cell BK475.out 2).trans rfl⟩ (fun hHeld => ?_)
              clear hK K
              refine norm_ (a' := ?_) ?_ ?_
              rotate_left
              ·show Act.put _ (some 57) _ = _
               simp only [Act.put, List.setIfInBounds_toArray, List.set_cons_zero, List.set_cons_succ, i64_w, i32_w]
               rfl
              refine pure_ (i := 4) (N := some 58) (v := ?_) (a' := ?_) #[true, true, true, true, true, false, false, false, false, false, false, false, false, false, false, false, false] rfl rfl (any_of HT_.out (by kernel_rfl)) (fun _ _ _ h => h) (Or.inl ⟨by rfl, ?_⟩) ?_ ?_
              rotate_left
              ·intro w'
               go_simp
               with_reducible rfl
              rotate_left
              ·simp only [Act.put, List.setIfInBounds_toArray, List.set_cons_zero, List.set_cons_succ, i64_w, i32_w]
               rfl
              refine pure_ (i := 5) (N := some 59) (v := ?_) (a' := ?_) #[true, true, true, true, true, true, false, false, false, false, false, false, false, false, false, false, false] rfl rfl (any_of HT_.out (by kernel_rfl)) (fun _ _ _ h => h) (Or.inl ⟨by rfl, ?_⟩) ?_ ?_
              rotate_left
              ·intro w'
               go_simp
               with_reducible rfl
              rotate_left
              ·simp only [Act.put, List.setIfInBounds_toArray, List.set_cons_zero, List.set_cons_succ, i64_w, i32_w]
               rfl
              refine pure_ (i := 6) (N := some 60) (v := ?_) (a' := ?_) #[true, true, true, true, true, true, true, false, false, false, false, false, false, false, false, false, false] rfl rfl (any_of HT_.out (by kernel_rfl)) (fun _ _ _ h => h) (Or.inl ⟨by rfl, ?_⟩) ?_ ?_
              rotate_left
              ·intro w'
               go_simp
               with_reducible rfl
              rotate_left
              ·simp only [Act.put, List.setIfInBounds_toArray, List.set_cons_zero, List.set_cons_succ, i64_w, i32_w]
               rfl
              refine pure_ (i := 7) (N := some 61) (v := ?_) (a' := ?_) #[true, true, true, true, true, true, true, true, false, false, false, false, false, false, false, false, false] rfl rfl (any_of HT_.out (by kernel_rfl)) (fun _ _ _ h => h) (Or.inl ⟨by rfl, ?_⟩) ?_ ?_
              rotate_left
              ·intro w'
               go_simp
               with_reducible rfl
              rotate_left
              ·simp only [Act.put, List.setIfInBounds_toArray, List.set_cons_zero, List.set_cons_succ, i64_w, i32_w]
               rfl
              refine pure_ (i := 8) (N := some 62) (v := ?_) (a' := ?_) #[true, true, true, true, true, true, true, true, true, false, false, false, false, false, false, false, false] rfl rfl (any_of HT_.out (by kernel_rfl)) (fun _ _ _ h => h) (Or.inl ⟨by rfl, ?_⟩) ?_ ?_
              rotate_left
              ·intro w'
               go_simp
               with_reducible rfl
              rotate_left
              ·simp only [Act.put, List.setIfInBounds_toArray, List.set_cons_zero, List.set_cons_succ, i64_w, i32_w]
               rfl
              refine pure_ (i := 9) (N := some 63) (v := undef) (a' := ?_) #[true, true, true, true, true, true, true, true, true, true, false, false, false, false, false, false, false] rfl rfl (any_of HT_.out (by kernel_rfl)) (fun _ _ _ h => h) (Or.inr ⟨by rfl, rfl⟩) ?_ ?_
              rotate_left
              ·simp only [Act.put, List.setIfInBounds_toArray, List.set_cons_zero, List.set_cons_succ, i64_w, i32_w]
               rfl
              refine pure_ (i := 10) (N := some 64) (v := undef) (a' := ?_) #[true, true, true, true, true, true, true, true, true, true, true, false, false, false, false, false, false] rfl rfl (any_of HT_.out (by kernel_rfl)) (fun _ _ _ h => h) (Or.inr ⟨by rfl, rfl⟩) ?_ ?_
              rotate_left
              ·simp only [Act.put, List.setIfInBounds_toArray, List.set_cons_zero, List.set_cons_succ, i64_w, i32_w]
               rfl
              refine pure_ (i := 11) (N := some 65) (v := undef) (a' := ?_) #[true, true, true, true, true, true, true, true, true, true, true, true, false, false, false, false, false] rfl rfl (any_of HT_.out (by kernel_rfl)) (fun _ _ _ h => h) (Or.inr ⟨by rfl, rfl⟩) ?_ ?_
              rotate_left
              ·simp only [Act.put, List.setIfInBounds_toArray, List.set_cons_zero, List.set_cons_succ, i64_w, i32_w]
               rfl
              refine pure_ (i := 12) (N := some 66) (v := undef) (a' := ?_) #[true, true, true, true, true, true, true, true, true, true, true, true, true, false, false, false, false] rfl rfl (any_of HT_.out (by kernel_rfl)) (fun _ _ _ h => h) (Or.inr ⟨by rfl, rfl⟩) ?_ ?_
              rotate_left
              ·simp only [Act.put, List.setIfInBounds_toArray, List.set_cons_zero, List.set_cons_succ, i64_w, i32_w]
               rfl
              refine pure_ (i := 13) (N := some 67) (v := undef) (a' := ?_) #[true, true, true, true, true, true, true, true, true, true, true, true, true, true, false, false, false] rfl rfl (any_of HT_.out (by kernel_rfl)) (fun _ _ _ h => h) (Or.inr ⟨by rfl, rfl⟩) ?_ ?_
              rotate_left
              ·simp only [Act.put, List.setIfInBounds_toArray, List.set_cons_zero, List.set_cons_succ, i64_w, i32_w]
               rfl
              refine pure_ (i := 14) (N := some 68) (v := ?_) (a' := ?_) #[true, true, true, true, true, true, true, true, true, true, true, true, true, true, true, false, false] rfl rfl (any_of HT_.out (by kernel_rfl)) (fun _ _ _ h => h) (Or.inl ⟨by rfl, ?_⟩) ?_ ?_
              rotate_left
              ·intro w'
               go_simp
               with_reducible rfl
              rotate_left
              ·simp only [Act.put, List.setIfInBounds_toArray, List.set_cons_zero, List.set_cons_succ, i64_w, i32_w]
               rfl
              refine pure_ (i := 15) (N := some 69) (v := ?_) (a' := ?_) #[true, true, true, true, true, true, true, true, true, true, true, true, true, true, true, true, false] rfl rfl (any_of HT_.out (by kernel_rfl)) (fun _ _ _ h => h) (Or.inl ⟨by rfl, ?_⟩) ?_ ?_
              rotate_left
              ·intro w'
               go_simp
               with_reducible rfl
              rotate_left
              ·simp only [Act.put, List.setIfInBounds_toArray, List.set_cons_zero, List.set_cons_succ, i64_w, i32_w]
               rfl
              refine pure_ (i := 16) (N := some 2) (v := ?_) (a' := ?_) #[true, true, true, true, true, true, true, true, true, true, true, true, true, true, true, true, true] rfl rfl (any_of HT_.out (by kernel_rfl)) (fun _ _ _ h => h) (Or.inl ⟨by rfl, ?_⟩) ?_ ?_
              rotate_left
              ·intro w'
               go_simp
               with_reducible rfl
              rotate_left
              ·simp only [Act.put, List.setIfInBounds_toArray, List.set_cons_zero, List.set_cons_succ, i64_w, i32_w]
               rfl
              refine done_ (done_of HT_.out (by kernel_rfl)) ?_
              try go_wp2
              go_ret
              exact ⟨er_, hb_⟩
             ·rw [if_neg c37] at H
              have c37b0 : (t463 == 0) = false := beq_eq_false_iff_ne.mpr c37
              have c37b1 : (t463 != 0) = true := bne_iff_ne.mpr c37
              by_cases c40 : 0 < (x4_2.length : Int)
              ·rw [if_pos c40] at H
               have c40b0 : decide (0 < (x4_2.length : Int)) = true := decide_eq_true c40
               have c40b1 : decide (0 < x4_2.length) = true := decide_eq_true (by omega)
               clear c40
               replace H := Option.bind_eq_some_iff.mp H
               obtain ⟨t479, A410, H⟩ := H
               replace H : (some t479) = some r := H
               have A41 := Aside0.mk A410
               clear A410
               obtain rfl := Option.some.inj H
               try go_wp2
               have n0_ := Aside0.mk (Kd.R_drew HO_4.out)
               have n1_ := Aside0.mk (blk_drew BK459.out)
               have n2_ := Aside0.mk (blk_drew BK475.out)
               have n3_ := Aside0.mk (below_drew1 HB.out)
               clear HO_4
               clear BK459
               clear BK475
               clear HB
               have HO_4 := n0_
               have BK459 := n1_
               have BK475 := n2_
               have HB := n3_
               clear n0_ n1_ n2_ n3_
               have p478 : 0 ≤ (0 : Int) := (by omega)
               have q478 : 0 < (x4_2.length : Int) := of_decide_eq_true (by first | (with_reducible assumption) | assumption)
               obtain ⟨ad478, e478, hx478_0⟩ := Kd.at_int (Kd.R_reads' HO_4.out).2.2 0 p478 q478
               cases e478
               have qi478 : (0 < x4_2.length) = True := eq_true (by omega)
               (try rw [show ((0 : Int)).toNat = 0 from rfl] at hx478_0)
               (try rw [Addr.add_zero'] at hx478_0)
               replace p478 := eq_true p478
               replace q478 := eq_true q478
               refine start_ (n := 17) (S := fun w' => w'.cell? ⟨gb475, 0, none⟩ = some (.int .i64 t471) ∧ w'.cell? ⟨gb475, 1, none⟩ = some (.int .i64 t472) ∧ w'.cell? ⟨gb475, 2, none⟩ = some (.int .i64 t473) ∧ w'.cell? ad478 = some (.int .i64 (rd x4_2 0))) (ds := []) #[false, false, false, false, false, false, false, false, false, false, false, false, false, false, false, false, false] (by kernel_rfl) rfl rfl ⟨(blk_cell BK475.out 0).trans rfl, (blk_cell BK475.out 1).trans rfl, (blk_cell BK475.out 2).trans rfl, hx478_0⟩ (fun hHeld => ?_); refine with_tabW laws_FnKruskals.tab20 laws_FnKruskals.bits20 (fun HT_ HW_ => ?_)
               generalize wr.drew = w42 at HO_4 BK459 BK475 HB hx478_0 hHeld ⊢
               refine pure_ (i := 0) (N := some 54) (v := ?_) (a' := ?_) #[true, false, false, false, false, false, false, false, false, false, false, false, false, false, false, false, false] rfl rfl (any_of HT_.out (by kernel_rfl)) (fun _ _ _ h => h) (Or.inl ⟨by rfl, ?_⟩) ?_ ?_
               rotate_left
               ·intro w'
                go_simp
                with_reducible rfl
               rotate_left
               ·simp only [Act.put, List.setIfInBounds_toArray, List.set_cons_zero, List.set_cons_succ, i64_w, i32_w]
                rfl
               refine pure_ (i := 1) (N := some 55) (v := ?_) (a' := ?_) #[true, true, false, false, false, false, false, false, false, false, false, false, false, false, false, false, false] rfl rfl (any_of HT_.out (by kernel_rfl)) (fun _ _ _ h => h) (Or.inl ⟨by rfl, ?_⟩) ?_ ?_
               rotate_left
               ·intro w'
                go_simp
                with_reducible rfl
               rotate_left
               ·simp only [Act.put, List.setIfInBounds_toArray, List.set_cons_zero, List.set_cons_succ, i64_w, i32_w]
                rfl
               refine take_ (i := 2) (N := some 56) (v := ?_) (a' := ?_) #[true, true, true, false, false, false, false, false, false, false, false, false, false, false, false, false, false] rfl rfl (take_ofW HT_.out HW_.out (by kernel_rfl)) (fun _ _ _ h => h) (Or.inl ⟨by rfl, ?_⟩) hHeld ?_ ?_
               rotate_left
               ·rintro w' ⟨s0, s1, s2, s3⟩
                go_simp
                with_reducible rfl
               rotate_left
               ·simp only [Act.put, List.setIfInBounds_toArray, List.set_cons_zero, List.set_cons_succ, i64_w, i32_w]
                rfl
               refine one_ (i := 3) (N := some 57) #[true, true, true, true, false, false, false, false, false, false, false, false, false, false, false, false, false] rfl rfl (one_of HT_.out (by kernel_rfl)) (by decide) (fun K hK => ?_)
               refine goes_ Try.func24 (by kernel_rfl) rfl #[.agg #[.int .i64 t471, .int .i64 t472, .int .i64 t473]] (by rfl) rfl rfl mp_ ?_
               with_reducible refine (impl_IsPerfect.calls k3 t471 t472 t473 true _ A35.out).mono ?_
               rintro e w43 ⟨rfl, hb⟩
               have HS3_ := (hb.cell (World.block_lt_of_cell? _ _ (hHeld.2.2.2))).trans (hHeld.2.2.2)
               refine ⟨_, rfl, ?_⟩
               have n0_ := Aside0.mk (Kd.R_below (kr_ HO_4.out) hb)
               have n1_ := Aside0.mk (blk_below (g := gb459) (o := .cells #[.int .i64 t457, .int .i64 t458] 28 (0, 0)) (kb_ BK459.out) hb)
               have n2_ := Aside0.mk (blk_below (g := gb475) (o := .cells #[.int .i64 t471, .int .i64 t472, .int .i64 t473] 30 (0, 0)) (kb_ BK475.out) hb)
               have n3_ := Aside0.mk (below_step hb_ hb)
               clear HO_4
               clear BK459
               clear BK475
               clear HB
               have HO_4 := n0_
               have BK459 := n1_
               have BK475 := n2_
               have HB := n3_
               clear n0_ n1_ n2_ n3_
               (try clear hb)
               (try clear hb2)
               (try clear hk)
               (try clear hi)
               refine hK.out _ _ ⟨(blk_cell BK475.out 0).trans rfl, (blk_cell BK475.out 1).trans rfl, (blk_cell BK475.out 2).trans rfl, HS3_⟩ (fun hHeld => ?_)
               clear hK K
               refine norm_ (a' := ?_) ?_ ?_
               rotate_left
               ·show Act.put _ (some 57) _ = _
                simp only [Act.put, List.setIfInBounds_toArray, List.set_cons_zero, List.set_cons_succ, i64_w, i32_w]
                rfl
               refine pure_ (i := 4) (N := some 58) (v := ?_) (a' := ?_) #[true, true, true, true, true, false, false, false, false, false, false, false, false, false, false, false, false] rfl rfl (any_of HT_.out (by kernel_rfl)) (fun _ _ _ h => h) (Or.inl ⟨by rfl, ?_⟩) ?_ ?_
               rotate_left
               ·intro w'
                go_simp
                with_reducible rfl
               rotate_left
               ·simp only [Act.put, List.setIfInBounds_toArray, List.set_cons_zero, List.set_cons_succ, i64_w, i32_w]
                rfl
               refine pure_ (i := 5) (N := some 59) (v := ?_) (a' := ?_) #[true, true, true, true, true, true, false, false, false, false, false, false, false, false, false, false, false] rfl rfl (any_of HT_.out (by kernel_rfl)) (fun _ _ _ h => h) (Or.inl ⟨by rfl, ?_⟩) ?_ ?_
               rotate_left
               ·intro w'
                go_simp
                with_reducible rfl
               rotate_left
               ·simp only [Act.put, List.setIfInBounds_toArray, List.set_cons_zero, List.set_cons_succ, i64_w, i32_w]
                rfl
               refine pure_ (i := 6) (N := some 60) (v := ?_) (a' := ?_) #[true, true, true, true, true, true, true, false, false, false, false, false, false, false, false, false, false] rfl rfl (any_of HT_.out (by kernel_rfl)) (fun _ _ _ h => h) (Or.inl ⟨by rfl, ?_⟩) ?_ ?_
               rotate_left
               ·intro w'
                go_simp
                with_reducible rfl
               rotate_left
               ·simp only [Act.put, List.setIfInBounds_toArray, List.set_cons_zero, List.set_cons_succ, i64_w, i32_w]
                rfl
               refine pure_ (i := 7) (N := some 61) (v := ?_) (a' := ?_) #[true, true, true, true, true, true, true, true, false, false, false, false, false, false, false, false, false] rfl rfl (any_of HT_.out (by kernel_rfl)) (fun _ _ _ h => h) (Or.inl ⟨by rfl, ?_⟩) ?_ ?_
               rotate_left
               ·intro w'
                go_simp
                with_reducible rfl
               rotate_left
               ·simp only [Act.put, List.setIfInBounds_toArray, List.set_cons_zero, List.set_cons_succ, i64_w, i32_w]
                rfl
               refine pure_ (i := 8) (N := some 62) (v := ?_) (a' := ?_) #[true, true, true, true, true, true, true, true, true, false, false, false, false, false, false, false, false] rfl rfl (any_of HT_.out (by kernel_rfl)) (fun _ _ _ h => h) (Or.inl ⟨by rfl, ?_⟩) ?_ ?_
               rotate_left
               ·intro w'
                go_simp
                with_reducible rfl
               rotate_left
               ·simp only [Act.put, List.setIfInBounds_toArray, List.set_cons_zero, List.set_cons_succ, i64_w, i32_w]
                rfl
               refine pure_ (i := 10) (N := some 64) (v := ?_) (a' := ?_) #[true, true, true, true, true, true, true, true, true, false, true, false, false, false, false, false, false] rfl rfl (any_of HT_.out (by kernel_rfl)) (fun _ _ _ h => h) (Or.inl ⟨by rfl, ?_⟩) ?_ ?_
               rotate_left
               ·intro w'
                go_simp
                with_reducible rfl
               rotate_left
               ·simp only [Act.put, List.setIfInBounds_toArray, List.set_cons_zero, List.set_cons_succ, i64_w, i32_w]
                rfl
               refine pure_ (i := 11) (N := some 65) (v := ?_) (a' := ?_) #[true, true, true, true, true, true, true, true, true, false, true, true, false, false, false, false, false] rfl rfl (any_of HT_.out (by kernel_rfl)) (fun _ _ _ h => h) (Or.inl ⟨by rfl, ?_⟩) ?_ ?_
               rotate_left
               ·intro w'
                go_simp
                with_reducible rfl
               rotate_left
               ·simp only [Act.put, List.setIfInBounds_toArray, List.set_cons_zero, List.set_cons_succ, i64_w, i32_w]
                rfl
               refine take_ (i := 9) (N := some 63) (v := ?_) (a' := ?_) #[true, true, true, true, true, true, true, true, true, true, true, true, false, false, false, false, false] rfl rfl (take_ofW HT_.out HW_.out (by kernel_rfl)) (fun _ _ _ h => h) (Or.inl ⟨by rfl, ?_⟩) hHeld ?_ ?_
               rotate_left
               ·rintro w' ⟨s0, s1, s2, s3⟩
                go_simp
                with_reducible rfl
               rotate_left
               ·simp only [Act.put, List.setIfInBounds_toArray, List.set_cons_zero, List.set_cons_succ, i64_w, i32_w]
                rfl
               refine take_ (i := 12) (N := some 66) (v := ?_) (a' := ?_) #[true, true, true, true, true, true, true, true, true, true, true, true, true, false, false, false, false] rfl rfl (take_ofW HT_.out HW_.out (by kernel_rfl)) (fun _ _ _ h => h) (Or.inl ⟨by rfl, ?_⟩) hHeld ?_ ?_
               rotate_left
               ·rintro w' ⟨s0, s1, s2, s3⟩
                go_simp
                with_reducible rfl
               rotate_left
               ·simp only [Act.put, List.setIfInBounds_toArray, List.set_cons_zero, List.set_cons_succ, i64_w, i32_w]
                rfl
               refine one_ (i := 13) (N := some 67) #[true, true, true, true, true, true, true, true, true, true, true, true, true, true, false, false, false] rfl rfl (one_of HT_.out (by kernel_rfl)) (by decide) (fun K hK => ?_)
               refine goes_ Try.func25 (by kernel_rfl) rfl #[.agg #[.int .i64 t471, .int .i64 t472, .int .i64 t473], .int .i64 (rd x4_2 0)] (by rfl) rfl rfl mp_ ?_
               with_reducible refine (impl_IsPassage.calls t471 t472 t473 (rd x4_2 0) t479 _ A41.out).mono ?_
               rintro e w44 ⟨rfl, hb⟩
               have HS3_ := (hb.cell (World.block_lt_of_cell? _ _ (hHeld.2.2.2))).trans (hHeld.2.2.2)
               refine ⟨_, rfl, ?_⟩
               have n0_ := Aside0.mk (Kd.R_below (kr_ HO_4.out) hb)
               have n1_ := Aside0.mk (blk_below (g := gb459) (o := .cells #[.int .i64 t457, .int .i64 t458] 28 (0, 0)) (kb_ BK459.out) hb)
               have n2_ := Aside0.mk (blk_below (g := gb475) (o := .cells #[.int .i64 t471, .int .i64 t472, .int .i64 t473] 30 (0, 0)) (kb_ BK475.out) hb)
               have n3_ := Aside0.mk (below_step hb_ hb)
               clear HO_4
               clear BK459
               clear BK475
               clear HB
               have HO_4 := n0_
               have BK459 := n1_
               have BK475 := n2_
               have HB := n3_
               clear n0_ n1_ n2_ n3_
               (try clear hb)
               (try clear hb2)
               (try clear hk)
               (try clear hi)
               refine hK.out _ _ ⟨(blk_cell BK475.out 0).trans rfl, (blk_cell BK475.out 1).trans rfl, (blk_cell BK475.out 2).trans rfl, HS3_⟩ (fun hHeld => ?_)
               clear hK K
               refine norm_ (a' := ?_) ?_ ?_
               rotate_left
               ·show Act.put _ (some 67) _ = _
                simp only [Act.put, List.setIfInBounds_toArray, List.set_cons_zero, List.set_cons_succ, i64_w, i32_w]
                rfl
               refine pure_ (i := 14) (N := some 68) (v := ?_) (a' := ?_) #[true, true, true, true, true, true, true, true, true, true, true, true, true, true, true, false, false] rfl rfl (any_of HT_.out (by kernel_rfl)) (fun _ _ _ h => h) (Or.inl ⟨by rfl, ?_⟩) ?_ ?_
               rotate_left
               ·intro w'
                go_simp
                with_reducible rfl
               rotate_left
               ·simp only [Act.put, List.setIfInBounds_toArray, List.set_cons_zero, List.set_cons_succ, i64_w, i32_w]
                rfl
               refine pure_ (i := 15) (N := some 69) (v := ?_) (a' := ?_) #[true, true, true, true, true, true, true, true, true, true, true, true, true, true, true, true, false] rfl rfl (any_of HT_.out (by kernel_rfl)) (fun _ _ _ h => h) (Or.inl ⟨by rfl, ?_⟩) ?_ ?_
               rotate_left
               ·intro w'
                go_simp
                with_reducible rfl
               rotate_left
               ·simp only [Act.put, List.setIfInBounds_toArray, List.set_cons_zero, List.set_cons_succ, i64_w, i32_w]
                rfl
               refine pure_ (i := 16) (N := some 2) (v := ?_) (a' := ?_) #[true, true, true, true, true, true, true, true, true, true, true, true, true, true, true, true, true] rfl rfl (any_of HT_.out (by kernel_rfl)) (fun _ _ _ h => h) (Or.inl ⟨by rfl, ?_⟩) ?_ ?_
               rotate_left
               ·intro w'
                go_simp
                with_reducible rfl
               rotate_left
               ·simp only [Act.put, List.setIfInBounds_toArray, List.set_cons_zero, List.set_cons_succ, i64_w, i32_w]
                rfl
               refine done_ (done_of HT_.out (by kernel_rfl)) ?_
               try go_wp2
               go_ret
               exact ⟨er_, hb_⟩
              ·rw [if_neg c40] at H
               exact absurd H (by simp)
            ·replace c36 := Bool.eq_false_iff.mpr c36
             subst c36
             have H1 : (some false) = some r := by rw [if_neg (show ¬ (false = true) by decide)] at H; exact H
             clear H
             have H := H1
             clear H1
             exact absurd ((Option.some.inj H).trans HT_.out) (by decide)
           ·replace c34 := Bool.eq_false_iff.mpr c34
            subst c34
            have H1 : (some false) = some r := by rw [if_neg (show ¬ (false = true) by decide)] at H; exact H
            clear H
            have H := H1
            clear H1
            exact absurd ((Option.some.inj H).trans HT_.out) (by decide)

/-- THE ONE PURE STATEMENT of laws_FnKruskals: yours. -/
def laws_FnKruskals.Pure : Prop := ∀ (l0 : List Int), l0.length ≤ maxLen → l0.length * 1 ≤ 140737488351232 → (∀ x ∈ l0, (Lit.int .u8 x).wf = true) → ∃ k, laws_FnKruskals.f k l0 = some true
theorem laws_FnKruskals.walk (P : laws_FnKruskals.Pure) (a0 : Option Addr) (len0 cap0 : Nat) (z0 : List Int) (w : World) (w0 : (a0 = none ∧ len0 = 0 ∧ cap0 = 0 ∧ z0 = []) ∨ ∃ x, a0 = some x ∧ len0 ≤ cap0 ∧ cap0 ≤ maxLen ∧ z0.length = cap0 ∧ (∀ i, i < z0.length → w.cell? (x.add i) = some (.int .u8 (z0.getD i 0))) ∧ ∀ n ∈ z0, (Lit.int .u8 n).wf = true) (y0 : len0 * 1 ≤ 140737488351232) :
  Calls Try.prog 5 #[.slice a0 len0 cap0] w fun e w' => e = .returned (.bool true) ∧ Below w.heap.size w w' := by
 obtain ⟨l0, rfl, hr0, hm0, hw0, hc0⟩ := ReadsInt.ofRowC w0
 obtain ⟨k, h⟩ := P l0 hm0 y0 hw0
 refine (laws_FnKruskals.calls k _ _ l0 true w (Kd.C_of_reads (d := (0 : Int)) (h1 := fun _ => rfl) hr0) hc0 ⟨rfl⟩ h).mono ?_
 rintro e w' ⟨rfl, hd⟩
 exact ⟨rfl, hd⟩

end Go.Proofs.Ytmpednofjnoelaa.Q
