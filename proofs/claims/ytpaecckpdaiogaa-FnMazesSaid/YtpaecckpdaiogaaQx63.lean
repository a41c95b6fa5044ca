/- Plain Lean functions of Go functions, and for each the proof that its call comes to just that answer. Conditions: in each theorem's statement. -/
import Derived.Test.YtpaecckpdaiogaaQx0
import Derived.Test.YtpaecckpdaiogaaQx1
import Derived.Test.YtpaecckpdaiogaaQx2
import Derived.Test.YtpaecckpdaiogaaQx4
import Derived.Test.YtpaecckpdaiogaaQx7
import Derived.Test.YtpaecckpdaiogaaQx8
import Derived.Test.YtpaecckpdaiogaaQx38
import Derived.Test.YtpaecckpdaiogaaQx56
import Derived.Test.YtpaecckpdaiogaaQx61
import Derived.Test.YtpaecckpdaiogaaQx62
namespace Go.Proofs.Ytpaecckpdaiogaa.Q
open Go.RowKit Go.Proofs.YtpaecckpdaiogaaW.PrintWords Go.Proofs.YtpaecckpdaiogaaW.PrintLast
attribute [local go_sem] max2_int min2_int max_two min_two   -- for this text's walks alone
set_option linter.unusedVariables false
set_option linter.unusedSimpArgs false

attribute [local go_sem high] eqA30
/-! ### laws_FnMazes: function 11 -/
mutual
def laws_FnMazes.l0 : Nat → List Int → Int → Int → Int → Int → Int → Option (Bool)
 | 0, _, _, _, _, _, _ => none
 | k + 1, x0, x4, x5, x650000, x650001, x650002 => (spec_CountCells.f x650000 x650001).bind fun t650 => (if x5 < t650 then ((impl_WaysFrom.f k x650000 x650001 x650002 x5).bind fun t651 => (laws_FnMazes.l1 k x0 (wrap64 (x4 + (t651.length : Int))) x5 t651 0 x650000 x650001 x650002)) else ((spec_CountGaps.f x650000 x650001).bind fun t658 => (if t658 = 0 then (if x4 = 0 then ((impl_CountPassages.f x650000 x650001 x650002).bind fun t659 => (some (t659 == 0))) else (some false)) else ((laws_at.f x0 0).bind fun t660 => ((spec_CountGaps.f x650000 x650001).bind fun t661 => (if t661 = 0 then (none) else ((impl_IsPassage.f x650000 x650001 x650002 (Int.tmod t660 t661)).bind fun t662 => ((impl_SetGap.f x650000 x650001 x650002 (Int.tmod t660 t661) (!t662)).bind fun bt663 => ((impl_SetGap.f bt663.1 bt663.2.1 bt663.2.2.1 (Int.tmod t660 t661) t662).bind fun bt668 => ((impl_CountPassages.f x650000 x650001 x650002).bind fun t673 => (if x4 = (wrap64 (2 * t673)) then (if bt663.2.2.2 = true then (if bt668.2.2.2 = true then (if ((bt668.1 == x650000 && (bt668.2.1 == x650001)) && (bt668.2.2.1 == x650002)) = true then (if ((!(bt663.1 == x650000) || (!(bt663.2.1 == x650001))) || (!(bt663.2.2.1 == x650002))) = true then ((impl_IsPassage.f bt663.1 bt663.2.1 bt663.2.2.1 (Int.tmod t660 t661)).bind fun t674 => (if (t674 == (!t662)) = true then ((impl_FullMaze.f x650000 x650001).bind fun bt675 => ((impl_CountPassages.f bt675.1 bt675.2.1 bt675.2.2).bind fun t678 => ((impl_CountGaps.f x650000 x650001).bind fun t679 => (some (t678 == t679))))) else (some false))) else (some false)) else (some false)) else (some false)) else (some false)) else (some false))))))))))))
def laws_FnMazes.l1 : Nat → List Int → Int → Int → List Int → Int → Int → Int → Int → Option (Bool)
 | 0, _, _, _, _, _, _, _, _ => none
 | k + 1, x0, x4, x5, x6, x7, x650000, x650001, x650002 => if x7 < (x6.length : Int) then (if 0 ≤ x7 then ((impl_Step.f k x650000 x650001 x650002 x5 (rd x6 x7)).bind fun t655 => ((impl_Step.f k x650000 x650001 x650002 t655 (Int.tmod (wrap64 ((rd x6 x7) + 2)) 4)).bind fun t657 => (if t657 = x5 then (laws_FnMazes.l1 k x0 x4 x5 x6 (wrap64 (x7 + 1)) x650000 x650001 x650002) else (some false)))) else (none)) else (laws_FnMazes.l0 k x0 x4 (wrap64 (x5 + 1)) x650000 x650001 x650002)
end
def laws_FnMazes.f (k : Nat) (l0 : List Int) : Option (Bool) := (laws_big.f l0).bind fun t645 => (if t645 = true then (some true) else ((spec_DrawMaze.f k l0).bind fun bt646 => (laws_FnMazes.l0 k l0 0 0 bt646.1 bt646.2.1 bt646.2.2)))
theorem laws_FnMazes.mono_l : ∀ k, (∀ y0 y1 y2 y3 y4 y5, LeO (laws_FnMazes.l0 k y0 y1 y2 y3 y4 y5) (laws_FnMazes.l0 (k + 1) y0 y1 y2 y3 y4 y5)) ∧ (∀ y0 y1 y2 y3 y4 y5 y6 y7, LeO (laws_FnMazes.l1 k y0 y1 y2 y3 y4 y5 y6 y7) (laws_FnMazes.l1 (k + 1) y0 y1 y2 y3 y4 y5 y6 y7))
 | 0 => ⟨fun _ _ _ _ _ _ r h => by simp [laws_FnMazes.l0] at h, fun _ _ _ _ _ _ _ _ r h => by simp [laws_FnMazes.l1] at h⟩
 | k + 1 => by
  obtain ⟨ih0, ih1⟩ := laws_FnMazes.mono_l k
  refine ⟨?_, ?_⟩
  ·intro y0 y1 y2 y3 y4 y5
   unfold laws_FnMazes.l0
   repeat' first
   | (with_reducible exact ih0 _ _ _ _ _ _)
   | (with_reducible exact ih1 _ _ _ _ _ _ _ _)
   | (with_reducible exact impl_Step.mono _ _ _ _ _ _)
   | (with_reducible exact impl_WaysFrom.mono _ _ _ _ _)
   | (with_reducible exact spec_DrawMaze.mono _ _)
   | (with_reducible exact LeO.refl _)
   | (with_reducible exact LeO.none _)
   | (with_reducible refine LeO.ite ?_ ?_)
   | (with_reducible refine LeO.bind ?_ (fun _ => ?_))
   | exact ih0 _ _ _ _ _ _
   | exact ih1 _ _ _ _ _ _ _ _
   | exact impl_Step.mono _ _ _ _ _ _
   | exact impl_WaysFrom.mono _ _ _ _ _
   | exact spec_DrawMaze.mono _ _
   | exact LeO.none _
   | refine LeO.ite ?_ ?_
   | refine LeO.bind ?_ (fun _ => ?_)
  ·intro y0 y1 y2 y3 y4 y5 y6 y7
   unfold laws_FnMazes.l1
   repeat' first
   | (with_reducible exact ih0 _ _ _ _ _ _)
   | (with_reducible exact ih1 _ _ _ _ _ _ _ _)
   | (with_reducible exact impl_Step.mono _ _ _ _ _ _)
   | (with_reducible exact impl_WaysFrom.mono _ _ _ _ _)
   | (with_reducible exact spec_DrawMaze.mono _ _)
   | (with_reducible exact LeO.refl _)
   | (with_reducible exact LeO.none _)
   | (with_reducible refine LeO.ite ?_ ?_)
   | (with_reducible refine LeO.bind ?_ (fun _ => ?_))
   | exact ih0 _ _ _ _ _ _
   | exact ih1 _ _ _ _ _ _ _ _
   | exact impl_Step.mono _ _ _ _ _ _
   | exact impl_WaysFrom.mono _ _ _ _ _
   | exact spec_DrawMaze.mono _ _
   | exact LeO.none _
   | refine LeO.ite ?_ ?_
   | refine LeO.bind ?_ (fun _ => ?_)
theorem laws_FnMazes.mono : ∀ a0 k, LeO (laws_FnMazes.f k a0) (laws_FnMazes.f (k + 1) a0) := by
 intro a0 k
 obtain ⟨ih0, ih1⟩ := laws_FnMazes.mono_l k
 unfold laws_FnMazes.f
 repeat' first
   | (with_reducible exact ih0 _ _ _ _ _ _)
   | (with_reducible exact ih1 _ _ _ _ _ _ _ _)
   | (with_reducible exact impl_Step.mono _ _ _ _ _ _)
   | (with_reducible exact impl_WaysFrom.mono _ _ _ _ _)
   | (with_reducible exact spec_DrawMaze.mono _ _)
   | (with_reducible exact LeO.refl _)
   | (with_reducible exact LeO.none _)
   | (with_reducible refine LeO.ite ?_ ?_)
   | (with_reducible refine LeO.bind ?_ (fun _ => ?_))
   | exact ih0 _ _ _ _ _ _
   | exact ih1 _ _ _ _ _ _ _ _
   | exact impl_Step.mono _ _ _ _ _ _
   | exact impl_WaysFrom.mono _ _ _ _ _
   | exact spec_DrawMaze.mono _ _
   | exact LeO.none _
   | refine LeO.ite ?_ ?_
   | refine LeO.bind ?_ (fun _ => ?_)
def laws_FnMazes.T13 : Bool × List (List Nat × List Nat) := (true, [([], []), ([], []), ([], []), ([], []), ([], []), ([3, 4], [3, 4]), ([5], [5]), ([1, 2, 6], [1, 2, 6]), ([], []), ([], []), ([8, 9], [8, 9]), ([10], [10]), ([11], [11]), ([12], [12]), ([0, 7, 13, 7], [0, 7, 13]), ([], []), ([14, 15], [14, 15])])
def laws_FnMazes.B13 : List Nat := [0, 0, 0, 0, 0, 24, 56, 126, 0, 0, 768, 1792, 3840, 7936, 16383, 0, 65535]
theorem laws_FnMazes.tab13 : rtab .any (opsOf Try.f11 13) = laws_FnMazes.T13 := by kernel_rfl
theorem laws_FnMazes.bits13 : waitsOk laws_FnMazes.T13.2 laws_FnMazes.B13 = true := by kernel_rfl
def laws_FnMazes.T21 : Bool × List (List Nat × List Nat) := (true, [([], []), ([], []), ([1], [1]), ([2], [2]), ([0, 3], [0, 3]), ([4, 2], [4]), ([5], [5]), ([5, 6], [5, 6]), ([7, 5], [7]), ([8], [8]), ([8, 9], [8, 9]), ([10, 8], [10]), ([11], [11]), ([11], [11]), ([12, 13, 11], [11, 12, 13]), ([11, 14], [11, 14]), ([15, 11], [15]), ([16], [16]), ([16], [16]), ([17, 18, 16], [16, 17, 18]), ([16, 19], [16, 19]), ([20, 16], [20]), ([21], [21]), ([21], [21]), ([22, 23, 21, 21], [21, 22, 23]), ([21], [21]), ([25, 21], [21, 25]), ([24, 26, 21], [21, 24, 26]), ([21, 27], [21, 27]), ([28, 24], [28]), ([29], [29]), ([30, 29], [29, 30]), ([31, 29, 29], [29, 31]), ([32, 32, 29], [29, 32]), ([29], [29]), ([34, 29], [29, 34]), ([35, 33, 29], [29, 35]), ([33, 36, 29], [29, 33, 36]), ([29, 37], [29, 37]), ([38, 36, 0, 1, 2, 3, 4, 5, 6, 7, 8, 9, 10, 11, 12, 13, 14, 15, 16, 17, 18, 19, 20, 21, 22, 23, 24, 25, 26, 27, 28, 29, 30, 31, 32, 33, 34, 35, 36, 37, 38], [38])])
def laws_FnMazes.B21 : List Nat := [0, 0, 2, 6, 15, 31, 63, 127, 255, 511, 1023, 2047, 4095, 4095, 16383, 32767, 65535, 131071, 131071, 524287, 1048575, 2097151, 4194303, 4194303, 16777215, 4194303, 37748735, 134217727, 268435455, 536870911, 1073741823, 2147483647, 4294967295, 8589934591, 1073741823, 18253611007, 68719476735, 137438953471, 274877906943, 549755813887]
theorem laws_FnMazes.tab21 : rtab .any (opsOf Try.f11 21) = laws_FnMazes.T21 := by kernel_rfl
theorem laws_FnMazes.bits21 : waitsOk laws_FnMazes.T21.2 laws_FnMazes.B21 = true := by kernel_rfl
set_option maxHeartbeats 8000000 in
set_option maxRecDepth 100000 in
theorem laws_FnMazes.calls (k : Nat) (A0 : Option Addr) (c0 : Nat) (l0 : List Int) (r : Bool) (w : World) (hr0 : Kd.C (Kd.int .u8) w A0 l0.length l0) (hc0 : l0.length ≤ c0) (HT_ : Aside0 (r = true)) (h : laws_FnMazes.f k l0 = some r) :
  Calls Try.prog 11 #[.slice A0 l0.length c0] w fun e w' => e = .returned (.bool r) ∧ Below w.heap.size w w' := by
 have hu30 := Try.underlying30
 have hu28 := Try.underlying28
 have HR0 := Aside0.mk hr0
 have HC0 := Aside0.mk hc0
 clear hr0 hc0
 have HB := Aside0.mk (Below.refl w.heap.size w)
 have H : ((laws_big.f l0).bind fun t645 => (if t645 = true then (some true) else ((spec_DrawMaze.f k l0).bind fun bt646 => (laws_FnMazes.l0 k l0 0 0 bt646.1 bt646.2.1 bt646.2.2)))) = some r := h
 clear h
 replace H := Option.bind_eq_some_iff.mp H
 obtain ⟨t645, A20, H⟩ := H
 replace H : (if t645 = true then (some true) else ((spec_DrawMaze.f k l0).bind fun bt646 => (laws_FnMazes.l0 k l0 0 0 bt646.1 bt646.2.1 bt646.2.2))) = some r := H
 have A2 := Aside0.mk A20
 clear A20
 by_cases c3 : t645 = true
 ·subst c3
  have H1 : (some true) = some r := by rw [if_pos rfl] at H; exact H
  clear H
  have H := H1
  clear H1
  obtain rfl := Option.some.inj H
  go_enter Try.func11, Try.ntmps11
  go_wp2_with (first | ((with_reducible refine gate_callee (f := 38) rfl ?_); refine goesL_ (some 15) rfl rfl Try.func38 (by kernel_rfl) rfl #[.slice A0 l0.length c0] rfl mp_ ?_; (with_reducible refine (laws_big.calls _ _ l0 true _ ?side1 ?side2 A2.out).mono ?_); (case side1 => repeat (first | exact HR0.out | (with_reducible refine Kd.C_alloc ?_ _) | (with_reducible refine Kd.C_drewN ?_ _) | (with_reducible refine Kd.C_drew ?_))); (case side2 => exact HC0.out); rintro e w' ⟨rfl, ⟨nd, rfl⟩⟩; refine ⟨_, rfl, ?_⟩))
  go_ret
  exact ⟨er_, hb_⟩
 ·replace c3 := Bool.eq_false_iff.mpr c3
  subst c3
  have H1 : ((spec_DrawMaze.f k l0).bind fun bt646 => (laws_FnMazes.l0 k l0 0 0 bt646.1 bt646.2.1 bt646.2.2)) = some r := by rw [if_neg (show ¬ (false = true) by decide)] at H; exact H
  clear H
  have H := H1
  clear H1
  replace H := Option.bind_eq_some_iff.mp H
  obtain ⟨⟨t646, t647, t648⟩, A40, H⟩ := H
  replace H : (laws_FnMazes.l0 k l0 0 0 t646 t647 t648) = some r := H
  have A4 := Aside0.mk A40
  clear A40
  have H' := Aside0.mk H
  clear H
  go_enter Try.func11, Try.ntmps11
  go_wp2_with (first | ((with_reducible refine gate_callee (f := 38) rfl ?_); refine goesL_ (some 15) rfl rfl Try.func38 (by kernel_rfl) rfl #[.slice A0 l0.length c0] rfl mp_ ?_; (with_reducible refine (laws_big.calls _ _ l0 false _ ?side1 ?side2 A2.out).mono ?_); (case side1 => repeat (first | exact HR0.out | (with_reducible refine Kd.C_alloc ?_ _) | (with_reducible refine Kd.C_drewN ?_ _) | (with_reducible refine Kd.C_drew ?_))); (case side2 => exact HC0.out); rintro e w' ⟨rfl, ⟨nd, rfl⟩⟩; refine ⟨_, rfl, ?_⟩) | ((with_reducible refine gate_callee (f := 39) rfl ?_); refine goesL_ (some 17) rfl rfl Try.func39 (by kernel_rfl) rfl #[.slice A0 l0.length c0] rfl mp_ ?_; (with_reducible refine (spec_DrawMaze.calls k _ _ l0 t646 t647 t648 _ ?side1 ?side2 A4.out).mono ?_); (case side1 => repeat (first | exact HR0.out | (with_reducible refine Kd.C_alloc ?_ _) | (with_reducible refine Kd.C_drewN ?_ _) | (with_reducible refine Kd.C_drew ?_))); (case side2 => exact HC0.out); rintro e w5 ⟨rfl, hb⟩; refine ⟨_, rfl, ?_⟩; have n0_ := Aside0.mk (below_step hb_ hb); clear HB; have HB := n0_; clear n0_; (try clear hb); (try clear hb2); (try clear hk); (try clear hi)) | ((with_reducible refine gate_dst (N := 3) rfl ?_); refine box_event ?hg (N := 3) ?hd (cs := #[.int .i64 0, .int .i64 0, .int .i64 0]) (t := 30) ?hr ?_; (case hd => rfl); (case hg => rfl); (case hr => first | (go_simp; done) | (go_simp; rfl)); intro gb649 hg w6 hbox hb; have n0_ := Aside0.mk (below_step hb_ hb); have n1_ := Aside0.mk (hbox); have n2_ := Aside0.mk ((by rw [hg]; exact (below_size hb_) : w.heap.size ≤ gb649)); have n3_ := Aside0.mk ((by rw [hg]; exact (below_size hb_) : w.heap.size ≤ gb649)); clear HB; have HB := n0_; have BK649 := n1_; have GW649 := n2_; have GE649 := n3_; clear n0_ n1_ n2_ n3_; clear hb hbox hg; have hcz7_0 := cz_ (.int .i64 0) BK649.out 0; have hcz7_1 := cz_ (.int .i64 0) BK649.out 1; have hcz7_2 := cz_ (.int .i64 0) BK649.out 2; have hfz7_0 := blk_frozen BK649.out 0; have hfz7_1 := blk_frozen BK649.out 1; have hfz7_2 := blk_frozen BK649.out 2))
  go_loopg [4, 5] k (fun kq v4 v5 w' => ∃ (x4_1 : Int) (x5_1 : Int), v4 = .int .i64 x4_1 ∧ v5 = .int .i64 x5_1 ∧ Aside0 (laws_FnMazes.l0 kq l0 x4_1 x5_1 t646 t647 t648 = some r) ∧ Aside0 (kq ≤ k) ∧ Aside0 (w'.heap[gb649]? = some (.cells #[.int .i64 t646, .int .i64 t647, .int .i64 t648] 30 (0, 0))) ∧ Aside0 (Below w.heap.size w w'))
  case atStart => exact ⟨(0), (0), (by first | rfl | (simp; done) | (simp [*]; done)), (by first | rfl | (simp; done) | (simp [*]; done)), H', ⟨Nat.le_refl _⟩, ⟨by (with_reducible repeat (first | refine blk_drewN ?_ _ | refine blk_drew ?_ | refine blk_alloc ?_ _)); refine blk_put (cs := #[.int .i64 t646, .int .i64 t647, .int .i64 0]) ?_ 2 _ rfl; (with_reducible repeat (first | refine blk_drewN ?_ _ | refine blk_drew ?_ | refine blk_alloc ?_ _)); refine blk_put (cs := #[.int .i64 t646, .int .i64 0, .int .i64 0]) ?_ 1 _ rfl; (with_reducible repeat (first | refine blk_drewN ?_ _ | refine blk_drew ?_ | refine blk_alloc ?_ _)); refine blk_put (cs := #[.int .i64 0, .int .i64 0, .int .i64 0]) ?_ 0 _ rfl; (with_reducible repeat (first | refine blk_drewN ?_ _ | refine blk_drew ?_ | refine blk_alloc ?_ _)); exact BK649.out⟩, ⟨hb_⟩⟩
  case round =>
   clear H'
   try clear c1
   try clear p2
   try clear c3
   try clear hcz7_0
   try clear hcz7_1
   try clear hcz7_2
   try clear hfz7_0
   try clear hfz7_1
   try clear hfz7_2
   obtain ⟨x4_1, x5_1, rfl, rfl, HA, HK1, BK649, HB⟩ := hrel
   cases gk with
   | zero => exact absurd HA.out (by simp [laws_FnMazes.l0])
   | succ k1 =>
    have H := HA.out
    clear HA
    simp only [laws_FnMazes.l0] at H
    replace H := Option.bind_eq_some_iff.mp H
    obtain ⟨t650, A80, H⟩ := H
    replace H : (if x5_1 < t650 then ((impl_WaysFrom.f k1 t646 t647 t648 x5_1).bind fun t651 => (laws_FnMazes.l1 k1 l0 (wrap64 (x4_1 + (t651.length : Int))) x5_1 t651 0 t646 t647 t648)) else ((spec_CountGaps.f t646 t647).bind fun t658 => (if t658 = 0 then (if x4_1 = 0 then ((impl_CountPassages.f t646 t647 t648).bind fun t659 => (some (t659 == 0))) else (some false)) else ((laws_at.f l0 0).bind fun t660 => ((spec_CountGaps.f t646 t647).bind fun t661 => (if t661 = 0 then (none) else ((impl_IsPassage.f t646 t647 t648 (Int.tmod t660 t661)).bind fun t662 => ((impl_SetGap.f t646 t647 t648 (Int.tmod t660 t661) (!t662)).bind fun bt663 => ((impl_SetGap.f bt663.1 bt663.2.1 bt663.2.2.1 (Int.tmod t660 t661) t662).bind fun bt668 => ((impl_CountPassages.f t646 t647 t648).bind fun t673 => (if x4_1 = (wrap64 (2 * t673)) then (if bt663.2.2.2 = true then (if bt668.2.2.2 = true then (if ((bt668.1 == t646 && (bt668.2.1 == t647)) && (bt668.2.2.1 == t648)) = true then (if ((!(bt663.1 == t646) || (!(bt663.2.1 == t647))) || (!(bt663.2.2.1 == t648))) = true then ((impl_IsPassage.f bt663.1 bt663.2.1 bt663.2.2.1 (Int.tmod t660 t661)).bind fun t674 => (if (t674 == (!t662)) = true then ((impl_FullMaze.f t646 t647).bind fun bt675 => ((impl_CountPassages.f bt675.1 bt675.2.1 bt675.2.2).bind fun t678 => ((impl_CountGaps.f t646 t647).bind fun t679 => (some (t678 == t679))))) else (some false))) else (some false)) else (some false)) else (some false)) else (some false)) else (some false)))))))))))) = some r := H
    have A8 := Aside0.mk A80
    clear A80
    by_cases c9 : x5_1 < t650
    ·rw [if_pos c9] at H
     have c9b0 : decide (x5_1 < t650) = true := decide_eq_true c9
     clear c9
     replace H := Option.bind_eq_some_iff.mp H
     obtain ⟨t651, A100, H⟩ := H
     replace H : (laws_FnMazes.l1 k1 l0 (wrap64 (x4_1 + (t651.length : Int))) x5_1 t651 0 t646 t647 t648) = some r := H
     have A10 := Aside0.mk A100
     clear A100
     have H' := Aside0.mk H
     clear H
     have hcz11_0 : wr.cell? ⟨gb649, 0, none⟩ = some (.int .i64 t646) := (blk_cell BK649.out 0).trans rfl
     have hcz11_1 : wr.cell? ⟨gb649, 1, none⟩ = some (.int .i64 t647) := (blk_cell BK649.out 1).trans rfl
     have hcz11_2 : wr.cell? ⟨gb649, 2, none⟩ = some (.int .i64 t648) := (blk_cell BK649.out 2).trans rfl
     have hfz11_0 := blk_frozen BK649.out 0
     have hfz11_1 := blk_frozen BK649.out 1
     have hfz11_2 := blk_frozen BK649.out 2
     go_wp2_with (first | ((with_reducible refine gate_callee (f := 40) rfl ?_); refine goesL_ (some 21) rfl rfl Try.func40 (by kernel_rfl) rfl #[.agg #[.int .i64 t646, .int .i64 t647]] rfl mp_ ?_; (with_reducible refine (spec_CountCells.calls t646 t647 t650 _ A8.out).mono ?_); rintro e w12 ⟨rfl, hb⟩; refine ⟨_, rfl, ?_⟩; have n0_ := Aside0.mk (blk_below (g := gb649) (o := .cells #[.int .i64 t646, .int .i64 t647, .int .i64 t648] 30 (0, 0)) (kb_ BK649.out) hb); have n1_ := Aside0.mk (below_step hb_ hb); clear BK649; clear HB; have BK649 := n0_; have HB := n1_; clear n0_ n1_; (try clear hb); (try clear hb2); (try clear hk); (try clear hi); have hcz13_0 := cz_ (.int .i64 t646) BK649.out 0; have hcz13_1 := cz_ (.int .i64 t647) BK649.out 1; have hcz13_2 := cz_ (.int .i64 t648) BK649.out 2; have hfz13_0 := blk_frozen BK649.out 0; have hfz13_1 := blk_frozen BK649.out 1; have hfz13_2 := blk_frozen BK649.out 2) | ((with_reducible refine gate_callee (f := 41) rfl ?_); refine goesL_ (some 27) rfl rfl Try.func41 (by kernel_rfl) rfl #[.agg #[.int .i64 t646, .int .i64 t647, .int .i64 t648], .int .i64 x5_1] rfl mp_ ?_; (with_reducible refine (impl_WaysFrom.calls k1 t646 t647 t648 x5_1 t651 _ A10.out).mono ?_); rintro e w14 ⟨v652, rfl, ho0, hb⟩; refine ⟨_, rfl, ?_⟩; have n0_ := Aside0.mk (Kd.R_lower ho0 (below_size hb_)); have n1_ := Aside0.mk (blk_below (g := gb649) (o := .cells #[.int .i64 t646, .int .i64 t647, .int .i64 t648] 30 (0, 0)) (kb_ BK649.out) hb); have n2_ := Aside0.mk (below_step hb_ hb); clear BK649; clear HB; have HO653 := n0_; have BK649 := n1_; have HB := n2_; clear n0_ n1_ n2_; (try clear hb); (try clear hb2); (try clear hk); (try clear hi); (try clear ho0); obtain ⟨Ao15, co15, eo15⟩ := Kd.R_slice HO653.out; subst eo15))
     go_loopg [7] k1 (fun kq v7 w' => ∃ (x7_2 : Int), v7 = .int .i64 x7_2 ∧ Aside0 (laws_FnMazes.l1 kq l0 (wrap64 (x4_1 + (t651.length : Int))) x5_1 t651 x7_2 t646 t647 t648 = some r) ∧ Aside0 (kq ≤ k1) ∧ Aside0 (Kd.R (Kd.int .i64) 3 w' w.heap.size (fun _ => True) (.slice Ao15 t651.length co15) t651) ∧ Aside0 (w'.heap[gb649]? = some (.cells #[.int .i64 t646, .int .i64 t647, .int .i64 t648] 30 (0, 0))) ∧ Aside0 (Below w.heap.size w w'))
     case atStart => exact ⟨(0), (by first | rfl | (simp; done) | (simp [*]; done)), H', ⟨Nat.le_refl _⟩, ⟨kr_ HO653.out⟩, ⟨kb_ BK649.out⟩, ⟨hb_⟩⟩
     case round =>
      clear H'
      try clear c1
      try clear p2
      try clear c3
      try clear c4
      try clear p6
      try clear c9
      try clear c9b0
      try clear c11
      try clear hcz11_0
      try clear hcz11_1
      try clear hcz11_2
      try clear hcz13_0
      try clear hcz13_1
      try clear hcz13_2
      try clear hcz7_0
      try clear hcz7_1
      try clear hcz7_2
      try clear hfz11_0
      try clear hfz11_1
      try clear hfz11_2
      try clear hfz13_0
      try clear hfz13_1
      try clear hfz13_2
      try clear hfz7_0
      try clear hfz7_1
      try clear hfz7_2
      try clear p2
      obtain ⟨x7_2, rfl, HA, HK2, HO_6, BK649, HB⟩ := hrel
      cases gk with
      | zero => exact absurd HA.out (by simp [laws_FnMazes.l1])
      | succ k2 =>
       have H := HA.out
       clear HA
       simp only [laws_FnMazes.l1] at H
       by_cases c16 : x7_2 < (t651.length : Int)
       ·rw [if_pos c16] at H
        have c16b0 : decide (x7_2 < (t651.length : Int)) = true := decide_eq_true c16
        clear c16
        by_cases c17 : 0 ≤ x7_2
        ·rw [if_pos c17] at H
         have c17b0 : decide (0 ≤ x7_2) = true := decide_eq_true c17
         clear c17
         replace H := Option.bind_eq_some_iff.mp H
         obtain ⟨t655, A180, H⟩ := H
         replace H : ((impl_Step.f k2 t646 t647 t648 t655 (Int.tmod (wrap64 ((rd t651 x7_2) + 2)) 4)).bind fun t657 => (if t657 = x5_1 then (laws_FnMazes.l1 k2 l0 (wrap64 (x4_1 + (t651.length : Int))) x5_1 t651 (wrap64 (x7_2 + 1)) t646 t647 t648) else (some false))) = some r := H
         have A18 := Aside0.mk A180
         clear A180
         replace H := Option.bind_eq_some_iff.mp H
         obtain ⟨t657, A190, H⟩ := H
         replace H : (if t657 = x5_1 then (laws_FnMazes.l1 k2 l0 (wrap64 (x4_1 + (t651.length : Int))) x5_1 t651 (wrap64 (x7_2 + 1)) t646 t647 t648) else (some false)) = some r := H
         have A19 := Aside0.mk A190
         clear A190
         by_cases c20 : t657 = x5_1
         ·rw [if_pos c20] at H
          have c20b0 : (t657 == x5_1) = true := beq_iff_eq.mpr c20
          have c20b1 : (t657 != x5_1) = false := bne_eq_false_iff_eq.mpr c20
          clear c20
          have H' := Aside0.mk H
          clear H
          try go_wp2
          have n0_ := Aside0.mk (Kd.R_drew HO_6.out)
          have n1_ := Aside0.mk (blk_drew BK649.out)
          have n2_ := Aside0.mk (below_drew1 HB.out)
          clear HO_6
          clear BK649
          clear HB
          have HO_6 := n0_
          have BK649 := n1_
          have HB := n2_
          clear n0_ n1_ n2_
          have p654 : 0 ≤ (x7_2 : Int) := of_decide_eq_true (by first | (with_reducible assumption) | assumption)
          have q654 : x7_2 < (t651.length : Int) := of_decide_eq_true (by first | (with_reducible assumption) | assumption)
          obtain ⟨ad654, e654, hx654_0⟩ := Kd.at_int (Kd.R_reads' HO_6.out).2.2 x7_2 p654 q654
          cases e654
          replace p654 := eq_true p654
          replace q654 := eq_true q654
          have p656 : 0 ≤ (x7_2 : Int) := of_decide_eq_true (by first | (with_reducible assumption) | assumption)
          have q656 : x7_2 < (t651.length : Int) := of_decide_eq_true (by first | (with_reducible assumption) | assumption)
          obtain ⟨ad656, e656, hx656_0⟩ := Kd.at_int (Kd.R_reads' HO_6.out).2.2 x7_2 p656 q656
          obtain rfl : ad654 = ad656 := (by injection e656)
          replace p656 := eq_true p656
          replace q656 := eq_true q656
          refine start_ (n := 17) (S := fun w' => w'.cell? ⟨gb649, 0, none⟩ = some (.int .i64 t646) ∧ w'.cell? ⟨gb649, 1, none⟩ = some (.int .i64 t647) ∧ w'.cell? ⟨gb649, 2, none⟩ = some (.int .i64 t648) ∧ w'.cell? (ad654.add (x7_2).toNat) = some (.int .i64 (rd t651 x7_2)) ∧ w'.cell? (ad654.add (x7_2).toNat) = some (.int .i64 (rd t651 x7_2))) (ds := []) #[false, false, false, false, false, false, false, false, false, false, false, false, false, false, false, false, false] (by kernel_rfl) rfl rfl ⟨(blk_cell BK649.out 0).trans rfl, (blk_cell BK649.out 1).trans rfl, (blk_cell BK649.out 2).trans rfl, hx654_0, hx656_0⟩ (fun hHeld => ?_); refine with_tabW laws_FnMazes.tab13 laws_FnMazes.bits13 (fun HT_ HW_ => ?_)
          generalize wr.drew = w21 at HO_6 BK649 HB hx654_0 hx656_0 hHeld ⊢
          refine pure_ (i := 2) (N := some 40) (v := ?_) (a' := ?_) #[false, false, true, false, false, false, false, false, false, false, false, false, false, false, false, false, false] rfl rfl (any_of HT_.out (by kernel_rfl)) (fun _ _ _ h => h) (Or.inl ⟨by rfl, ?_⟩) ?_ ?_
          rotate_left
          ·intro w'
           go_simp
           with_reducible rfl
          rotate_left
          ·simp only [Act.put, List.setIfInBounds_toArray, List.set_cons_zero, List.set_cons_succ, i64_w, i32_w]
           rfl
          refine pure_ (i := 3) (N := some 41) (v := ?_) (a' := ?_) #[false, false, true, true, false, false, false, false, false, false, false, false, false, false, false, false, false] rfl rfl (any_of HT_.out (by kernel_rfl)) (fun _ _ _ h => h) (Or.inl ⟨by rfl, ?_⟩) ?_ ?_
          rotate_left
          ·intro w'
           go_simp
           with_reducible rfl
          rotate_left
          ·simp only [Act.put, List.setIfInBounds_toArray, List.set_cons_zero, List.set_cons_succ, i64_w, i32_w]
           rfl
          refine pure_ (i := 4) (N := some 42) (v := ?_) (a' := ?_) #[false, false, true, true, true, false, false, false, false, false, false, false, false, false, false, false, false] rfl rfl (any_of HT_.out (by kernel_rfl)) (fun _ _ _ h => h) (Or.inl ⟨by rfl, ?_⟩) ?_ ?_
          rotate_left
          ·intro w'
           go_simp
           with_reducible rfl
          rotate_left
          ·simp only [Act.put, List.setIfInBounds_toArray, List.set_cons_zero, List.set_cons_succ, i64_w, i32_w]
           rfl
          refine pure_ (i := 5) (N := some 43) (v := ?_) (a' := ?_) #[false, false, true, true, true, true, false, false, false, false, false, false, false, false, false, false, false] rfl rfl (any_of HT_.out (by kernel_rfl)) (fun _ _ _ h => h) (Or.inl ⟨by rfl, ?_⟩) ?_ ?_
          rotate_left
          ·intro w'
           go_simp
           with_reducible rfl
          rotate_left
          ·simp only [Act.put, List.setIfInBounds_toArray, List.set_cons_zero, List.set_cons_succ, i64_w, i32_w]
           rfl
          refine pure_ (i := 8) (N := some 46) (v := ?_) (a' := ?_) #[false, false, true, true, true, true, false, false, true, false, false, false, false, false, false, false, false] rfl rfl (any_of HT_.out (by kernel_rfl)) (fun _ _ _ h => h) (Or.inl ⟨by rfl, ?_⟩) ?_ ?_
          rotate_left
          ·intro w'
           go_simp
           with_reducible rfl
          rotate_left
          ·simp only [Act.put, List.setIfInBounds_toArray, List.set_cons_zero, List.set_cons_succ, i64_w, i32_w]
           rfl
          refine pure_ (i := 9) (N := some 47) (v := ?_) (a' := ?_) #[false, false, true, true, true, true, false, false, true, true, false, false, false, false, false, false, false] rfl rfl (any_of HT_.out (by kernel_rfl)) (fun _ _ _ h => h) (Or.inl ⟨by rfl, ?_⟩) ?_ ?_
          rotate_left
          ·intro w'
           go_simp
           with_reducible rfl
          rotate_left
          ·simp only [Act.put, List.setIfInBounds_toArray, List.set_cons_zero, List.set_cons_succ, i64_w, i32_w]
           rfl
          refine pure_ (i := 10) (N := some 48) (v := ?_) (a' := ?_) #[false, false, true, true, true, true, false, false, true, true, true, false, false, false, false, false, false] rfl rfl (any_of HT_.out (by kernel_rfl)) (fun _ _ _ h => h) (Or.inl ⟨by rfl, ?_⟩) ?_ ?_
          rotate_left
          ·intro w'
           go_simp
           with_reducible rfl
          rotate_left
          ·simp only [Act.put, List.setIfInBounds_toArray, List.set_cons_zero, List.set_cons_succ, i64_w, i32_w]
           rfl
          refine pure_ (i := 15) (N := some 53) (v := ?_) (a' := ?_) #[false, false, true, true, true, true, false, false, true, true, true, false, false, false, false, true, false] rfl rfl (any_of HT_.out (by kernel_rfl)) (fun _ _ _ h => h) (Or.inl ⟨by rfl, ?_⟩) ?_ ?_
          rotate_left
          ·intro w'
           go_simp
           with_reducible rfl
          rotate_left
          ·simp only [Act.put, List.setIfInBounds_toArray, List.set_cons_zero, List.set_cons_succ, i64_w, i32_w]
           rfl
          refine take_ (i := 0) (N := some 38) (v := ?_) (a' := ?_) #[true, false, true, true, true, true, false, false, true, true, true, false, false, false, false, true, false] rfl rfl (take_ofW HT_.out HW_.out (by kernel_rfl)) (fun _ _ _ h => h) (Or.inl ⟨by rfl, ?_⟩) hHeld ?_ ?_
          rotate_left
          ·rintro w' ⟨s0, s1, s2, s3, s4⟩
           go_simp
           with_reducible rfl
          rotate_left
          ·simp only [Act.put, List.setIfInBounds_toArray, List.set_cons_zero, List.set_cons_succ, i64_w, i32_w]
           rfl
          refine take_ (i := 1) (N := some 39) (v := ?_) (a' := ?_) #[true, true, true, true, true, true, false, false, true, true, true, false, false, false, false, true, false] rfl rfl (take_ofW HT_.out HW_.out (by kernel_rfl)) (fun _ _ _ h => h) (Or.inl ⟨by rfl, ?_⟩) hHeld ?_ ?_
          rotate_left
          ·rintro w' ⟨s0, s1, s2, s3, s4⟩
           go_simp
           with_reducible rfl
          rotate_left
          ·simp only [Act.put, List.setIfInBounds_toArray, List.set_cons_zero, List.set_cons_succ, i64_w, i32_w]
           rfl
          refine take_ (i := 6) (N := some 44) (v := ?_) (a' := ?_) #[true, true, true, true, true, true, true, false, true, true, true, false, false, false, false, true, false] rfl rfl (take_ofW HT_.out HW_.out (by kernel_rfl)) (fun _ _ _ h => h) (Or.inl ⟨by rfl, ?_⟩) hHeld ?_ ?_
          rotate_left
          ·rintro w' ⟨s0, s1, s2, s3, s4⟩
           go_simp
           with_reducible rfl
          rotate_left
          ·simp only [Act.put, List.setIfInBounds_toArray, List.set_cons_zero, List.set_cons_succ, i64_w, i32_w]
           rfl
          refine take_ (i := 11) (N := some 49) (v := ?_) (a' := ?_) #[true, true, true, true, true, true, true, false, true, true, true, true, false, false, false, true, false] rfl rfl (take_ofW HT_.out HW_.out (by kernel_rfl)) (fun _ _ _ h => h) (Or.inl ⟨by rfl, ?_⟩) hHeld ?_ ?_
          rotate_left
          ·rintro w' ⟨s0, s1, s2, s3, s4⟩
           go_simp
           with_reducible rfl
          rotate_left
          ·simp only [Act.put, List.setIfInBounds_toArray, List.set_cons_zero, List.set_cons_succ, i64_w, i32_w]
           rfl
          refine pure_ (i := 12) (N := some 50) (v := ?_) (a' := ?_) #[true, true, true, true, true, true, true, false, true, true, true, true, true, false, false, true, false] rfl rfl (any_of HT_.out (by kernel_rfl)) (fun _ _ _ h => h) (Or.inl ⟨by rfl, ?_⟩) ?_ ?_
          rotate_left
          ·intro w'
           go_simp
           with_reducible rfl
          rotate_left
          ·simp only [Act.put, List.setIfInBounds_toArray, List.set_cons_zero, List.set_cons_succ, i64_w, i32_w]
           rfl
          refine pure_ (i := 13) (N := some 51) (v := ?_) (a' := ?_) #[true, true, true, true, true, true, true, false, true, true, true, true, true, true, false, true, false] rfl rfl (any_of HT_.out (by kernel_rfl)) (fun _ _ _ h => h) (Or.inl ⟨by rfl, ?_⟩) ?_ ?_
          rotate_left
          ·intro w'
           go_simp
           with_reducible rfl
          rotate_left
          ·simp only [Act.put, List.setIfInBounds_toArray, List.set_cons_zero, List.set_cons_succ, i64_w, i32_w]
           rfl
          refine one_ (i := 7) (N := some 45) #[true, true, true, true, true, true, true, true, true, true, true, true, true, true, false, true, false] rfl rfl (one_of HT_.out (by kernel_rfl)) (by decide) (fun K hK => ?_)
          refine goes_ Try.func42 (by kernel_rfl) rfl #[.agg #[.int .i64 t646, .int .i64 t647, .int .i64 t648], .int .i64 x5_1, .int .i64 (rd t651 x7_2)] (by rfl) rfl rfl mp_ ?_
          with_reducible refine (impl_Step.calls k2 t646 t647 t648 x5_1 (rd t651 x7_2) t655 _ A18.out).mono ?_
          rintro e w22 ⟨rfl, hb⟩
          have HS3_ := (hb.cell (World.block_lt_of_cell? _ _ (hHeld.2.2.2.1))).trans (hHeld.2.2.2.1)
          have HS4_ := (hb.cell (World.block_lt_of_cell? _ _ (hHeld.2.2.2.2))).trans (hHeld.2.2.2.2)
          refine ⟨_, rfl, ?_⟩
          have n0_ := Aside0.mk (Kd.R_below (kr_ HO_6.out) hb)
          have n1_ := Aside0.mk (blk_below (g := gb649) (o := .cells #[.int .i64 t646, .int .i64 t647, .int .i64 t648] 30 (0, 0)) (kb_ BK649.out) hb)
          have n2_ := Aside0.mk (below_step hb_ hb)
          clear HO_6
          clear BK649
          clear HB
          have HO_6 := n0_
          have BK649 := n1_
          have HB := n2_
          clear n0_ n1_ n2_
          (try clear hb)
          (try clear hb2)
          (try clear hk)
          (try clear hi)
          refine hK.out _ _ ⟨(blk_cell BK649.out 0).trans rfl, (blk_cell BK649.out 1).trans rfl, (blk_cell BK649.out 2).trans rfl, HS3_, HS4_⟩ (fun hHeld => ?_)
          clear hK K
          refine norm_ (a' := ?_) ?_ ?_
          rotate_left
          ·show Act.put _ (some 45) _ = _
           simp only [Act.put, List.setIfInBounds_toArray, List.set_cons_zero, List.set_cons_succ, i64_w, i32_w]
           rfl
          refine one_ (i := 14) (N := some 52) #[true, true, true, true, true, true, true, true, true, true, true, true, true, true, true, true, false] rfl rfl (one_of HT_.out (by kernel_rfl)) (by decide) (fun K hK => ?_)
          refine goes_ Try.func42 (by kernel_rfl) rfl #[.agg #[.int .i64 t646, .int .i64 t647, .int .i64 t648], .int .i64 t655, .int .i64 (Int.tmod (wrap64 ((rd t651 x7_2) + 2)) 4)] (by rfl) rfl rfl mp_ ?_
          with_reducible refine (impl_Step.calls k2 t646 t647 t648 t655 (Int.tmod (wrap64 ((rd t651 x7_2) + 2)) 4) t657 _ A19.out).mono ?_
          rintro e w23 ⟨rfl, hb⟩
          have HS3_ := (hb.cell (World.block_lt_of_cell? _ _ (hHeld.2.2.2.1))).trans (hHeld.2.2.2.1)
          have HS4_ := (hb.cell (World.block_lt_of_cell? _ _ (hHeld.2.2.2.2))).trans (hHeld.2.2.2.2)
          refine ⟨_, rfl, ?_⟩
          have n0_ := Aside0.mk (Kd.R_below (kr_ HO_6.out) hb)
          have n1_ := Aside0.mk (blk_below (g := gb649) (o := .cells #[.int .i64 t646, .int .i64 t647, .int .i64 t648] 30 (0, 0)) (kb_ BK649.out) hb)
          have n2_ := Aside0.mk (below_step hb_ hb)
          clear HO_6
          clear BK649
          clear HB
          have HO_6 := n0_
          have BK649 := n1_
          have HB := n2_
          clear n0_ n1_ n2_
          (try clear hb)
          (try clear hb2)
          (try clear hk)
          (try clear hi)
          refine hK.out _ _ ⟨(blk_cell BK649.out 0).trans rfl, (blk_cell BK649.out 1).trans rfl, (blk_cell BK649.out 2).trans rfl, HS3_, HS4_⟩ (fun hHeld => ?_)
          clear hK K
          refine norm_ (a' := ?_) ?_ ?_
          rotate_left
          ·show Act.put _ (some 52) _ = _
           simp only [Act.put, List.setIfInBounds_toArray, List.set_cons_zero, List.set_cons_succ, i64_w, i32_w]
           rfl
          refine pure_ (i := 16) (N := some 54) (v := ?_) (a' := ?_) #[true, true, true, true, true, true, true, true, true, true, true, true, true, true, true, true, true] rfl rfl (any_of HT_.out (by kernel_rfl)) (fun _ _ _ h => h) (Or.inl ⟨by rfl, ?_⟩) ?_ ?_
          rotate_left
          ·intro w'
           go_simp
           with_reducible rfl
          rotate_left
          ·simp only [Act.put, List.setIfInBounds_toArray, List.set_cons_zero, List.set_cons_succ, i64_w, i32_w]
           rfl
          refine done_ (done_of HT_.out (by kernel_rfl)) ?_
          try go_wp2
          go_roundg k2
          case measure => have := HK1.out; have := HK2.out; omega
          case rel => exact ⟨(wrap64 (x7_2 + 1)), (by first | rfl | (simp; done) | (simp [*]; done)), H', ⟨by have := HK1.out; have := HK2.out; omega⟩, ⟨kr_ HO_6.out⟩, ⟨kb_ BK649.out⟩, ⟨hb_⟩⟩
         ·rw [if_neg c20] at H
          have c20b0 : (t657 == x5_1) = false := beq_eq_false_iff_ne.mpr c20
          have c20b1 : (t657 != x5_1) = true := bne_iff_ne.mpr c20
          exact absurd ((Option.some.inj H).trans HT_.out) (by decide)
        ·rw [if_neg c17] at H
         exact absurd H (by simp)
       ·rw [if_neg c16] at H
        have c16b0 : decide (x7_2 < (t651.length : Int)) = false := decide_eq_false c16
        clear c16
        have H' := Aside0.mk H
        clear H
        go_wp2
        go_roundg k2
        case measure => have := HK1.out; have := HK2.out; omega
        case rel => exact ⟨((wrap64 (x4_1 + (t651.length : Int)))), (wrap64 (x5_1 + 1)), (by first | rfl | (simp; done) | (simp [*]; done)), (by first | rfl | (simp; done) | (simp [*]; done)), H', ⟨by have := HK1.out; have := HK2.out; omega⟩, ⟨kb_ BK649.out⟩, ⟨hb_⟩⟩
    ·rw [if_neg c9] at H
     have c9b0 : decide (x5_1 < t650) = false := decide_eq_false c9
     clear c9
     replace H := Option.bind_eq_some_iff.mp H
     obtain ⟨t658, A240, H⟩ := H
     replace H : (if t658 = 0 then (if x4_1 = 0 then ((impl_CountPassages.f t646 t647 t648).bind fun t659 => (some (t659 == 0))) else (some false)) else ((laws_at.f l0 0).bind fun t660 => ((spec_CountGaps.f t646 t647).bind fun t661 => (if t661 = 0 then (none) else ((impl_IsPassage.f t646 t647 t648 (Int.tmod t660 t661)).bind fun t662 => ((impl_SetGap.f t646 t647 t648 (Int.tmod t660 t661) (!t662)).bind fun bt663 => ((impl_SetGap.f bt663.1 bt663.2.1 bt663.2.2.1 (Int.tmod t660 t661) t662).bind fun bt668 => ((impl_CountPassages.f t646 t647 t648).bind fun t673 => (if x4_1 = (wrap64 (2 * t673)) then (if bt663.2.2.2 = true then (if bt668.2.2.2 = true then (if ((bt668.1 == t646 && (bt668.2.1 == t647)) && (bt668.2.2.1 == t648)) = true then (if ((!(bt663.1 == t646) || (!(bt663.2.1 == t647))) || (!(bt663.2.2.1 == t648))) = true then ((impl_IsPassage.f bt663.1 bt663.2.1 bt663.2.2.1 (Int.tmod t660 t661)).bind fun t674 => (if (t674 == (!t662)) = true then ((impl_FullMaze.f t646 t647).bind fun bt675 => ((impl_CountPassages.f bt675.1 bt675.2.1 bt675.2.2).bind fun t678 => ((impl_CountGaps.f t646 t647).bind fun t679 => (some (t678 == t679))))) else (some false))) else (some false)) else (some false)) else (some false)) else (some false)) else (some false)))))))))) = some r := H
     have A24 := Aside0.mk A240
     clear A240
     by_cases c25 : t658 = 0
     ·rw [if_pos c25] at H
      have c25b0 : (t658 == 0) = true := beq_iff_eq.mpr c25
      have c25b1 : (t658 != 0) = false := bne_eq_false_iff_eq.mpr c25
      clear c25
      by_cases c26 : x4_1 = 0
      ·rw [if_pos c26] at H
       have c26b0 : (x4_1 == 0) = true := beq_iff_eq.mpr c26
       have c26b1 : (x4_1 != 0) = false := bne_eq_false_iff_eq.mpr c26
       clear c26
       replace H := Option.bind_eq_some_iff.mp H
       obtain ⟨t659, A270, H⟩ := H
       replace H : (some (t659 == 0)) = some r := H
       have A27 := Aside0.mk A270
       clear A270
       obtain rfl := Option.some.inj H
       have hcz28_0 : wr.cell? ⟨gb649, 0, none⟩ = some (.int .i64 t646) := (blk_cell BK649.out 0).trans rfl
       have hcz28_1 : wr.cell? ⟨gb649, 1, none⟩ = some (.int .i64 t647) := (blk_cell BK649.out 1).trans rfl
       have hcz28_2 : wr.cell? ⟨gb649, 2, none⟩ = some (.int .i64 t648) := (blk_cell BK649.out 2).trans rfl
       have hfz28_0 := blk_frozen BK649.out 0
       have hfz28_1 := blk_frozen BK649.out 1
       have hfz28_2 := blk_frozen BK649.out 2
       go_wp2_with (first | ((with_reducible refine gate_callee (f := 40) rfl ?_); refine goesL_ (some 21) rfl rfl Try.func40 (by kernel_rfl) rfl #[.agg #[.int .i64 t646, .int .i64 t647]] rfl mp_ ?_; (with_reducible refine (spec_CountCells.calls t646 t647 t650 _ A8.out).mono ?_); rintro e w29 ⟨rfl, hb⟩; refine ⟨_, rfl, ?_⟩; have n0_ := Aside0.mk (blk_below (g := gb649) (o := .cells #[.int .i64 t646, .int .i64 t647, .int .i64 t648] 30 (0, 0)) (kb_ BK649.out) hb); have n1_ := Aside0.mk (below_step hb_ hb); clear BK649; clear HB; have BK649 := n0_; have HB := n1_; clear n0_ n1_; (try clear hb); (try clear hb2); (try clear hk); (try clear hi); have hcz30_0 := cz_ (.int .i64 t646) BK649.out 0; have hcz30_1 := cz_ (.int .i64 t647) BK649.out 1; have hcz30_2 := cz_ (.int .i64 t648) BK649.out 2; have hfz30_0 := blk_frozen BK649.out 0; have hfz30_1 := blk_frozen BK649.out 1; have hfz30_2 := blk_frozen BK649.out 2) | ((with_reducible refine gate_callee (f := 43) rfl ?_); refine goesL_ (some 57) rfl rfl Try.func43 (by kernel_rfl) rfl #[.agg #[.int .i64 t646, .int .i64 t647]] rfl mp_ ?_; (with_reducible refine (spec_CountGaps.calls t646 t647 t658 _ A24.out).mono ?_); rintro e w31 ⟨rfl, hb⟩; refine ⟨_, rfl, ?_⟩; have n0_ := Aside0.mk (blk_below (g := gb649) (o := .cells #[.int .i64 t646, .int .i64 t647, .int .i64 t648] 30 (0, 0)) (kb_ BK649.out) hb); have n1_ := Aside0.mk (below_step hb_ hb); clear BK649; clear HB; have BK649 := n0_; have HB := n1_; clear n0_ n1_; (try clear hb); (try clear hb2); (try clear hk); (try clear hi); have hcz32_0 := cz_ (.int .i64 t646) BK649.out 0; have hcz32_1 := cz_ (.int .i64 t647) BK649.out 1; have hcz32_2 := cz_ (.int .i64 t648) BK649.out 2; have hfz32_0 := blk_frozen BK649.out 0; have hfz32_1 := blk_frozen BK649.out 1; have hfz32_2 := blk_frozen BK649.out 2) | (go_at_call 44; (with_reducible refine (impl_CountPassages.calls t646 t647 t648 t659 _ A27.out).mono ?_); rintro e w33 ⟨rfl, hb⟩; have n0_ := Aside0.mk (blk_below (g := gb649) (o := .cells #[.int .i64 t646, .int .i64 t647, .int .i64 t648] 30 (0, 0)) (kb_ BK649.out) hb); have n1_ := Aside0.mk (below_step hb_ hb); clear BK649; clear HB; have BK649 := n0_; have HB := n1_; clear n0_ n1_; (try clear hb); (try clear hb2); (try clear hk); (try clear hi)))
       go_ret
       exact ⟨er_, hb_⟩
      ·rw [if_neg c26] at H
       have c26b0 : (x4_1 == 0) = false := beq_eq_false_iff_ne.mpr c26
       have c26b1 : (x4_1 != 0) = true := bne_iff_ne.mpr c26
       exact absurd ((Option.some.inj H).trans HT_.out) (by decide)
     ·rw [if_neg c25] at H
      have c25b0 : (t658 == 0) = false := beq_eq_false_iff_ne.mpr c25
      have c25b1 : (t658 != 0) = true := bne_iff_ne.mpr c25
      replace H := Option.bind_eq_some_iff.mp H
      obtain ⟨t660, A340, H⟩ := H
      replace H : ((spec_CountGaps.f t646 t647).bind fun t661 => (if t661 = 0 then (none) else ((impl_IsPassage.f t646 t647 t648 (Int.tmod t660 t661)).bind fun t662 => ((impl_SetGap.f t646 t647 t648 (Int.tmod t660 t661) (!t662)).bind fun bt663 => ((impl_SetGap.f bt663.1 bt663.2.1 bt663.2.2.1 (Int.tmod t660 t661) t662).bind fun bt668 => ((impl_CountPassages.f t646 t647 t648).bind fun t673 => (if x4_1 = (wrap64 (2 * t673)) then (if bt663.2.2.2 = true then (if bt668.2.2.2 = true then (if ((bt668.1 == t646 && (bt668.2.1 == t647)) && (bt668.2.2.1 == t648)) = true then (if ((!(bt663.1 == t646) || (!(bt663.2.1 == t647))) || (!(bt663.2.2.1 == t648))) = true then ((impl_IsPassage.f bt663.1 bt663.2.1 bt663.2.2.1 (Int.tmod t660 t661)).bind fun t674 => (if (t674 == (!t662)) = true then ((impl_FullMaze.f t646 t647).bind fun bt675 => ((impl_CountPassages.f bt675.1 bt675.2.1 bt675.2.2).bind fun t678 => ((impl_CountGaps.f t646 t647).bind fun t679 => (some (t678 == t679))))) else (some false))) else (some false)) else (some false)) else (some false)) else (some false)) else (some false)))))))) = some r := H
      have A34 := Aside0.mk A340
      clear A340
      replace H := Option.bind_eq_some_iff.mp H
      obtain ⟨t661, A350, H⟩ := H
      replace H : (if t661 = 0 then (none) else ((impl_IsPassage.f t646 t647 t648 (Int.tmod t660 t661)).bind fun t662 => ((impl_SetGap.f t646 t647 t648 (Int.tmod t660 t661) (!t662)).bind fun bt663 => ((impl_SetGap.f bt663.1 bt663.2.1 bt663.2.2.1 (Int.tmod t660 t661) t662).bind fun bt668 => ((impl_CountPassages.f t646 t647 t648).bind fun t673 => (if x4_1 = (wrap64 (2 * t673)) then (if bt663.2.2.2 = true then (if bt668.2.2.2 = true then (if ((bt668.1 == t646 && (bt668.2.1 == t647)) && (bt668.2.2.1 == t648)) = true then (if ((!(bt663.1 == t646) || (!(bt663.2.1 == t647))) || (!(bt663.2.2.1 == t648))) = true then ((impl_IsPassage.f bt663.1 bt663.2.1 bt663.2.2.1 (Int.tmod t660 t661)).bind fun t674 => (if (t674 == (!t662)) = true then ((impl_FullMaze.f t646 t647).bind fun bt675 => ((impl_CountPassages.f bt675.1 bt675.2.1 bt675.2.2).bind fun t678 => ((impl_CountGaps.f t646 t647).bind fun t679 => (some (t678 == t679))))) else (some false))) else (some false)) else (some false)) else (some false)) else (some false)) else (some false))))))) = some r := H
      have A35 := Aside0.mk A350
      clear A350
      have EA35 := Aside0.mk (show t661 = t658 from by have e_ := Option.some.inj (A35.out.symm.trans A24.out); simpa only [Prod.mk.injEq] using e_)
      by_cases c36 : t661 = 0
      ·rw [if_pos c36] at H
       exact absurd H (by simp)
      ·rw [if_neg c36] at H
       have c36b0 : (t661 == 0) = false := beq_eq_false_iff_ne.mpr c36
       have c36b1 : (t661 != 0) = true := bne_iff_ne.mpr c36
       replace H := Option.bind_eq_some_iff.mp H
       obtain ⟨t662, A370, H⟩ := H
       replace H : ((impl_SetGap.f t646 t647 t648 (Int.tmod t660 t661) (!t662)).bind fun bt663 => ((impl_SetGap.f bt663.1 bt663.2.1 bt663.2.2.1 (Int.tmod t660 t661) t662).bind fun bt668 => ((impl_CountPassages.f t646 t647 t648).bind fun t673 => (if x4_1 = (wrap64 (2 * t673)) then (if bt663.2.2.2 = true then (if bt668.2.2.2 = true then (if ((bt668.1 == t646 && (bt668.2.1 == t647)) && (bt668.2.2.1 == t648)) = true then (if ((!(bt663.1 == t646) || (!(bt663.2.1 == t647))) || (!(bt663.2.2.1 == t648))) = true then ((impl_IsPassage.f bt663.1 bt663.2.1 bt663.2.2.1 (Int.tmod t660 t661)).bind fun t674 => (if (t674 == (!t662)) = true then ((impl_FullMaze.f t646 t647).bind fun bt675 => ((impl_CountPassages.f bt675.1 bt675.2.1 bt675.2.2).bind fun t678 => ((impl_CountGaps.f t646 t647).bind fun t679 => (some (t678 == t679))))) else (some false))) else (some false)) else (some false)) else (some false)) else (some false)) else (some false))))) = some r := H
       have A37 := Aside0.mk A370
       clear A370
       replace H := Option.bind_eq_some_iff.mp H
       obtain ⟨⟨t663, t664, t665, t666⟩, A380, H⟩ := H
       replace H : ((impl_SetGap.f t663 t664 t665 (Int.tmod t660 t661) t662).bind fun bt668 => ((impl_CountPassages.f t646 t647 t648).bind fun t673 => (if x4_1 = (wrap64 (2 * t673)) then (if t666 = true then (if bt668.2.2.2 = true then (if ((bt668.1 == t646 && (bt668.2.1 == t647)) && (bt668.2.2.1 == t648)) = true then (if ((!(t663 == t646) || (!(t664 == t647))) || (!(t665 == t648))) = true then ((impl_IsPassage.f t663 t664 t665 (Int.tmod t660 t661)).bind fun t674 => (if (t674 == (!t662)) = true then ((impl_FullMaze.f t646 t647).bind fun bt675 => ((impl_CountPassages.f bt675.1 bt675.2.1 bt675.2.2).bind fun t678 => ((impl_CountGaps.f t646 t647).bind fun t679 => (some (t678 == t679))))) else (some false))) else (some false)) else (some false)) else (some false)) else (some false)) else (some false)))) = some r := H
       have A38 := Aside0.mk A380
       clear A380
       replace H := Option.bind_eq_some_iff.mp H
       obtain ⟨⟨t668, t669, t670, t671⟩, A390, H⟩ := H
       replace H : ((impl_CountPassages.f t646 t647 t648).bind fun t673 => (if x4_1 = (wrap64 (2 * t673)) then (if t666 = true then (if t671 = true then (if ((t668 == t646 && (t669 == t647)) && (t670 == t648)) = true then (if ((!(t663 == t646) || (!(t664 == t647))) || (!(t665 == t648))) = true then ((impl_IsPassage.f t663 t664 t665 (Int.tmod t660 t661)).bind fun t674 => (if (t674 == (!t662)) = true then ((impl_FullMaze.f t646 t647).bind fun bt675 => ((impl_CountPassages.f bt675.1 bt675.2.1 bt675.2.2).bind fun t678 => ((impl_CountGaps.f t646 t647).bind fun t679 => (some (t678 == t679))))) else (some false))) else (some false)) else (some false)) else (some false)) else (some false)) else (some false))) = some r := H
       have A39 := Aside0.mk A390
       clear A390
       replace H := Option.bind_eq_some_iff.mp H
       obtain ⟨t673, A400, H⟩ := H
       replace H : (if x4_1 = (wrap64 (2 * t673)) then (if t666 = true then (if t671 = true then (if ((t668 == t646 && (t669 == t647)) && (t670 == t648)) = true then (if ((!(t663 == t646) || (!(t664 == t647))) || (!(t665 == t648))) = true then ((impl_IsPassage.f t663 t664 t665 (Int.tmod t660 t661)).bind fun t674 => (if (t674 == (!t662)) = true then ((impl_FullMaze.f t646 t647).bind fun bt675 => ((impl_CountPassages.f bt675.1 bt675.2.1 bt675.2.2).bind fun t678 => ((impl_CountGaps.f t646 t647).bind fun t679 => (some (t678 == t679))))) else (some false))) else (some false)) else (some false)) else (some false)) else (some false)) else (some false)) = some r := H
       have A40 := Aside0.mk A400
       clear A400
       by_cases c41 : x4_1 = (wrap64 (2 * t673))
       ·rw [if_pos c41] at H
        have c41b0 : (x4_1 == (wrap64 (2 * t673))) = true := beq_iff_eq.mpr c41
        have c41b1 : (x4_1 != (wrap64 (2 * t673))) = false := bne_eq_false_iff_eq.mpr c41
        clear c41
        by_cases c42 : t666 = true
        ·subst c42
         have H1 : (if t671 = true then (if ((t668 == t646 && (t669 == t647)) && (t670 == t648)) = true then (if ((!(t663 == t646) || (!(t664 == t647))) || (!(t665 == t648))) = true then ((impl_IsPassage.f t663 t664 t665 (Int.tmod t660 t661)).bind fun t674 => (if (t674 == (!t662)) = true then ((impl_FullMaze.f t646 t647).bind fun bt675 => ((impl_CountPassages.f bt675.1 bt675.2.1 bt675.2.2).bind fun t678 => ((impl_CountGaps.f t646 t647).bind fun t679 => (some (t678 == t679))))) else (some false))) else (some false)) else (some false)) else (some false)) = some r := by rw [if_pos rfl] at H; exact H
         clear H
         have H := H1
         clear H1
         by_cases c43 : t671 = true
         ·subst c43
          have H1 : (if ((t668 == t646 && (t669 == t647)) && (t670 == t648)) = true then (if ((!(t663 == t646) || (!(t664 == t647))) || (!(t665 == t648))) = true then ((impl_IsPassage.f t663 t664 t665 (Int.tmod t660 t661)).bind fun t674 => (if (t674 == (!t662)) = true then ((impl_FullMaze.f t646 t647).bind fun bt675 => ((impl_CountPassages.f bt675.1 bt675.2.1 bt675.2.2).bind fun t678 => ((impl_CountGaps.f t646 t647).bind fun t679 => (some (t678 == t679))))) else (some false))) else (some false)) else (some false)) = some r := by rw [if_pos rfl] at H; exact H
          clear H
          have H := H1
          clear H1
          by_cases c44 : ((t668 == t646 && (t669 == t647)) && (t670 == t648)) = true
          ·rw [if_pos c44] at H
           have c44b0 : ((t668 == t646 && (t669 == t647)) && (t670 == t648)) = true := c44
           clear c44
           by_cases c45 : ((!(t663 == t646) || (!(t664 == t647))) || (!(t665 == t648))) = true
           ·rw [if_pos c45] at H
            have c45b0 : ((!(t663 == t646) || (!(t664 == t647))) || (!(t665 == t648))) = true := c45
            clear c45
            replace H := Option.bind_eq_some_iff.mp H
            obtain ⟨t674, A460, H⟩ := H
            replace H : (if (t674 == (!t662)) = true then ((impl_FullMaze.f t646 t647).bind fun bt675 => ((impl_CountPassages.f bt675.1 bt675.2.1 bt675.2.2).bind fun t678 => ((impl_CountGaps.f t646 t647).bind fun t679 => (some (t678 == t679))))) else (some false)) = some r := H
            have A46 := Aside0.mk A460
            clear A460
            by_cases c47 : (t674 == (!t662)) = true
            ·rw [if_pos c47] at H
             have c47b0 : (t674 == (!t662)) = true := c47
             (try (have c47b1 : decide (t674 = (!t662)) = true := by simpa using c47))
             (try (have c47b2 : (t674 == (!t662)) = true := by simpa using c47))
             clear c47
             replace H := Option.bind_eq_some_iff.mp H
             obtain ⟨⟨t675, t676, t677⟩, A480, H⟩ := H
             replace H : ((impl_CountPassages.f t675 t676 t677).bind fun t678 => ((impl_CountGaps.f t646 t647).bind fun t679 => (some (t678 == t679)))) = some r := H
             have A48 := Aside0.mk A480
             clear A480
             replace H := Option.bind_eq_some_iff.mp H
             obtain ⟨t678, A490, H⟩ := H
             replace H : ((impl_CountGaps.f t646 t647).bind fun t679 => (some (t678 == t679))) = some r := H
             have A49 := Aside0.mk A490
             clear A490
             replace H := Option.bind_eq_some_iff.mp H
             obtain ⟨t679, A500, H⟩ := H
             replace H : (some (t678 == t679)) = some r := H
             have A50 := Aside0.mk A500
             clear A500
             obtain rfl := Option.some.inj H
             have hcz51_0 : wr.cell? ⟨gb649, 0, none⟩ = some (.int .i64 t646) := (blk_cell BK649.out 0).trans rfl
             have hcz51_1 : wr.cell? ⟨gb649, 1, none⟩ = some (.int .i64 t647) := (blk_cell BK649.out 1).trans rfl
             have hcz51_2 : wr.cell? ⟨gb649, 2, none⟩ = some (.int .i64 t648) := (blk_cell BK649.out 2).trans rfl
             have hfz51_0 := blk_frozen BK649.out 0
             have hfz51_1 := blk_frozen BK649.out 1
             have hfz51_2 := blk_frozen BK649.out 2
             try go_wp2_with (first | ((with_reducible refine gate_callee (f := 40) rfl ?_); refine goesL_ (some 21) rfl rfl Try.func40 (by kernel_rfl) rfl #[.agg #[.int .i64 t646, .int .i64 t647]] rfl mp_ ?_; (with_reducible refine (spec_CountCells.calls t646 t647 t650 _ A8.out).mono ?_); rintro e w52 ⟨rfl, hb⟩; refine ⟨_, rfl, ?_⟩; have n0_ := Aside0.mk (blk_below (g := gb649) (o := .cells #[.int .i64 t646, .int .i64 t647, .int .i64 t648] 30 (0, 0)) (kb_ BK649.out) hb); have n1_ := Aside0.mk (below_step hb_ hb); clear BK649; clear HB; have BK649 := n0_; have HB := n1_; clear n0_ n1_; (try clear hb); (try clear hb2); (try clear hk); (try clear hi); have hcz53_0 := cz_ (.int .i64 t646) BK649.out 0; have hcz53_1 := cz_ (.int .i64 t647) BK649.out 1; have hcz53_2 := cz_ (.int .i64 t648) BK649.out 2; have hfz53_0 := blk_frozen BK649.out 0; have hfz53_1 := blk_frozen BK649.out 1; have hfz53_2 := blk_frozen BK649.out 2) | ((with_reducible refine gate_callee (f := 43) rfl ?_); refine goesL_ (some 57) rfl rfl Try.func43 (by kernel_rfl) rfl #[.agg #[.int .i64 t646, .int .i64 t647]] rfl mp_ ?_; (with_reducible refine (spec_CountGaps.calls t646 t647 t658 _ A24.out).mono ?_); rintro e w54 ⟨rfl, hb⟩; refine ⟨_, rfl, ?_⟩; have n0_ := Aside0.mk (blk_below (g := gb649) (o := .cells #[.int .i64 t646, .int .i64 t647, .int .i64 t648] 30 (0, 0)) (kb_ BK649.out) hb); have n1_ := Aside0.mk (below_step hb_ hb); clear BK649; clear HB; have BK649 := n0_; have HB := n1_; clear n0_ n1_; (try clear hb); (try clear hb2); (try clear hk); (try clear hi)))
             have n0_ := Aside0.mk (blk_drew BK649.out)
             have n1_ := Aside0.mk (below_drew1 HB.out)
             clear BK649
             clear HB
             have BK649 := n0_
             have HB := n1_
             clear n0_ n1_
             refine start_ (n := 7) (S := fun w' => w'.cell? ⟨gb649, 0, none⟩ = some (.int .i64 t646) ∧ w'.cell? ⟨gb649, 1, none⟩ = some (.int .i64 t647) ∧ w'.cell? ⟨gb649, 2, none⟩ = some (.int .i64 t648)) (ds := []) #[false, false, false, false, false, false, false] (by kernel_rfl) rfl rfl ⟨(blk_cell BK649.out 0).trans rfl, (blk_cell BK649.out 1).trans rfl, (blk_cell BK649.out 2).trans rfl⟩ (fun hHeld => ?_)
             generalize w54.drew = w55 at BK649 HB hHeld ⊢
             refine pure_ (i := 0) (N := some 66) (v := ?_) (a' := ?_) #[true, false, false, false, false, false, false] rfl rfl (by kernel_rfl) (fun _ _ _ h => h) (Or.inl ⟨by rfl, ?_⟩) ?_ ?_
             rotate_left
             ·intro w'
              go_simp
              with_reducible rfl
             rotate_left
             ·simp only [Act.put, List.setIfInBounds_toArray, List.set_cons_zero, List.set_cons_succ, i64_w, i32_w]
              rfl
             refine pure_ (i := 2) (N := some 68) (v := ?_) (a' := ?_) #[true, false, true, false, false, false, false] rfl rfl (by kernel_rfl) (fun _ _ _ h => h) (Or.inl ⟨by rfl, ?_⟩) ?_ ?_
             rotate_left
             ·intro w'
              go_simp
              with_reducible rfl
             rotate_left
             ·simp only [Act.put, List.setIfInBounds_toArray, List.set_cons_zero, List.set_cons_succ, i64_w, i32_w]
              rfl
             refine take_ (i := 3) (N := some 69) (v := ?_) (a' := ?_) #[true, false, true, true, false, false, false] rfl rfl (by kernel_rfl) (fun _ _ _ h => h) (Or.inl ⟨by rfl, ?_⟩) hHeld ?_ ?_
             rotate_left
             ·rintro w' ⟨s0, s1, s2⟩
              go_simp
              with_reducible rfl
             rotate_left
             ·simp only [Act.put, List.setIfInBounds_toArray, List.set_cons_zero, List.set_cons_succ, i64_w, i32_w]
              rfl
             refine one_ (i := 1) (N := some 67) #[true, true, true, true, false, false, false] rfl rfl (by kernel_rfl) (by decide) (fun K hK => ?_)
             refine goes_ Try.func45 (by kernel_rfl) rfl #[.slice A0 l0.length c0, .int .i64 0] (by rfl) rfl rfl mp_ ?_
             with_reducible refine (laws_at.calls _ _ l0 0 t660 _ ?side1 ?side2 A34.out).mono ?_
             (case side1 => repeat (first | exact (Kd.C_below HR0.out HB.out) | (with_reducible refine Kd.C_alloc ?_ _) | (with_reducible refine Kd.C_drewN ?_ _) | (with_reducible refine Kd.C_drew ?_)))
             (case side2 => exact HC0.out)
             rintro e w' ⟨rfl, ⟨nd, rfl⟩⟩
             refine ⟨_, rfl, ?_⟩
             refine hK.out _ _ ⟨(blk_cell BK649.out 0).trans rfl, (blk_cell BK649.out 1).trans rfl, (blk_cell BK649.out 2).trans rfl⟩ (fun hHeld => ?_)
             clear hK K
             refine norm_ (a' := ?_) ?_ ?_
             rotate_left
             ·show Act.put _ (some 67) _ = _
              simp only [Act.put, List.setIfInBounds_toArray, List.set_cons_zero, List.set_cons_succ, i64_w, i32_w]
              rfl
             refine one_ (i := 4) (N := some 70) #[true, true, true, true, true, false, false] rfl rfl (by kernel_rfl) (by decide) (fun K hK => ?_)
             refine goes_ Try.func43 (by kernel_rfl) rfl #[.agg #[.int .i64 t646, .int .i64 t647]] (by rfl) rfl rfl mp_ ?_
             with_reducible refine (spec_CountGaps.calls t646 t647 t661 _ A35.out).mono ?_
             rintro e w56 ⟨rfl, hb⟩
             refine ⟨_, rfl, ?_⟩
             have n0_ := Aside0.mk (blk_below (g := gb649) (o := .cells #[.int .i64 t646, .int .i64 t647, .int .i64 t648] 30 (0, 0)) (kb_ BK649.out) hb)
             have n1_ := Aside0.mk (below_step hb_ hb)
             clear BK649
             clear HB
             have BK649 := n0_
             have HB := n1_
             clear n0_ n1_
             (try clear hb)
             (try clear hb2)
             (try clear hk)
             (try clear hi)
             refine hK.out _ _ ⟨(blk_cell BK649.out 0).trans rfl, (blk_cell BK649.out 1).trans rfl, (blk_cell BK649.out 2).trans rfl⟩ (fun hHeld => ?_)
             clear hK K
             refine norm_ (a' := ?_) ?_ ?_
             rotate_left
             ·show Act.put _ (some 70) _ = _
              simp only [Act.put, List.setIfInBounds_toArray, List.set_cons_zero, List.set_cons_succ, i64_w, i32_w]
              rfl
             refine pure_ (i := 5) (N := some 71) (v := ?_) (a' := ?_) #[true, true, true, true, true, true, false] rfl rfl (by kernel_rfl) (fun _ _ _ h => h) (Or.inl ⟨by rfl, ?_⟩) ?_ ?_
             rotate_left
             ·intro w'
              go_simp
              with_reducible rfl
             rotate_left
             ·simp only [Act.put, List.setIfInBounds_toArray, List.set_cons_zero, List.set_cons_succ, i64_w, i32_w]
              rfl
             refine pure_ (i := 6) (N := some 8) (v := ?_) (a' := ?_) #[true, true, true, true, true, true, true] rfl rfl (by kernel_rfl) (fun _ _ _ h => h) (Or.inl ⟨by rfl, ?_⟩) ?_ ?_
             rotate_left
             ·intro w'
              go_simp
              with_reducible rfl
             rotate_left
             ·simp only [Act.put, List.setIfInBounds_toArray, List.set_cons_zero, List.set_cons_succ, i64_w, i32_w]
              rfl
             refine done_ (by kernel_rfl) ?_
             have hcz57_0 := cz_ (.int .i64 t646) BK649.out 0
             have hcz57_1 := cz_ (.int .i64 t647) BK649.out 1
             have hcz57_2 := cz_ (.int .i64 t648) BK649.out 2
             have hfz57_0 := blk_frozen BK649.out 0
             have hfz57_1 := blk_frozen BK649.out 1
             have hfz57_2 := blk_frozen BK649.out 2
             try go_wp2_with (first | ((with_reducible refine gate_callee (f := 46) rfl ?_); refine goesL_ (some 74) rfl rfl Try.func46 (by kernel_rfl) rfl #[.agg #[.int .i64 t646, .int .i64 t647, .int .i64 t648], .int .i64 (Int.tmod t660 t661)] rfl mp_ ?_; (with_reducible refine (impl_IsPassage.calls t646 t647 t648 (Int.tmod t660 t661) t662 _ A37.out).mono ?_); rintro e w58 ⟨rfl, hb⟩; refine ⟨_, rfl, ?_⟩; have n0_ := Aside0.mk (blk_below (g := gb649) (o := .cells #[.int .i64 t646, .int .i64 t647, .int .i64 t648] 30 (0, 0)) (kb_ BK649.out) hb); have n1_ := Aside0.mk (below_step hb_ hb); clear BK649; clear HB; have BK649 := n0_; have HB := n1_; clear n0_ n1_; (try clear hb); (try clear hb2); (try clear hk); (try clear hi); have hcz59_0 := cz_ (.int .i64 t646) BK649.out 0; have hcz59_1 := cz_ (.int .i64 t647) BK649.out 1; have hcz59_2 := cz_ (.int .i64 t648) BK649.out 2; have hfz59_0 := blk_frozen BK649.out 0; have hfz59_1 := blk_frozen BK649.out 1; have hfz59_2 := blk_frozen BK649.out 2) | ((with_reducible refine gate_callee (f := 47) rfl ?_); refine goesL_ (some 80) rfl rfl Try.func47 (by kernel_rfl) rfl #[.agg #[.int .i64 t646, .int .i64 t647, .int .i64 t648], .int .i64 (Int.tmod t660 t661), .bool (!t662)] rfl mp_ ?_; (with_reducible refine (impl_SetGap.calls t646 t647 t648 (Int.tmod t660 t661) (!t662) t663 t664 t665 true _ A38.out).mono ?_); rintro e w60 ⟨rfl, hb⟩; refine ⟨_, rfl, ?_⟩; have n0_ := Aside0.mk (blk_below (g := gb649) (o := .cells #[.int .i64 t646, .int .i64 t647, .int .i64 t648] 30 (0, 0)) (kb_ BK649.out) hb); have n1_ := Aside0.mk (below_step hb_ hb); clear BK649; clear HB; have BK649 := n0_; have HB := n1_; clear n0_ n1_; (try clear hb); (try clear hb2); (try clear hk); (try clear hi)) | ((with_reducible refine gate_dst (N := 10) rfl ?_); refine box_event ?hg (N := 10) ?hd (cs := #[.int .i64 0, .int .i64 0, .int .i64 0]) (t := 30) ?hr ?_; (case hd => rfl); (case hg => rfl); (case hr => first | (go_simp; done) | (go_simp; rfl)); intro gb667 hg w61 hbox hb; have n0_ := Aside0.mk (blk_below (g := gb649) (o := .cells #[.int .i64 t646, .int .i64 t647, .int .i64 t648] 30 (0, 0)) (kb_ BK649.out) hb); have n1_ := Aside0.mk (below_step hb_ hb); have n2_ := Aside0.mk (hbox); have n3_ := Aside0.mk ((by rw [hg]; exact (below_size hb_) : w.heap.size ≤ gb667)); have n4_ := Aside0.mk ((by rw [hg]; exact (below_size hb_) : w.heap.size ≤ gb667)); have n5_ := Aside0.mk ((by rw [hg]; exact Nat.ne_of_lt (blk_lt (g := gb649) (o := .cells #[.int .i64 t646, .int .i64 t647, .int .i64 t648] 30 (0, 0)) (kb_ BK649.out)) : gb649 ≠ gb667)); have n6_ := Aside0.mk ((by rw [hg]; exact Nat.ne_of_gt (blk_lt (g := gb649) (o := .cells #[.int .i64 t646, .int .i64 t647, .int .i64 t648] 30 (0, 0)) (kb_ BK649.out)) : gb667 ≠ gb649)); clear BK649; clear HB; have BK649 := n0_; have HB := n1_; have BK667 := n2_; have GW667 := n3_; have GE667 := n4_; have NB649_667 := n5_; have NB667_649 := n6_; clear n0_ n1_ n2_ n3_ n4_ n5_ n6_; clear hb hbox hg; have hnb62 := NB667_649.out; have hnc62 := NB649_667.out; have hcz63_0 := cz_ (.int .i64 0) BK667.out 0; have hcz63_1 := cz_ (.int .i64 0) BK667.out 1; have hcz63_2 := cz_ (.int .i64 0) BK667.out 2; have hfz63_0 := blk_frozen BK667.out 0; have hfz63_1 := blk_frozen BK667.out 1; have hfz63_2 := blk_frozen BK667.out 2) | ((with_reducible refine gate_callee (f := 47) rfl ?_); refine goesL_ (some 87) rfl rfl Try.func47 (by kernel_rfl) rfl #[.agg #[.int .i64 t663, .int .i64 t664, .int .i64 t665], .int .i64 (Int.tmod t660 t661), .bool t662] rfl mp_ ?_; (with_reducible refine (impl_SetGap.calls t663 t664 t665 (Int.tmod t660 t661) t662 t668 t669 t670 true _ A39.out).mono ?_); rintro e w64 ⟨rfl, hb⟩; refine ⟨_, rfl, ?_⟩; have n0_ := Aside0.mk (blk_below (g := gb649) (o := .cells #[.int .i64 t646, .int .i64 t647, .int .i64 t648] 30 (0, 0)) (by (with_reducible repeat (first | refine blk_drewN ?_ _ | refine blk_drew ?_ | refine blk_alloc ?_ _)); refine blk_far ?_ NB649_667.out _; (with_reducible repeat (first | refine blk_drewN ?_ _ | refine blk_drew ?_ | refine blk_alloc ?_ _)); refine blk_far ?_ NB649_667.out _; (with_reducible repeat (first | refine blk_drewN ?_ _ | refine blk_drew ?_ | refine blk_alloc ?_ _)); refine blk_far ?_ NB649_667.out _; (with_reducible repeat (first | refine blk_drewN ?_ _ | refine blk_drew ?_ | refine blk_alloc ?_ _)); exact BK649.out) hb); have n1_ := Aside0.mk (blk_below (g := gb667) (o := .cells #[.int .i64 t663, .int .i64 t664, .int .i64 t665] 30 (0, 0)) (by (with_reducible repeat (first | refine blk_drewN ?_ _ | refine blk_drew ?_ | refine blk_alloc ?_ _)); refine blk_put (cs := #[.int .i64 t663, .int .i64 t664, .int .i64 0]) ?_ 2 _ rfl; (with_reducible repeat (first | refine blk_drewN ?_ _ | refine blk_drew ?_ | refine blk_alloc ?_ _)); refine blk_put (cs := #[.int .i64 t663, .int .i64 0, .int .i64 0]) ?_ 1 _ rfl; (with_reducible repeat (first | refine blk_drewN ?_ _ | refine blk_drew ?_ | refine blk_alloc ?_ _)); refine blk_put (cs := #[.int .i64 0, .int .i64 0, .int .i64 0]) ?_ 0 _ rfl; (with_reducible repeat (first | refine blk_drewN ?_ _ | refine blk_drew ?_ | refine blk_alloc ?_ _)); exact BK667.out) hb); have n2_ := Aside0.mk (below_step hb_ hb); clear BK649; clear BK667; clear HB; have BK649 := n0_; have BK667 := n1_; have HB := n2_; clear n0_ n1_ n2_; (try clear hb); (try clear hb2); (try clear hk); (try clear hi)) | ((with_reducible refine gate_dst (N := 12) rfl ?_); refine box_event ?hg (N := 12) ?hd (cs := #[.int .i64 0, .int .i64 0, .int .i64 0]) (t := 30) ?hr ?_; (case hd => rfl); (case hg => rfl); (case hr => first | (go_simp; done) | (go_simp; rfl)); intro gb672 hg w65 hbox hb; have n0_ := Aside0.mk (blk_below (g := gb649) (o := .cells #[.int .i64 t646, .int .i64 t647, .int .i64 t648] 30 (0, 0)) (kb_ BK649.out) hb); have n1_ := Aside0.mk (blk_below (g := gb667) (o := .cells #[.int .i64 t663, .int .i64 t664, .int .i64 t665] 30 (0, 0)) (kb_ BK667.out) hb); have n2_ := Aside0.mk (below_step hb_ hb); have n3_ := Aside0.mk (hbox); have n4_ := Aside0.mk ((by rw [hg]; exact (below_size hb_) : w.heap.size ≤ gb672)); have n5_ := Aside0.mk ((by rw [hg]; exact (below_size hb_) : w.heap.size ≤ gb672)); have n6_ := Aside0.mk ((by rw [hg]; exact Nat.ne_of_lt (blk_lt (g := gb649) (o := .cells #[.int .i64 t646, .int .i64 t647, .int .i64 t648] 30 (0, 0)) (kb_ BK649.out)) : gb649 ≠ gb672)); have n7_ := Aside0.mk ((by rw [hg]; exact Nat.ne_of_gt (blk_lt (g := gb649) (o := .cells #[.int .i64 t646, .int .i64 t647, .int .i64 t648] 30 (0, 0)) (kb_ BK649.out)) : gb672 ≠ gb649)); have n8_ := Aside0.mk ((by rw [hg]; exact Nat.ne_of_lt (blk_lt (g := gb667) (o := .cells #[.int .i64 t663, .int .i64 t664, .int .i64 t665] 30 (0, 0)) (kb_ BK667.out)) : gb667 ≠ gb672)); have n9_ := Aside0.mk ((by rw [hg]; exact Nat.ne_of_gt (blk_lt (g := gb667) (o := .cells #[.int .i64 t663, .int .i64 t664, .int .i64 t665] 30 (0, 0)) (kb_ BK667.out)) : gb672 ≠ gb667)); clear BK649; clear BK667; clear HB; have BK649 := n0_; have BK667 := n1_; have HB := n2_; have BK672 := n3_; have GW672 := n4_; have GE672 := n5_; have NB649_672 := n6_; have NB672_649 := n7_; have NB667_672 := n8_; have NB672_667 := n9_; clear n0_ n1_ n2_ n3_ n4_ n5_ n6_ n7_ n8_ n9_; clear hb hbox hg; have hnb66 := NB672_649.out; have hnc66 := NB649_672.out; have hnb67 := NB672_667.out; have hnc67 := NB667_672.out; have hcz68_0 := cz_ (.int .i64 0) BK672.out 0; have hcz68_1 := cz_ (.int .i64 0) BK672.out 1; have hcz68_2 := cz_ (.int .i64 0) BK672.out 2; have hfz68_0 := blk_frozen BK672.out 0; have hfz68_1 := blk_frozen BK672.out 1; have hfz68_2 := blk_frozen BK672.out 2))
             have n0_ : Aside0 ((((w65.setCell ⟨gb672, 0, none⟩ (.int .i64 t668)).setCell ⟨gb672, 1, none⟩ (.int .i64 t669)).setCell ⟨gb672, 2, none⟩ (.int .i64 t670)).heap[gb649]? = some (.cells #[.int .i64 t646, .int .i64 t647, .int .i64 t648] 30 (0, 0))) := ⟨by (with_reducible repeat (first | refine blk_drewN ?_ _ | refine blk_drew ?_ | refine blk_alloc ?_ _)); refine blk_far ?_ NB649_672.out _; (with_reducible repeat (first | refine blk_drewN ?_ _ | refine blk_drew ?_ | refine blk_alloc ?_ _)); refine blk_far ?_ NB649_672.out _; (with_reducible repeat (first | refine blk_drewN ?_ _ | refine blk_drew ?_ | refine blk_alloc ?_ _)); refine blk_far ?_ NB649_672.out _; (with_reducible repeat (first | refine blk_drewN ?_ _ | refine blk_drew ?_ | refine blk_alloc ?_ _)); exact BK649.out⟩
             have n1_ : Aside0 ((((w65.setCell ⟨gb672, 0, none⟩ (.int .i64 t668)).setCell ⟨gb672, 1, none⟩ (.int .i64 t669)).setCell ⟨gb672, 2, none⟩ (.int .i64 t670)).heap[gb667]? = some (.cells #[.int .i64 t663, .int .i64 t664, .int .i64 t665] 30 (0, 0))) := ⟨by (with_reducible repeat (first | refine blk_drewN ?_ _ | refine blk_drew ?_ | refine blk_alloc ?_ _)); refine blk_far ?_ NB667_672.out _; (with_reducible repeat (first | refine blk_drewN ?_ _ | refine blk_drew ?_ | refine blk_alloc ?_ _)); refine blk_far ?_ NB667_672.out _; (with_reducible repeat (first | refine blk_drewN ?_ _ | refine blk_drew ?_ | refine blk_alloc ?_ _)); refine blk_far ?_ NB667_672.out _; (with_reducible repeat (first | refine blk_drewN ?_ _ | refine blk_drew ?_ | refine blk_alloc ?_ _)); exact BK667.out⟩
             have n2_ : Aside0 ((((w65.setCell ⟨gb672, 0, none⟩ (.int .i64 t668)).setCell ⟨gb672, 1, none⟩ (.int .i64 t669)).setCell ⟨gb672, 2, none⟩ (.int .i64 t670)).heap[gb672]? = some (.cells #[.int .i64 t668, .int .i64 t669, .int .i64 t670] 30 (0, 0))) := ⟨by (with_reducible repeat (first | refine blk_drewN ?_ _ | refine blk_drew ?_ | refine blk_alloc ?_ _)); refine blk_put (cs := #[.int .i64 t668, .int .i64 t669, .int .i64 0]) ?_ 2 _ rfl; (with_reducible repeat (first | refine blk_drewN ?_ _ | refine blk_drew ?_ | refine blk_alloc ?_ _)); refine blk_put (cs := #[.int .i64 t668, .int .i64 0, .int .i64 0]) ?_ 1 _ rfl; (with_reducible repeat (first | refine blk_drewN ?_ _ | refine blk_drew ?_ | refine blk_alloc ?_ _)); refine blk_put (cs := #[.int .i64 0, .int .i64 0, .int .i64 0]) ?_ 0 _ rfl; (with_reducible repeat (first | refine blk_drewN ?_ _ | refine blk_drew ?_ | refine blk_alloc ?_ _)); exact BK672.out⟩
             have n3_ : Aside0 (Below w.heap.size w (((w65.setCell ⟨gb672, 0, none⟩ (.int .i64 t668)).setCell ⟨gb672, 1, none⟩ (.int .i64 t669)).setCell ⟨gb672, 2, none⟩ (.int .i64 t670))) := ⟨hb_⟩
             (try clear BK649)
             (try clear BK667)
             (try clear BK672)
             (try clear HB)
             generalize (((w65.setCell ⟨gb672, 0, none⟩ (.int .i64 t668)).setCell ⟨gb672, 1, none⟩ (.int .i64 t669)).setCell ⟨gb672, 2, none⟩ (.int .i64 t670)) = w69 at n0_ n1_ n2_ n3_ ⊢
             have BK649 := n0_
             have BK667 := n1_
             have BK672 := n2_
             have HB := n3_
             clear n0_ n1_ n2_ n3_
             have n0_ := Aside0.mk (blk_drew BK649.out)
             have n1_ := Aside0.mk (blk_drew BK667.out)
             have n2_ := Aside0.mk (blk_drew BK672.out)
             have n3_ := Aside0.mk (below_drew1 HB.out)
             clear BK649
             clear BK667
             clear BK672
             clear HB
             have BK649 := n0_
             have BK667 := n1_
             have BK672 := n2_
             have HB := n3_
             clear n0_ n1_ n2_ n3_
             refine start_ (n := 40) (S := fun w' => w'.cell? ⟨gb649, 0, none⟩ = some (.int .i64 t646) ∧ w'.cell? ⟨gb649, 1, none⟩ = some (.int .i64 t647) ∧ w'.cell? ⟨gb649, 2, none⟩ = some (.int .i64 t648) ∧ w'.cell? ⟨gb672, 0, none⟩ = some (.int .i64 t668) ∧ w'.cell? ⟨gb672, 1, none⟩ = some (.int .i64 t669) ∧ w'.cell? ⟨gb672, 2, none⟩ = some (.int .i64 t670) ∧ w'.cell? ⟨gb667, 0, none⟩ = some (.int .i64 t663) ∧ w'.cell? ⟨gb667, 1, none⟩ = some (.int .i64 t664) ∧ w'.cell? ⟨gb667, 2, none⟩ = some (.int .i64 t665)) (ds := []) #[false, false, false, false, false, false, false, false, false, false, false, false, false, false, false, false, false, false, false, false, false, false, false, false, false, false, false, false, false, false, false, false, false, false, false, false, false, false, false, false] (by kernel_rfl) rfl rfl ⟨(blk_cell BK649.out 0).trans rfl, (blk_cell BK649.out 1).trans rfl, (blk_cell BK649.out 2).trans rfl, (blk_cell BK672.out 0).trans rfl, (blk_cell BK672.out 1).trans rfl, (blk_cell BK672.out 2).trans rfl, (blk_cell BK667.out 0).trans rfl, (blk_cell BK667.out 1).trans rfl, (blk_cell BK667.out 2).trans rfl⟩ (fun hHeld => ?_); refine with_tabW laws_FnMazes.tab21 laws_FnMazes.bits21 (fun HT_ HW_ => ?_)
             generalize w69.drew = w70 at BK649 BK667 BK672 HB hHeld ⊢
             refine pure_ (i := 0) (N := some 90) (v := ?_) (a' := ?_) #[true, false, false, false, false, false, false, false, false, false, false, false, false, false, false, false, false, false, false, false, false, false, false, false, false, false, false, false, false, false, false, false, false, false, false, false, false, false, false, false] rfl rfl (any_of HT_.out (by kernel_rfl)) (fun _ _ _ h => h) (Or.inl ⟨by rfl, ?_⟩) ?_ ?_
             rotate_left
             ·intro w'
              go_simp
              with_reducible rfl
             rotate_left
             ·simp only [Act.put, List.setIfInBounds_toArray, List.set_cons_zero, List.set_cons_succ, i64_w, i32_w]
              rfl
             refine take_ (i := 1) (N := some 91) (v := ?_) (a' := ?_) #[true, true, false, false, false, false, false, false, false, false, false, false, false, false, false, false, false, false, false, false, false, false, false, false, false, false, false, false, false, false, false, false, false, false, false, false, false, false, false, false] rfl rfl (take_ofW HT_.out HW_.out (by kernel_rfl)) (fun _ _ _ h => h) (Or.inl ⟨by rfl, ?_⟩) hHeld ?_ ?_
             rotate_left
             ·rintro w' ⟨s0, s1, s2, s3, s4, s5, s6, s7, s8⟩
              go_simp
              with_reducible rfl
             rotate_left
             ·simp only [Act.put, List.setIfInBounds_toArray, List.set_cons_zero, List.set_cons_succ, i64_w, i32_w]
              rfl
             refine one_ (i := 2) (N := some 92) #[true, true, true, false, false, false, false, false, false, false, false, false, false, false, false, false, false, false, false, false, false, false, false, false, false, false, false, false, false, false, false, false, false, false, false, false, false, false, false, false] rfl rfl (one_of HT_.out (by kernel_rfl)) (by decide) (fun K hK => ?_)
             refine goes_ Try.func44 (by kernel_rfl) rfl #[.agg #[.int .i64 t646, .int .i64 t647, .int .i64 t648]] (by rfl) rfl rfl mp_ ?_
             with_reducible refine (impl_CountPassages.calls t646 t647 t648 t673 _ A40.out).mono ?_
             rintro e w71 ⟨rfl, hb⟩
             refine ⟨_, rfl, ?_⟩
             have n0_ := Aside0.mk (blk_below (g := gb649) (o := .cells #[.int .i64 t646, .int .i64 t647, .int .i64 t648] 30 (0, 0)) (kb_ BK649.out) hb)
             have n1_ := Aside0.mk (blk_below (g := gb667) (o := .cells #[.int .i64 t663, .int .i64 t664, .int .i64 t665] 30 (0, 0)) (kb_ BK667.out) hb)
             have n2_ := Aside0.mk (blk_below (g := gb672) (o := .cells #[.int .i64 t668, .int .i64 t669, .int .i64 t670] 30 (0, 0)) (kb_ BK672.out) hb)
             have n3_ := Aside0.mk (below_step hb_ hb)
             clear BK649
             clear BK667
             clear BK672
             clear HB
             have BK649 := n0_
             have BK667 := n1_
             have BK672 := n2_
             have HB := n3_
             clear n0_ n1_ n2_ n3_
             (try clear hb)
             (try clear hb2)
             (try clear hk)
             (try clear hi)
             refine hK.out _ _ ⟨(blk_cell BK649.out 0).trans rfl, (blk_cell BK649.out 1).trans rfl, (blk_cell BK649.out 2).trans rfl, (blk_cell BK672.out 0).trans rfl, (blk_cell BK672.out 1).trans rfl, (blk_cell BK672.out 2).trans rfl, (blk_cell BK667.out 0).trans rfl, (blk_cell BK667.out 1).trans rfl, (blk_cell BK667.out 2).trans rfl⟩ (fun hHeld => ?_)
             clear hK K
             refine norm_ (a' := ?_) ?_ ?_
             rotate_left
             ·show Act.put _ (some 92) _ = _
              simp only [Act.put, List.setIfInBounds_toArray, List.set_cons_zero, List.set_cons_succ, i64_w, i32_w]
              rfl
             refine pure_ (i := 3) (N := some 93) (v := ?_) (a' := ?_) #[true, true, true, true, false, false, false, false, false, false, false, false, false, false, false, false, false, false, false, false, false, false, false, false, false, false, false, false, false, false, false, false, false, false, false, false, false, false, false, false] rfl rfl (any_of HT_.out (by kernel_rfl)) (fun _ _ _ h => h) (Or.inl ⟨by rfl, ?_⟩) ?_ ?_
             rotate_left
             ·intro w'
              go_simp
              with_reducible rfl
             rotate_left
             ·simp only [Act.put, List.setIfInBounds_toArray, List.set_cons_zero, List.set_cons_succ, i64_w, i32_w]
              rfl
             refine pure_ (i := 4) (N := some 94) (v := ?_) (a' := ?_) #[true, true, true, true, true, false, false, false, false, false, false, false, false, false, false, false, false, false, false, false, false, false, false, false, false, false, false, false, false, false, false, false, false, false, false, false, false, false, false, false] rfl rfl (any_of HT_.out (by kernel_rfl)) (fun _ _ _ h => h) (Or.inl ⟨by rfl, ?_⟩) ?_ ?_
             rotate_left
             ·intro w'
              go_simp
              with_reducible rfl
             rotate_left
             ·simp only [Act.put, List.setIfInBounds_toArray, List.set_cons_zero, List.set_cons_succ, i64_w, i32_w]
              rfl
             refine pure_ (i := 5) (N := some 95) (v := ?_) (a' := ?_) #[true, true, true, true, true, true, false, false, false, false, false, false, false, false, false, false, false, false, false, false, false, false, false, false, false, false, false, false, false, false, false, false, false, false, false, false, false, false, false, false] rfl rfl (any_of HT_.out (by kernel_rfl)) (fun _ _ _ h => h) (Or.inl ⟨by rfl, ?_⟩) ?_ ?_
             rotate_left
             ·intro w'
              go_simp
              with_reducible rfl
             rotate_left
             ·simp only [Act.put, List.setIfInBounds_toArray, List.set_cons_zero, List.set_cons_succ, i64_w, i32_w]
              rfl
             refine pure_ (i := 6) (N := some 96) (v := ?_) (a' := ?_) #[true, true, true, true, true, true, true, false, false, false, false, false, false, false, false, false, false, false, false, false, false, false, false, false, false, false, false, false, false, false, false, false, false, false, false, false, false, false, false, false] rfl rfl (any_of HT_.out (by kernel_rfl)) (fun _ _ _ h => h) (Or.inl ⟨by rfl, ?_⟩) ?_ ?_
             rotate_left
             ·intro w'
              go_simp
              with_reducible rfl
             rotate_left
             ·simp only [Act.put, List.setIfInBounds_toArray, List.set_cons_zero, List.set_cons_succ, i64_w, i32_w]
              rfl
             refine pure_ (i := 7) (N := some 97) (v := ?_) (a' := ?_) #[true, true, true, true, true, true, true, true, false, false, false, false, false, false, false, false, false, false, false, false, false, false, false, false, false, false, false, false, false, false, false, false, false, false, false, false, false, false, false, false] rfl rfl (any_of HT_.out (by kernel_rfl)) (fun _ _ _ h => h) (Or.inl ⟨by rfl, ?_⟩) ?_ ?_
             rotate_left
             ·intro w'
              go_simp
              with_reducible rfl
             rotate_left
             ·simp only [Act.put, List.setIfInBounds_toArray, List.set_cons_zero, List.set_cons_succ, i64_w, i32_w]
              rfl
             refine pure_ (i := 8) (N := some 98) (v := ?_) (a' := ?_) #[true, true, true, true, true, true, true, true, true, false, false, false, false, false, false, false, false, false, false, false, false, false, false, false, false, false, false, false, false, false, false, false, false, false, false, false, false, false, false, false] rfl rfl (any_of HT_.out (by kernel_rfl)) (fun _ _ _ h => h) (Or.inl ⟨by rfl, ?_⟩) ?_ ?_
             rotate_left
             ·intro w'
              go_simp
              with_reducible rfl
             rotate_left
             ·simp only [Act.put, List.setIfInBounds_toArray, List.set_cons_zero, List.set_cons_succ, i64_w, i32_w]
              rfl
             refine pure_ (i := 9) (N := some 99) (v := ?_) (a' := ?_) #[true, true, true, true, true, true, true, true, true, true, false, false, false, false, false, false, false, false, false, false, false, false, false, false, false, false, false, false, false, false, false, false, false, false, false, false, false, false, false, false] rfl rfl (any_of HT_.out (by kernel_rfl)) (fun _ _ _ h => h) (Or.inl ⟨by rfl, ?_⟩) ?_ ?_
             rotate_left
             ·intro w'
              go_simp
              with_reducible rfl
             rotate_left
             ·simp only [Act.put, List.setIfInBounds_toArray, List.set_cons_zero, List.set_cons_succ, i64_w, i32_w]
              rfl
             refine pure_ (i := 10) (N := some 100) (v := ?_) (a' := ?_) #[true, true, true, true, true, true, true, true, true, true, true, false, false, false, false, false, false, false, false, false, false, false, false, false, false, false, false, false, false, false, false, false, false, false, false, false, false, false, false, false] rfl rfl (any_of HT_.out (by kernel_rfl)) (fun _ _ _ h => h) (Or.inl ⟨by rfl, ?_⟩) ?_ ?_
             rotate_left
             ·intro w'
              go_simp
              with_reducible rfl
             rotate_left
             ·simp only [Act.put, List.setIfInBounds_toArray, List.set_cons_zero, List.set_cons_succ, i64_w, i32_w]
              rfl
             refine pure_ (i := 11) (N := some 101) (v := ?_) (a' := ?_) #[true, true, true, true, true, true, true, true, true, true, true, true, false, false, false, false, false, false, false, false, false, false, false, false, false, false, false, false, false, false, false, false, false, false, false, false, false, false, false, false] rfl rfl (any_of HT_.out (by kernel_rfl)) (fun _ _ _ h => h) (Or.inl ⟨by rfl, ?_⟩) ?_ ?_
             rotate_left
             ·intro w'
              go_simp
              with_reducible rfl
             rotate_left
             ·simp only [Act.put, List.setIfInBounds_toArray, List.set_cons_zero, List.set_cons_succ, i64_w, i32_w]
              rfl
             refine take_ (i := 12) (N := some 102) (v := ?_) (a' := ?_) #[true, true, true, true, true, true, true, true, true, true, true, true, true, false, false, false, false, false, false, false, false, false, false, false, false, false, false, false, false, false, false, false, false, false, false, false, false, false, false, false] rfl rfl (take_ofW HT_.out HW_.out (by kernel_rfl)) (fun _ _ _ h => h) (Or.inl ⟨by rfl, ?_⟩) hHeld ?_ ?_
             rotate_left
             ·rintro w' ⟨s0, s1, s2, s3, s4, s5, s6, s7, s8⟩
              go_simp
              with_reducible rfl
             rotate_left
             ·simp only [Act.put, List.setIfInBounds_toArray, List.set_cons_zero, List.set_cons_succ, i64_w, i32_w]
              rfl
             refine take_ (i := 13) (N := some 103) (v := ?_) (a' := ?_) #[true, true, true, true, true, true, true, true, true, true, true, true, true, true, false, false, false, false, false, false, false, false, false, false, false, false, false, false, false, false, false, false, false, false, false, false, false, false, false, false] rfl rfl (take_ofW HT_.out HW_.out (by kernel_rfl)) (fun _ _ _ h => h) (Or.inl ⟨by rfl, ?_⟩) hHeld ?_ ?_
             rotate_left
             ·rintro w' ⟨s0, s1, s2, s3, s4, s5, s6, s7, s8⟩
              go_simp
              with_reducible rfl
             rotate_left
             ·simp only [Act.put, List.setIfInBounds_toArray, List.set_cons_zero, List.set_cons_succ, i64_w, i32_w]
              rfl
             refine pure_ (i := 14) (N := some 104) (v := ?_) (a' := ?_) #[true, true, true, true, true, true, true, true, true, true, true, true, true, true, true, false, false, false, false, false, false, false, false, false, false, false, false, false, false, false, false, false, false, false, false, false, false, false, false, false] rfl rfl (any_of HT_.out (by kernel_rfl)) (fun _ _ _ h => h) (Or.inl ⟨by rfl, ?_⟩) ?_ ?_
             rotate_left
             ·intro w'
              go_simp
              with_reducible rfl
             rotate_left
             ·simp only [Act.put, List.setIfInBounds_toArray, List.set_cons_zero, List.set_cons_succ, i64_w, i32_w]
              rfl
             refine pure_ (i := 15) (N := some 105) (v := ?_) (a' := ?_) #[true, true, true, true, true, true, true, true, true, true, true, true, true, true, true, true, false, false, false, false, false, false, false, false, false, false, false, false, false, false, false, false, false, false, false, false, false, false, false, false] rfl rfl (any_of HT_.out (by kernel_rfl)) (fun _ _ _ h => h) (Or.inl ⟨by rfl, ?_⟩) ?_ ?_
             rotate_left
             ·intro w'
              go_simp
              with_reducible rfl
             rotate_left
             ·simp only [Act.put, List.setIfInBounds_toArray, List.set_cons_zero, List.set_cons_succ, i64_w, i32_w]
              rfl
             refine pure_ (i := 16) (N := some 106) (v := ?_) (a' := ?_) #[true, true, true, true, true, true, true, true, true, true, true, true, true, true, true, true, true, false, false, false, false, false, false, false, false, false, false, false, false, false, false, false, false, false, false, false, false, false, false, false] rfl rfl (any_of HT_.out (by kernel_rfl)) (fun _ _ _ h => h) (Or.inl ⟨by rfl, ?_⟩) ?_ ?_
             rotate_left
             ·intro w'
              go_simp
              with_reducible rfl
             rotate_left
             ·simp only [Act.put, List.setIfInBounds_toArray, List.set_cons_zero, List.set_cons_succ, i64_w, i32_w]
              rfl
             refine take_ (i := 17) (N := some 107) (v := ?_) (a' := ?_) #[true, true, true, true, true, true, true, true, true, true, true, true, true, true, true, true, true, true, false, false, false, false, false, false, false, false, false, false, false, false, false, false, false, false, false, false, false, false, false, false] rfl rfl (take_ofW HT_.out HW_.out (by kernel_rfl)) (fun _ _ _ h => h) (Or.inl ⟨by rfl, ?_⟩) hHeld ?_ ?_
             rotate_left
             ·rintro w' ⟨s0, s1, s2, s3, s4, s5, s6, s7, s8⟩
              go_simp
              with_reducible rfl
             rotate_left
             ·simp only [Act.put, List.setIfInBounds_toArray, List.set_cons_zero, List.set_cons_succ, i64_w, i32_w]
              rfl
             refine take_ (i := 18) (N := some 108) (v := ?_) (a' := ?_) #[true, true, true, true, true, true, true, true, true, true, true, true, true, true, true, true, true, true, true, false, false, false, false, false, false, false, false, false, false, false, false, false, false, false, false, false, false, false, false, false] rfl rfl (take_ofW HT_.out HW_.out (by kernel_rfl)) (fun _ _ _ h => h) (Or.inl ⟨by rfl, ?_⟩) hHeld ?_ ?_
             rotate_left
             ·rintro w' ⟨s0, s1, s2, s3, s4, s5, s6, s7, s8⟩
              go_simp
              with_reducible rfl
             rotate_left
             ·simp only [Act.put, List.setIfInBounds_toArray, List.set_cons_zero, List.set_cons_succ, i64_w, i32_w]
              rfl
             refine pure_ (i := 19) (N := some 109) (v := ?_) (a' := ?_) #[true, true, true, true, true, true, true, true, true, true, true, true, true, true, true, true, true, true, true, true, false, false, false, false, false, false, false, false, false, false, false, false, false, false, false, false, false, false, false, false] rfl rfl (any_of HT_.out (by kernel_rfl)) (fun _ _ _ h => h) (Or.inl ⟨by rfl, ?_⟩) ?_ ?_
             rotate_left
             ·intro w'
              go_simp
              with_reducible rfl
             rotate_left
             ·simp only [Act.put, List.setIfInBounds_toArray, List.set_cons_zero, List.set_cons_succ, i64_w, i32_w]
              rfl
             refine pure_ (i := 20) (N := some 110) (v := ?_) (a' := ?_) #[true, true, true, true, true, true, true, true, true, true, true, true, true, true, true, true, true, true, true, true, true, false, false, false, false, false, false, false, false, false, false, false, false, false, false, false, false, false, false, false] rfl rfl (any_of HT_.out (by kernel_rfl)) (fun _ _ _ h => h) (Or.inl ⟨by rfl, ?_⟩) ?_ ?_
             rotate_left
             ·intro w'
              go_simp
              with_reducible rfl
             rotate_left
             ·simp only [Act.put, List.setIfInBounds_toArray, List.set_cons_zero, List.set_cons_succ, i64_w, i32_w]
              rfl
             refine pure_ (i := 21) (N := some 111) (v := ?_) (a' := ?_) #[true, true, true, true, true, true, true, true, true, true, true, true, true, true, true, true, true, true, true, true, true, true, false, false, false, false, false, false, false, false, false, false, false, false, false, false, false, false, false, false] rfl rfl (any_of HT_.out (by kernel_rfl)) (fun _ _ _ h => h) (Or.inl ⟨by rfl, ?_⟩) ?_ ?_
             rotate_left
             ·intro w'
              go_simp
              with_reducible rfl
             rotate_left
             ·simp only [Act.put, List.setIfInBounds_toArray, List.set_cons_zero, List.set_cons_succ, i64_w, i32_w]
              rfl
             refine pure_ (i := 23) (N := some 113) (v := ?_) (a' := ?_) #[true, true, true, true, true, true, true, true, true, true, true, true, true, true, true, true, true, true, true, true, true, true, false, true, false, false, false, false, false, false, false, false, false, false, false, false, false, false, false, false] rfl rfl (any_of HT_.out (by kernel_rfl)) (fun _ _ _ h => h) (Or.inl ⟨by rfl, ?_⟩) ?_ ?_
             rotate_left
             ·intro w'
              go_simp
              with_reducible rfl
             rotate_left
             ·simp only [Act.put, List.setIfInBounds_toArray, List.set_cons_zero, List.set_cons_succ, i64_w, i32_w]
              rfl
             refine pure_ (i := 25) (N := some 115) (v := ?_) (a' := ?_) #[true, true, true, true, true, true, true, true, true, true, true, true, true, true, true, true, true, true, true, true, true, true, false, true, false, true, false, false, false, false, false, false, false, false, false, false, false, false, false, false] rfl rfl (any_of HT_.out (by kernel_rfl)) (fun _ _ _ h => h) (Or.inl ⟨by rfl, ?_⟩) ?_ ?_
             rotate_left
             ·intro w'
              go_simp
              with_reducible rfl
             rotate_left
             ·simp only [Act.put, List.setIfInBounds_toArray, List.set_cons_zero, List.set_cons_succ, i64_w, i32_w]
              rfl
             refine pure_ (i := 26) (N := some 116) (v := ?_) (a' := ?_) #[true, true, true, true, true, true, true, true, true, true, true, true, true, true, true, true, true, true, true, true, true, true, false, true, false, true, true, false, false, false, false, false, false, false, false, false, false, false, false, false] rfl rfl (any_of HT_.out (by kernel_rfl)) (fun _ _ _ h => h) (Or.inl ⟨by rfl, ?_⟩) ?_ ?_
             rotate_left
             ·intro w'
              go_simp
              with_reducible rfl
             rotate_left
             ·simp only [Act.put, List.setIfInBounds_toArray, List.set_cons_zero, List.set_cons_succ, i64_w, i32_w]
              rfl
             refine take_ (i := 22) (N := some 112) (v := ?_) (a' := ?_) #[true, true, true, true, true, true, true, true, true, true, true, true, true, true, true, true, true, true, true, true, true, true, true, true, false, true, true, false, false, false, false, false, false, false, false, false, false, false, false, false] rfl rfl (take_ofW HT_.out HW_.out (by kernel_rfl)) (fun _ _ _ h => h) (Or.inl ⟨by rfl, ?_⟩) hHeld ?_ ?_
             rotate_left
             ·rintro w' ⟨s0, s1, s2, s3, s4, s5, s6, s7, s8⟩
              go_simp
              with_reducible rfl
             rotate_left
             ·simp only [Act.put, List.setIfInBounds_toArray, List.set_cons_zero, List.set_cons_succ, i64_w, i32_w]
              rfl
             refine one_ (i := 24) (N := some 114) #[true, true, true, true, true, true, true, true, true, true, true, true, true, true, true, true, true, true, true, true, true, true, true, true, true, true, true, false, false, false, false, false, false, false, false, false, false, false, false, false] rfl rfl (one_of HT_.out (by kernel_rfl)) (by decide) (fun K hK => ?_)
             refine goes_ Try.func46 (by kernel_rfl) rfl #[.agg #[.int .i64 t663, .int .i64 t664, .int .i64 t665], .int .i64 (Int.tmod t660 t661)] (by rfl) rfl rfl mp_ ?_
             with_reducible refine (impl_IsPassage.calls t663 t664 t665 (Int.tmod t660 t661) t674 _ A46.out).mono ?_
             rintro e w72 ⟨rfl, hb⟩
             refine ⟨_, rfl, ?_⟩
             have n0_ := Aside0.mk (blk_below (g := gb649) (o := .cells #[.int .i64 t646, .int .i64 t647, .int .i64 t648] 30 (0, 0)) (kb_ BK649.out) hb)
             have n1_ := Aside0.mk (blk_below (g := gb667) (o := .cells #[.int .i64 t663, .int .i64 t664, .int .i64 t665] 30 (0, 0)) (kb_ BK667.out) hb)
             have n2_ := Aside0.mk (blk_below (g := gb672) (o := .cells #[.int .i64 t668, .int .i64 t669, .int .i64 t670] 30 (0, 0)) (kb_ BK672.out) hb)
             have n3_ := Aside0.mk (below_step hb_ hb)
             clear BK649
             clear BK667
             clear BK672
             clear HB
             have BK649 := n0_
             have BK667 := n1_
             have BK672 := n2_
             have HB := n3_
             clear n0_ n1_ n2_ n3_
             (try clear hb)
             (try clear hb2)
             (try clear hk)
             (try clear hi)
             refine hK.out _ _ ⟨(blk_cell BK649.out 0).trans rfl, (blk_cell BK649.out 1).trans rfl, (blk_cell BK649.out 2).trans rfl, (blk_cell BK672.out 0).trans rfl, (blk_cell BK672.out 1).trans rfl, (blk_cell BK672.out 2).trans rfl, (blk_cell BK667.out 0).trans rfl, (blk_cell BK667.out 1).trans rfl, (blk_cell BK667.out 2).trans rfl⟩ (fun hHeld => ?_)
             clear hK K
             refine norm_ (a' := ?_) ?_ ?_
             rotate_left
             ·show Act.put _ (some 114) _ = _
              simp only [Act.put, List.setIfInBounds_toArray, List.set_cons_zero, List.set_cons_succ, i64_w, i32_w]
              rfl
             refine pure_ (i := 27) (N := some 117) (v := ?_) (a' := ?_) #[true, true, true, true, true, true, true, true, true, true, true, true, true, true, true, true, true, true, true, true, true, true, true, true, true, true, true, true, false, false, false, false, false, false, false, false, false, false, false, false] rfl rfl (any_of HT_.out (by kernel_rfl)) (fun _ _ _ h => h) (Or.inl ⟨by rfl, ?_⟩) ?_ ?_
             rotate_left
             ·intro w'
              go_simp
              with_reducible rfl
             rotate_left
             ·simp only [Act.put, List.setIfInBounds_toArray, List.set_cons_zero, List.set_cons_succ, i64_w, i32_w]
              rfl
             refine pure_ (i := 28) (N := some 118) (v := ?_) (a' := ?_) #[true, true, true, true, true, true, true, true, true, true, true, true, true, true, true, true, true, true, true, true, true, true, true, true, true, true, true, true, true, false, false, false, false, false, false, false, false, false, false, false] rfl rfl (any_of HT_.out (by kernel_rfl)) (fun _ _ _ h => h) (Or.inl ⟨by rfl, ?_⟩) ?_ ?_
             rotate_left
             ·intro w'
              go_simp
              with_reducible rfl
             rotate_left
             ·simp only [Act.put, List.setIfInBounds_toArray, List.set_cons_zero, List.set_cons_succ, i64_w, i32_w]
              rfl
             refine pure_ (i := 29) (N := some 119) (v := ?_) (a' := ?_) #[true, true, true, true, true, true, true, true, true, true, true, true, true, true, true, true, true, true, true, true, true, true, true, true, true, true, true, true, true, true, false, false, false, false, false, false, false, false, false, false] rfl rfl (any_of HT_.out (by kernel_rfl)) (fun _ _ _ h => h) (Or.inl ⟨by rfl, ?_⟩) ?_ ?_
             rotate_left
             ·intro w'
              go_simp
              with_reducible rfl
             rotate_left
             ·simp only [Act.put, List.setIfInBounds_toArray, List.set_cons_zero, List.set_cons_succ, i64_w, i32_w]
              rfl
             refine pure_ (i := 30) (N := some 120) (v := ?_) (a' := ?_) #[true, true, true, true, true, true, true, true, true, true, true, true, true, true, true, true, true, true, true, true, true, true, true, true, true, true, true, true, true, true, true, false, false, false, false, false, false, false, false, false] rfl rfl (any_of HT_.out (by kernel_rfl)) (fun _ _ _ h => h) (Or.inl ⟨by rfl, ?_⟩) ?_ ?_
             rotate_left
             ·intro w'
              go_simp
              with_reducible rfl
             rotate_left
             ·simp only [Act.put, List.setIfInBounds_toArray, List.set_cons_zero, List.set_cons_succ, i64_w, i32_w]
              rfl
             refine pure_ (i := 34) (N := some 124) (v := ?_) (a' := ?_) #[true, true, true, true, true, true, true, true, true, true, true, true, true, true, true, true, true, true, true, true, true, true, true, true, true, true, true, true, true, true, true, false, false, false, true, false, false, false, false, false] rfl rfl (any_of HT_.out (by kernel_rfl)) (fun _ _ _ h => h) (Or.inl ⟨by rfl, ?_⟩) ?_ ?_
             rotate_left
             ·intro w'
              go_simp
              with_reducible rfl
             rotate_left
             ·simp only [Act.put, List.setIfInBounds_toArray, List.set_cons_zero, List.set_cons_succ, i64_w, i32_w]
              rfl
             refine take_ (i := 31) (N := some 121) (v := ?_) (a' := ?_) #[true, true, true, true, true, true, true, true, true, true, true, true, true, true, true, true, true, true, true, true, true, true, true, true, true, true, true, true, true, true, true, true, false, false, true, false, false, false, false, false] rfl rfl (take_ofW HT_.out HW_.out (by kernel_rfl)) (fun _ _ _ h => h) (Or.inl ⟨by rfl, ?_⟩) hHeld ?_ ?_
             rotate_left
             ·rintro w' ⟨s0, s1, s2, s3, s4, s5, s6, s7, s8⟩
              go_simp
              with_reducible rfl
             rotate_left
             ·simp only [Act.put, List.setIfInBounds_toArray, List.set_cons_zero, List.set_cons_succ, i64_w, i32_w]
              rfl
             refine take_ (i := 35) (N := some 125) (v := ?_) (a' := ?_) #[true, true, true, true, true, true, true, true, true, true, true, true, true, true, true, true, true, true, true, true, true, true, true, true, true, true, true, true, true, true, true, true, false, false, true, true, false, false, false, false] rfl rfl (take_ofW HT_.out HW_.out (by kernel_rfl)) (fun _ _ _ h => h) (Or.inl ⟨by rfl, ?_⟩) hHeld ?_ ?_
             rotate_left
             ·rintro w' ⟨s0, s1, s2, s3, s4, s5, s6, s7, s8⟩
              go_simp
              with_reducible rfl
             rotate_left
             ·simp only [Act.put, List.setIfInBounds_toArray, List.set_cons_zero, List.set_cons_succ, i64_w, i32_w]
              rfl
             refine one_ (i := 32) (N := some 122) #[true, true, true, true, true, true, true, true, true, true, true, true, true, true, true, true, true, true, true, true, true, true, true, true, true, true, true, true, true, true, true, true, true, false, true, true, false, false, false, false] rfl rfl (one_of HT_.out (by kernel_rfl)) (by decide) (fun K hK => ?_)
             refine goes_ Try.func48 (by kernel_rfl) rfl #[.agg #[.int .i64 t646, .int .i64 t647]] (by rfl) rfl rfl mp_ ?_
             with_reducible refine (impl_FullMaze.calls t646 t647 t675 t676 t677 _ A48.out).mono ?_
             rintro e w73 ⟨rfl, hb⟩
             refine ⟨_, rfl, ?_⟩
             have n0_ := Aside0.mk (blk_below (g := gb649) (o := .cells #[.int .i64 t646, .int .i64 t647, .int .i64 t648] 30 (0, 0)) (kb_ BK649.out) hb)
             have n1_ := Aside0.mk (blk_below (g := gb667) (o := .cells #[.int .i64 t663, .int .i64 t664, .int .i64 t665] 30 (0, 0)) (kb_ BK667.out) hb)
             have n2_ := Aside0.mk (blk_below (g := gb672) (o := .cells #[.int .i64 t668, .int .i64 t669, .int .i64 t670] 30 (0, 0)) (kb_ BK672.out) hb)
             have n3_ := Aside0.mk (below_step hb_ hb)
             clear BK649
             clear BK667
             clear BK672
             clear HB
             have BK649 := n0_
             have BK667 := n1_
             have BK672 := n2_
             have HB := n3_
             clear n0_ n1_ n2_ n3_
             (try clear hb)
             (try clear hb2)
             (try clear hk)
             (try clear hi)
             refine hK.out _ _ ⟨(blk_cell BK649.out 0).trans rfl, (blk_cell BK649.out 1).trans rfl, (blk_cell BK649.out 2).trans rfl, (blk_cell BK672.out 0).trans rfl, (blk_cell BK672.out 1).trans rfl, (blk_cell BK672.out 2).trans rfl, (blk_cell BK667.out 0).trans rfl, (blk_cell BK667.out 1).trans rfl, (blk_cell BK667.out 2).trans rfl⟩ (fun hHeld => ?_)
             clear hK K
             refine norm_ (a' := ?_) ?_ ?_
             rotate_left
             ·show Act.put _ (some 122) _ = _
              simp only [Act.put, List.setIfInBounds_toArray, List.set_cons_zero, List.set_cons_succ, i64_w, i32_w]
              rfl
             refine one_ (i := 33) (N := some 123) #[true, true, true, true, true, true, true, true, true, true, true, true, true, true, true, true, true, true, true, true, true, true, true, true, true, true, true, true, true, true, true, true, true, true, true, true, false, false, false, false] rfl rfl (one_of HT_.out (by kernel_rfl)) (by decide) (fun K hK => ?_)
             refine goes_ Try.func44 (by kernel_rfl) rfl #[.agg #[.int .i64 t675, .int .i64 t676, .int .i64 t677]] (by rfl) rfl rfl mp_ ?_
             with_reducible refine (impl_CountPassages.calls t675 t676 t677 t678 _ A49.out).mono ?_
             rintro e w74 ⟨rfl, hb⟩
             refine ⟨_, rfl, ?_⟩
             have n0_ := Aside0.mk (blk_below (g := gb649) (o := .cells #[.int .i64 t646, .int .i64 t647, .int .i64 t648] 30 (0, 0)) (kb_ BK649.out) hb)
             have n1_ := Aside0.mk (blk_below (g := gb667) (o := .cells #[.int .i64 t663, .int .i64 t664, .int .i64 t665] 30 (0, 0)) (kb_ BK667.out) hb)
             have n2_ := Aside0.mk (blk_below (g := gb672) (o := .cells #[.int .i64 t668, .int .i64 t669, .int .i64 t670] 30 (0, 0)) (kb_ BK672.out) hb)
             have n3_ := Aside0.mk (below_step hb_ hb)
             clear BK649
             clear BK667
             clear BK672
             clear HB
             have BK649 := n0_
             have BK667 := n1_
             have BK672 := n2_
             have HB := n3_
             clear n0_ n1_ n2_ n3_
             (try clear hb)
             (try clear hb2)
             (try clear hk)
             (try clear hi)
             refine hK.out _ _ ⟨(blk_cell BK649.out 0).trans rfl, (blk_cell BK649.out 1).trans rfl, (blk_cell BK649.out 2).trans rfl, (blk_cell BK672.out 0).trans rfl, (blk_cell BK672.out 1).trans rfl, (blk_cell BK672.out 2).trans rfl, (blk_cell BK667.out 0).trans rfl, (blk_cell BK667.out 1).trans rfl, (blk_cell BK667.out 2).trans rfl⟩ (fun hHeld => ?_)
             clear hK K
             refine norm_ (a' := ?_) ?_ ?_
             rotate_left
             ·show Act.put _ (some 123) _ = _
              simp only [Act.put, List.setIfInBounds_toArray, List.set_cons_zero, List.set_cons_succ, i64_w, i32_w]
              rfl
             refine one_ (i := 36) (N := some 126) #[true, true, true, true, true, true, true, true, true, true, true, true, true, true, true, true, true, true, true, true, true, true, true, true, true, true, true, true, true, true, true, true, true, true, true, true, true, false, false, false] rfl rfl (one_of HT_.out (by kernel_rfl)) (by decide) (fun K hK => ?_)
             refine goes_ Try.func49 (by kernel_rfl) rfl #[.agg #[.int .i64 t646, .int .i64 t647]] (by rfl) rfl rfl mp_ ?_
             with_reducible refine (impl_CountGaps.calls t646 t647 t679 _ A50.out).mono ?_
             rintro e w75 ⟨rfl, hb⟩
             refine ⟨_, rfl, ?_⟩
             have n0_ := Aside0.mk (blk_below (g := gb649) (o := .cells #[.int .i64 t646, .int .i64 t647, .int .i64 t648] 30 (0, 0)) (kb_ BK649.out) hb)
             have n1_ := Aside0.mk (blk_below (g := gb667) (o := .cells #[.int .i64 t663, .int .i64 t664, .int .i64 t665] 30 (0, 0)) (kb_ BK667.out) hb)
             have n2_ := Aside0.mk (blk_below (g := gb672) (o := .cells #[.int .i64 t668, .int .i64 t669, .int .i64 t670] 30 (0, 0)) (kb_ BK672.out) hb)
             have n3_ := Aside0.mk (below_step hb_ hb)
             clear BK649
             clear BK667
             clear BK672
             clear HB
             have BK649 := n0_
             have BK667 := n1_
             have BK672 := n2_
             have HB := n3_
             clear n0_ n1_ n2_ n3_
             (try clear hb)
             (try clear hb2)
             (try clear hk)
             (try clear hi)
             refine hK.out _ _ ⟨(blk_cell BK649.out 0).trans rfl, (blk_cell BK649.out 1).trans rfl, (blk_cell BK649.out 2).trans rfl, (blk_cell BK672.out 0).trans rfl, (blk_cell BK672.out 1).trans rfl, (blk_cell BK672.out 2).trans rfl, (blk_cell BK667.out 0).trans rfl, (blk_cell BK667.out 1).trans rfl, (blk_cell BK667.out 2).trans rfl⟩ (fun hHeld => ?_)
             clear hK K
             refine norm_ (a' := ?_) ?_ ?_
             rotate_left
             ·show Act.put _ (some 126) _ = _
              simp only [Act.put, List.setIfInBounds_toArray, List.set_cons_zero, List.set_cons_succ, i64_w, i32_w]
              rfl
             refine pure_ (i := 37) (N := some 127) (v := ?_) (a' := ?_) #[true, true, true, true, true, true, true, true, true, true, true, true, true, true, true, true, true, true, true, true, true, true, true, true, true, true, true, true, true, true, true, true, true, true, true, true, true, true, false, false] rfl rfl (any_of HT_.out (by kernel_rfl)) (fun _ _ _ h => h) (Or.inl ⟨by rfl, ?_⟩) ?_ ?_
             rotate_left
             ·intro w'
              go_simp
              with_reducible rfl
             rotate_left
             ·simp only [Act.put, List.setIfInBounds_toArray, List.set_cons_zero, List.set_cons_succ, i64_w, i32_w]
              rfl
             refine pure_ (i := 38) (N := some 128) (v := ?_) (a' := ?_) #[true, true, true, true, true, true, true, true, true, true, true, true, true, true, true, true, true, true, true, true, true, true, true, true, true, true, true, true, true, true, true, true, true, true, true, true, true, true, true, false] rfl rfl (any_of HT_.out (by kernel_rfl)) (fun _ _ _ h => h) (Or.inl ⟨by rfl, ?_⟩) ?_ ?_
             rotate_left
             ·intro w'
              go_simp
              with_reducible rfl
             rotate_left
             ·simp only [Act.put, List.setIfInBounds_toArray, List.set_cons_zero, List.set_cons_succ, i64_w, i32_w]
              rfl
             refine pure_ (i := 39) (N := some 2) (v := ?_) (a' := ?_) #[true, true, true, true, true, true, true, true, true, true, true, true, true, true, true, true, true, true, true, true, true, true, true, true, true, true, true, true, true, true, true, true, true, true, true, true, true, true, true, true] rfl rfl (any_of HT_.out (by kernel_rfl)) (fun _ _ _ h => h) (Or.inl ⟨by rfl, ?_⟩) ?_ ?_
             rotate_left
             ·intro w'
              go_simp
              with_reducible rfl
             rotate_left
             ·simp only [Act.put, List.setIfInBounds_toArray, List.set_cons_zero, List.set_cons_succ, i64_w, i32_w]
              rfl
             refine done_ (done_of HT_.out (by kernel_rfl)) ?_
             try go_wp2
             go_ret
             exact ⟨by first | rfl | (simp [errW_none, errW_some] <;> rfl) | (simp only [EA35.out]; first | rfl | (simp [errW_none, errW_some] <;> rfl)) | (simp [*, errW_none, errW_some] <;> rfl), hb_⟩
            ·rw [if_neg c47] at H
             have c47b0 : (t674 == (!t662)) = false := by simpa using c47
             (try (have c47b1 : decide (t674 = (!t662)) = false := by simpa using c47))
             (try (have c47b2 : (t674 == (!t662)) = false := by simpa using c47))
             (try (have c47b3 : ¬ (t674 = (!t662)) := by simpa using c47))
             clear c47
             exact absurd ((Option.some.inj H).trans HT_.out) (by decide)
           ·rw [if_neg c45] at H
            have c45b0 : ((!(t663 == t646) || (!(t664 == t647))) || (!(t665 == t648))) = false := by simpa using c45
            clear c45
            exact absurd ((Option.some.inj H).trans HT_.out) (by decide)
          ·rw [if_neg c44] at H
           have c44b0 : ((t668 == t646 && (t669 == t647)) && (t670 == t648)) = false := by simpa using c44
           clear c44
           exact absurd ((Option.some.inj H).trans HT_.out) (by decide)
         ·replace c43 := Bool.eq_false_iff.mpr c43
          subst c43
          have H1 : (some false) = some r := by rw [if_neg (show ¬ (false = true) by decide)] at H; exact H
          clear H
          have H := H1
          clear H1
          exact absurd ((Option.some.inj H).trans HT_.out) (by decide)
        ·replace c42 := Bool.eq_false_iff.mpr c42
         subst c42
         have H1 : (some false) = some r := by rw [if_neg (show ¬ (false = true) by decide)] at H; exact H
         clear H
         have H := H1
         clear H1
         exact absurd ((Option.some.inj H).trans HT_.out) (by decide)
       ·rw [if_neg c41] at H
        have c41b0 : (x4_1 == (wrap64 (2 * t673))) = false := beq_eq_false_iff_ne.mpr c41
        have c41b1 : (x4_1 != (wrap64 (2 * t673))) = true := bne_iff_ne.mpr c41
        exact absurd ((Option.some.inj H).trans HT_.out) (by decide)

/-- THE ONE PURE STATEMENT of laws_FnMazes: yours. -/
def laws_FnMazes.Pure : Prop := ∀ (l0 : List Int), l0.length ≤ maxLen → l0.length * 1 ≤ 140737488351232 → (∀ x ∈ l0, (Lit.int .u8 x).wf = true) → ∃ k, laws_FnMazes.f k l0 = some true
theorem laws_FnMazes.walk (P : laws_FnMazes.Pure) (a0 : Option Addr) (len0 cap0 : Nat) (z0 : List Int) (w : World) (w0 : (a0 = none ∧ len0 = 0 ∧ cap0 = 0 ∧ z0 = []) ∨ ∃ x, a0 = some x ∧ len0 ≤ cap0 ∧ cap0 ≤ maxLen ∧ z0.length = cap0 ∧ (∀ i, i < z0.length → w.cell? (x.add i) = some (.int .u8 (z0.getD i 0))) ∧ ∀ n ∈ z0, (Lit.int .u8 n).wf = true) (y0 : len0 * 1 ≤ 140737488351232) :
  Calls Try.prog 11 #[.slice a0 len0 cap0] w fun e w' => e = .returned (.bool true) ∧ Below w.heap.size w w' := by
 obtain ⟨l0, rfl, hr0, hm0, hw0, hc0⟩ := ReadsInt.ofRowC w0
 obtain ⟨k, h⟩ := P l0 hm0 y0 hw0
 refine (laws_FnMazes.calls k _ _ l0 true w (Kd.C_of_reads (d := (0 : Int)) (h1 := fun _ => rfl) hr0) hc0 ⟨rfl⟩ h).mono ?_
 rintro e w' ⟨rfl, hd⟩
 exact ⟨rfl, hd⟩

end Go.Proofs.Ytpaecckpdaiogaa.Q
