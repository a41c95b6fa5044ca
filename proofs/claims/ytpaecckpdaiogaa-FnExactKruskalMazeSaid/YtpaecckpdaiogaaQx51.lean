/- Plain Lean functions of Go functions, and for each the proof that its call comes to just that answer. Conditions: in each theorem's statement. -/
import Derived.Test.YtpaecckpdaiogaaQx0
import Derived.Test.YtpaecckpdaiogaaQx2
import Derived.Test.YtpaecckpdaiogaaQx30
import Derived.Test.YtpaecckpdaiogaaQx39
import Derived.Test.YtpaecckpdaiogaaQx50
namespace Go.Proofs.Ytpaecckpdaiogaa.Q
open Go.RowKit Go.Proofs.YtpaecckpdaiogaaW.PrintWords Go.Proofs.YtpaecckpdaiogaaW.PrintLast
attribute [local go_sem] max2_int min2_int max_two min_two   -- for this text's walks alone
set_option linter.unusedVariables false
set_option linter.unusedSimpArgs false

/-! ### spec_KruskalMaze: function 35 -/
mutual
def spec_KruskalMaze.l0 : Nat → List Int → Int → Int → Int → Int → Int → Int → Option (Int × Int × Int × Bool)
 | 0, _, _, _, _, _, _, _ => none
 | k + 1, x1, x7, x490000, x490001, x492000, x492001, x492002 => if x7 < (x1.length : Int) then (if 0 ≤ x7 then ((spec_CountGaps.f x490000 x490001).bind fun t493 => ((spec_l01In.f (rd x1 x7) 0 (wrap64 (t493 - 1))).bind fun t494 => (if t494 = true then (if (x1.length : Int) > 100 then (some (0, 0, 0, false)) else (spec_KruskalMaze.l0 k x1 (wrap64 (x7 + 1)) x490000 x490001 x492000 x492001 x492002)) else (some (0, 0, 0, false))))) else (none)) else ((spec_GridOk.f x490000 x490001).bind fun t495 => (if t495 = true then (spec_KruskalMaze.l1 k x1 0 x492000 x492001 x492002) else (some (0, 0, 0, false))))
def spec_KruskalMaze.l1 : Nat → List Int → Int → Int → Int → Int → Option (Int × Int × Int × Bool)
 | 0, _, _, _, _, _ => none
 | k + 1, x1, x8, x492000, x492001, x492002 => if x8 < (x1.length : Int) then (if 0 ≤ x8 then ((spec_WouldJoin.f k x492000 x492001 x492002 (rd x1 x8)).bind fun t498 => (if t498 = true then ((spec_SetGap.f k x492000 x492001 x492002 (rd x1 x8) true).bind fun bt500 => (spec_KruskalMaze.l1 k x1 (wrap64 (x8 + 1)) bt500.1 bt500.2.1 bt500.2.2.1)) else (spec_KruskalMaze.l1 k x1 (wrap64 (x8 + 1)) x492000 x492001 x492002))) else (none)) else ((spec_IsPerfect.f k x492000 x492001 x492002).bind fun t496 => (some (x492000, x492001, x492002, t496)))
end
def spec_KruskalMaze.f (k : Nat) (a0_0 : Int) (a0_1 : Int) (l1 : List Int) : Option (Int × Int × Int × Bool) := spec_KruskalMaze.l0 k l1 0 a0_0 a0_1 a0_0 a0_1 0
theorem spec_KruskalMaze.mono_l : ∀ k, (∀ y0 y1 y2 y3 y4 y5 y6, LeO (spec_KruskalMaze.l0 k y0 y1 y2 y3 y4 y5 y6) (spec_KruskalMaze.l0 (k + 1) y0 y1 y2 y3 y4 y5 y6)) ∧ (∀ y0 y1 y2 y3 y4, LeO (spec_KruskalMaze.l1 k y0 y1 y2 y3 y4) (spec_KruskalMaze.l1 (k + 1) y0 y1 y2 y3 y4))
 | 0 => ⟨fun _ _ _ _ _ _ _ r h => by simp [spec_KruskalMaze.l0] at h, fun _ _ _ _ _ r h => by simp [spec_KruskalMaze.l1] at h⟩
 | k + 1 => by
  obtain ⟨ih0, ih1⟩ := spec_KruskalMaze.mono_l k
  refine ⟨?_, ?_⟩
  ·intro y0 y1 y2 y3 y4 y5 y6
   unfold spec_KruskalMaze.l0
   repeat' first
   | (with_reducible exact ih0 _ _ _ _ _ _ _)
   | (with_reducible exact ih1 _ _ _ _ _)
   | (with_reducible exact spec_IsPerfect.mono _ _ _ _)
   | (with_reducible exact spec_SetGap.mono _ _ _ _ _ _)
   | (with_reducible exact spec_WouldJoin.mono _ _ _ _ _)
   | (with_reducible exact LeO.refl _)
   | (with_reducible exact LeO.none _)
   | (with_reducible refine LeO.ite ?_ ?_)
   | (with_reducible refine LeO.bind ?_ (fun _ => ?_))
   | exact ih0 _ _ _ _ _ _ _
   | exact ih1 _ _ _ _ _
   | exact spec_IsPerfect.mono _ _ _ _
   | exact spec_SetGap.mono _ _ _ _ _ _
   | exact spec_WouldJoin.mono _ _ _ _ _
   | exact LeO.none _
   | refine LeO.ite ?_ ?_
   | refine LeO.bind ?_ (fun _ => ?_)
  ·intro y0 y1 y2 y3 y4
   unfold spec_KruskalMaze.l1
   repeat' first
   | (with_reducible exact ih0 _ _ _ _ _ _ _)
   | (with_reducible exact ih1 _ _ _ _ _)
   | (with_reducible exact spec_IsPerfect.mono _ _ _ _)
   | (with_reducible exact spec_SetGap.mono _ _ _ _ _ _)
   | (with_reducible exact spec_WouldJoin.mono _ _ _ _ _)
   | (with_reducible exact LeO.refl _)
   | (with_reducible exact LeO.none _)
   | (with_reducible refine LeO.ite ?_ ?_)
   | (with_reducible refine LeO.bind ?_ (fun _ => ?_))
   | exact ih0 _ _ _ _ _ _ _
   | exact ih1 _ _ _ _ _
   | exact spec_IsPerfect.mono _ _ _ _
   | exact spec_SetGap.mono _ _ _ _ _ _
   | exact spec_WouldJoin.mono _ _ _ _ _
   | exact LeO.none _
   | refine LeO.ite ?_ ?_
   | refine LeO.bind ?_ (fun _ => ?_)
theorem spec_KruskalMaze.mono : ∀ a0 a1 a2 k, LeO (spec_KruskalMaze.f k a0 a1 a2) (spec_KruskalMaze.f (k + 1) a0 a1 a2) := by
 intro a0 a1 a2 k
 obtain ⟨ih0, ih1⟩ := spec_KruskalMaze.mono_l k
 unfold spec_KruskalMaze.f
 repeat' first
   | (with_reducible exact ih0 _ _ _ _ _ _ _)
   | (with_reducible exact ih1 _ _ _ _ _)
   | (with_reducible exact spec_IsPerfect.mono _ _ _ _)
   | (with_reducible exact spec_SetGap.mono _ _ _ _ _ _)
   | (with_reducible exact spec_WouldJoin.mono _ _ _ _ _)
   | (with_reducible exact LeO.refl _)
   | (with_reducible exact LeO.none _)
   | (with_reducible refine LeO.ite ?_ ?_)
   | (with_reducible refine LeO.bind ?_ (fun _ => ?_))
   | exact ih0 _ _ _ _ _ _ _
   | exact ih1 _ _ _ _ _
   | exact spec_IsPerfect.mono _ _ _ _
   | exact spec_SetGap.mono _ _ _ _ _ _
   | exact spec_WouldJoin.mono _ _ _ _ _
   | exact LeO.none _
   | refine LeO.ite ?_ ?_
   | refine LeO.bind ?_ (fun _ => ?_)
def spec_KruskalMaze.T5 : Bool × List (List Nat × List Nat) := (true, [([], []), ([], []), ([0, 1], [0, 1]), ([2], [2]), ([], []), ([4], [4]), ([5], [5]), ([3, 6, 5], [3, 6]), ([7], [7]), ([8, 7], [8]), ([9], [9]), ([10, 9], [9, 10]), ([11, 9], [9, 11]), ([9, 12], [9, 12])])
def spec_KruskalMaze.B5 : List Nat := [0, 0, 3, 7, 0, 16, 48, 127, 255, 511, 1023, 2047, 4095, 8191]
theorem spec_KruskalMaze.tab5 : rtab .any (opsOf Try.f35 5) = spec_KruskalMaze.T5 := by kernel_rfl
theorem spec_KruskalMaze.bits5 : waitsOk spec_KruskalMaze.T5.2 spec_KruskalMaze.B5 = true := by kernel_rfl
def spec_KruskalMaze.T13 : Bool × List (List Nat × List Nat) := (true, [([], []), ([], []), ([], []), ([1, 2], [1, 2]), ([3], [3]), ([0, 4], [0, 4]), ([5], [5]), ([6], [6]), ([6], [6]), ([7, 5, 0, 1, 2, 3, 4, 5, 6, 7], [7])])
def spec_KruskalMaze.B13 : List Nat := [0, 0, 0, 6, 14, 31, 63, 127, 127, 255]
theorem spec_KruskalMaze.tab13 : rtab .any (opsOf Try.f35 13) = spec_KruskalMaze.T13 := by kernel_rfl
theorem spec_KruskalMaze.bits13 : waitsOk spec_KruskalMaze.T13.2 spec_KruskalMaze.B13 = true := by kernel_rfl
set_option maxHeartbeats 8000000 in
set_option maxRecDepth 100000 in
theorem spec_KruskalMaze.calls (k : Nat) (a0_0 : Int) (a0_1 : Int) (A1 : Option Addr) (c1 : Nat) (l1 : List Int) (r1 : Int) (r2 : Int) (r3 : Int) (r4 : Bool) (w : World) (hr1 : Kd.C (Kd.int .i64) w A1 l1.length l1) (hc1 : l1.length ≤ c1) (h : spec_KruskalMaze.f k a0_0 a0_1 l1 = some (r1, r2, r3, r4)) :
  Calls Try.prog 35 #[.agg #[.int .i64 a0_0, .int .i64 a0_1], .slice A1 l1.length c1] w fun e w' => e = .returned (.tuple #[.agg #[.int .i64 r1, .int .i64 r2, .int .i64 r3], .bool r4]) ∧ Below w.heap.size w w' := by
 have hu28 := Try.underlying28
 have hu30 := Try.underlying30
 have HR1 := Aside0.mk hr1
 have HC1 := Aside0.mk hc1
 clear hr1 hc1
 have HB := Aside0.mk (Below.refl w.heap.size w)
 have H : (spec_KruskalMaze.l0 k l1 0 a0_0 a0_1 a0_0 a0_1 0) = some (r1, r2, r3, r4) := h
 clear h
 have H' := Aside0.mk H
 clear H
 go_enter Try.func35, Try.ntmps35
 go_wp2_with (first | ((with_reducible refine gate_dst (N := 2) rfl ?_); (try (refine gate_guard (by rfl) ?_; dsimp only)); refine box_event ?hg (N := 2) ?hd (cs := #[.int .i64 a0_0, .int .i64 a0_1]) (t := 28) ?hr ?_; (case hd => rfl); (case hg => rfl); (case hr => first | (go_simp; done) | (go_simp; rfl)); intro gb489 hg w3 hbox hb; have n0_ := Aside0.mk (below_step hb_ hb); have n1_ := Aside0.mk (hbox); have n2_ := Aside0.mk ((by rw [hg]; exact (below_size hb_) : w.heap.size ≤ gb489)); have n3_ := Aside0.mk ((by rw [hg]; exact (below_size hb_) : w.heap.size ≤ gb489)); clear HB; have HB := n0_; have BK489 := n1_; have GW489 := n2_; have GE489 := n3_; clear n0_ n1_ n2_ n3_; clear hb hbox hg) | ((with_reducible refine gate_dst (N := 4) rfl ?_); (try (refine gate_guard (by rfl) ?_; dsimp only)); refine box_event ?hg (N := 4) ?hd (cs := #[.int .i64 0, .int .i64 0, .int .i64 0]) (t := 30) ?hr ?_; (case hd => rfl); (case hg => rfl); (case hr => first | (go_simp; done) | (go_simp; rfl)); intro gb490 hg w4 hbox hb; have n0_ := Aside0.mk (blk_below (g := gb489) (o := .cells #[.int .i64 a0_0, .int .i64 a0_1] 28 (0, 0)) (kb_ BK489.out) hb); have n1_ := Aside0.mk (below_step hb_ hb); have n2_ := Aside0.mk (hbox); have n3_ := Aside0.mk ((by rw [hg]; exact (below_size hb_) : w.heap.size ≤ gb490)); have n4_ := Aside0.mk ((by rw [hg]; exact (below_size hb_) : w.heap.size ≤ gb490)); have n5_ := Aside0.mk ((by rw [hg]; exact Nat.ne_of_lt (blk_lt (g := gb489) (o := .cells #[.int .i64 a0_0, .int .i64 a0_1] 28 (0, 0)) (kb_ BK489.out)) : gb489 ≠ gb490)); have n6_ := Aside0.mk ((by rw [hg]; exact Nat.ne_of_gt (blk_lt (g := gb489) (o := .cells #[.int .i64 a0_0, .int .i64 a0_1] 28 (0, 0)) (kb_ BK489.out)) : gb490 ≠ gb489)); clear BK489; clear HB; have BK489 := n0_; have HB := n1_; have BK490 := n2_; have GW490 := n3_; have GE490 := n4_; have NB489_490 := n5_; have NB490_489 := n6_; clear n0_ n1_ n2_ n3_ n4_ n5_ n6_; clear hb hbox hg; have hnb5 := NB489_490.out; have hnc5 := NB490_489.out; have hcz6_0 := cz_ (.int .i64 a0_0) BK489.out 0; have hcz6_1 := cz_ (.int .i64 a0_1) BK489.out 1; have hfz6_0 := blk_frozen BK489.out 0; have hfz6_1 := blk_frozen BK489.out 1) | ((with_reducible refine gate_dst (N := 6) rfl ?_); (try (refine gate_guard (by rfl) ?_; dsimp only)); refine box_event ?hg (N := 6) ?hd (cs := #[.int .i64 0, .int .i64 0, .int .i64 0]) (t := 30) ?hr ?_; (case hd => rfl); (case hg => rfl); (case hr => first | (go_simp; done) | (go_simp; rfl)); intro gb491 hg w7 hbox hb; have n0_ := Aside0.mk (blk_below (g := gb489) (o := .cells #[.int .i64 a0_0, .int .i64 a0_1] 28 (0, 0)) (kb_ BK489.out) hb); have n1_ := Aside0.mk (blk_below (g := gb490) (o := .cells #[.int .i64 0, .int .i64 0, .int .i64 0] 30 (0, 0)) (kb_ BK490.out) hb); have n2_ := Aside0.mk (below_step hb_ hb); have n3_ := Aside0.mk (hbox); have n4_ := Aside0.mk ((by rw [hg]; exact (below_size hb_) : w.heap.size ≤ gb491)); have n5_ := Aside0.mk ((by rw [hg]; exact (below_size hb_) : w.heap.size ≤ gb491)); have n6_ := Aside0.mk ((by rw [hg]; exact Nat.ne_of_lt (blk_lt (g := gb489) (o := .cells #[.int .i64 a0_0, .int .i64 a0_1] 28 (0, 0)) (kb_ BK489.out)) : gb489 ≠ gb491)); have n7_ := Aside0.mk ((by rw [hg]; exact Nat.ne_of_gt (blk_lt (g := gb489) (o := .cells #[.int .i64 a0_0, .int .i64 a0_1] 28 (0, 0)) (kb_ BK489.out)) : gb491 ≠ gb489)); have n8_ := Aside0.mk ((by rw [hg]; exact Nat.ne_of_lt (blk_lt (g := gb490) (o := .cells #[.int .i64 0, .int .i64 0, .int .i64 0] 30 (0, 0)) (kb_ BK490.out)) : gb490 ≠ gb491)); have n9_ := Aside0.mk ((by rw [hg]; exact Nat.ne_of_gt (blk_lt (g := gb490) (o := .cells #[.int .i64 0, .int .i64 0, .int .i64 0] 30 (0, 0)) (kb_ BK490.out)) : gb491 ≠ gb490)); clear BK489; clear BK490; clear HB; have BK489 := n0_; have BK490 := n1_; have HB := n2_; have BK491 := n3_; have GW491 := n4_; have GE491 := n5_; have NB489_491 := n6_; have NB491_489 := n7_; have NB490_491 := n8_; have NB491_490 := n9_; clear n0_ n1_ n2_ n3_ n4_ n5_ n6_ n7_ n8_ n9_; clear hb hbox hg; have hnb8 := NB491_489.out; have hnc8 := NB489_491.out; have hnb9 := NB491_490.out; have hnc9 := NB490_491.out; have hcz10_0 := cz_ (.int .i64 0) BK491.out 0; have hcz10_1 := cz_ (.int .i64 0) BK491.out 1; have hcz10_2 := cz_ (.int .i64 0) BK491.out 2; have hfz10_0 := blk_frozen BK491.out 0; have hfz10_1 := blk_frozen BK491.out 1; have hfz10_2 := blk_frozen BK491.out 2))
 go_loopg [7] k (fun kq v7 w' => ∃ (x7_1 : Int) (x491000_1 : Int) (x491001_1 : Int) (x491002_1 : Int), v7 = .int .i64 x7_1 ∧ Aside0 (spec_KruskalMaze.l0 kq l1 x7_1 a0_0 a0_1 a0_0 a0_1 0 = some (r1, r2, r3, r4)) ∧ Aside0 (kq ≤ k) ∧ Aside0 (w'.heap[gb489]? = some (.cells #[.int .i64 a0_0, .int .i64 a0_1] 28 (0, 0))) ∧ Aside0 (w'.heap[gb490]? = some (.cells #[.int .i64 x491000_1, .int .i64 x491001_1, .int .i64 x491002_1] 30 (0, 0))) ∧ Aside0 (w'.heap[gb491]? = some (.cells #[.int .i64 a0_0, .int .i64 a0_1, .int .i64 0] 30 (0, 0))) ∧ Aside0 (Below w.heap.size w w'))
 case atStart => exact ⟨(0), (0), (0), (0), (by first | rfl | (simp; done) | (simp [*]; done)), H', ⟨Nat.le_refl _⟩, ⟨by (with_reducible repeat (first | refine blk_drewN ?_ _ | refine blk_drew ?_ | refine blk_alloc ?_ _)); refine blk_far ?_ NB489_491.out _; (with_reducible repeat (first | refine blk_drewN ?_ _ | refine blk_drew ?_ | refine blk_alloc ?_ _)); refine blk_far ?_ NB489_491.out _; (with_reducible repeat (first | refine blk_drewN ?_ _ | refine blk_drew ?_ | refine blk_alloc ?_ _)); refine blk_far ?_ NB489_491.out _; (with_reducible repeat (first | refine blk_drewN ?_ _ | refine blk_drew ?_ | refine blk_alloc ?_ _)); exact BK489.out⟩, ⟨by (with_reducible repeat (first | refine blk_drewN ?_ _ | refine blk_drew ?_ | refine blk_alloc ?_ _)); refine blk_far ?_ NB490_491.out _; (with_reducible repeat (first | refine blk_drewN ?_ _ | refine blk_drew ?_ | refine blk_alloc ?_ _)); refine blk_far ?_ NB490_491.out _; (with_reducible repeat (first | refine blk_drewN ?_ _ | refine blk_drew ?_ | refine blk_alloc ?_ _)); refine blk_far ?_ NB490_491.out _; (with_reducible repeat (first | refine blk_drewN ?_ _ | refine blk_drew ?_ | refine blk_alloc ?_ _)); exact BK490.out⟩, ⟨by (with_reducible repeat (first | refine blk_drewN ?_ _ | refine blk_drew ?_ | refine blk_alloc ?_ _)); refine blk_put (cs := #[.int .i64 a0_0, .int .i64 a0_1, .int .i64 0]) ?_ 2 _ rfl; (with_reducible repeat (first | refine blk_drewN ?_ _ | refine blk_drew ?_ | refine blk_alloc ?_ _)); refine blk_put (cs := #[.int .i64 a0_0, .int .i64 0, .int .i64 0]) ?_ 1 _ rfl; (with_reducible repeat (first | refine blk_drewN ?_ _ | refine blk_drew ?_ | refine blk_alloc ?_ _)); refine blk_put (cs := #[.int .i64 0, .int .i64 0, .int .i64 0]) ?_ 0 _ rfl; (with_reducible repeat (first | refine blk_drewN ?_ _ | refine blk_drew ?_ | refine blk_alloc ?_ _)); exact BK491.out⟩, ⟨hb_⟩⟩
 case round =>
  clear H'
  try clear c1
  try clear p2
  try clear c3
  try clear c5
  try clear c8
  try clear c9
  try clear hcz10_0
  try clear hcz10_1
  try clear hcz10_2
  try clear hcz6_0
  try clear hcz6_1
  try clear hfz10_0
  try clear hfz10_1
  try clear hfz10_2
  try clear hfz6_0
  try clear hfz6_1
  obtain ⟨x7_1, x491000_1, x491001_1, x491002_1, rfl, HA, HK1, BK489, BK490, BK491, HB⟩ := hrel
  cases gk with
  | zero => exact absurd HA.out (by simp [spec_KruskalMaze.l0])
  | succ k1 =>
   have H := HA.out
   clear HA
   simp only [spec_KruskalMaze.l0] at H
   by_cases c11 : x7_1 < (l1.length : Int)
   ·rw [if_pos c11] at H
    have c11b0 : decide (x7_1 < (l1.length : Int)) = true := decide_eq_true c11
    clear c11
    by_cases c12 : 0 ≤ x7_1
    ·rw [if_pos c12] at H
     have c12b0 : decide (0 ≤ x7_1) = true := decide_eq_true c12
     clear c12
     replace H := Option.bind_eq_some_iff.mp H
     obtain ⟨t493, A130, H⟩ := H
     replace H : ((spec_l01In.f (rd l1 x7_1) 0 (wrap64 (t493 - 1))).bind fun t494 => (if t494 = true then (if (l1.length : Int) > 100 then (some (0, 0, 0, false)) else (spec_KruskalMaze.l0 k1 l1 (wrap64 (x7_1 + 1)) a0_0 a0_1 a0_0 a0_1 0)) else (some (0, 0, 0, false)))) = some (r1, r2, r3, r4) := H
     have A13 := Aside0.mk A130
     clear A130
     replace H := Option.bind_eq_some_iff.mp H
     obtain ⟨t494, A140, H⟩ := H
     replace H : (if t494 = true then (if (l1.length : Int) > 100 then (some (0, 0, 0, false)) else (spec_KruskalMaze.l0 k1 l1 (wrap64 (x7_1 + 1)) a0_0 a0_1 a0_0 a0_1 0)) else (some (0, 0, 0, false))) = some (r1, r2, r3, r4) := H
     have A14 := Aside0.mk A140
     clear A140
     by_cases c15 : t494 = true
     ·subst c15
      have H1 : (if (l1.length : Int) > 100 then (some (0, 0, 0, false)) else (spec_KruskalMaze.l0 k1 l1 (wrap64 (x7_1 + 1)) a0_0 a0_1 a0_0 a0_1 0)) = some (r1, r2, r3, r4) := by rw [if_pos rfl] at H; exact H
      clear H
      have H := H1
      clear H1
      by_cases c16 : (l1.length : Int) > 100
      ·rw [if_pos c16] at H
       have c16b0 : decide (100 < (l1.length : Int)) = true := decide_eq_true c16
       have c16b1 : decide (100 < l1.length) = true := decide_eq_true (by omega)
       clear c16
       simp only [Option.some.injEq, Prod.mk.injEq] at H
       obtain ⟨rfl, rfl, rfl, rfl⟩ := H
       try go_wp2
       have n0_ := Aside0.mk (blk_drew BK489.out)
       have n1_ := Aside0.mk (blk_drew BK490.out)
       have n2_ := Aside0.mk (blk_drew BK491.out)
       have n3_ := Aside0.mk (below_drew1 HB.out)
       clear BK489
       clear BK490
       clear BK491
       clear HB
       have BK489 := n0_
       have BK490 := n1_
       have BK491 := n2_
       have HB := n3_
       clear n0_ n1_ n2_ n3_
       have p492 : 0 ≤ (x7_1 : Int) := of_decide_eq_true (by first | (with_reducible assumption) | assumption)
       have q492 : x7_1 < (l1.length : Int) := of_decide_eq_true (by first | (with_reducible assumption) | assumption)
       obtain ⟨ad492, e492, hx492_0⟩ := Kd.at_int HR1.out x7_1 p492 q492
       have hw492_0 := hx492_0
       cases e492
       replace hx492_0 := (HB.out.cell (World.block_lt_of_cell? w _ hx492_0)).trans hx492_0
       replace p492 := eq_true p492
       replace q492 := eq_true q492
       refine start_ (n := 14) (S := fun w' => w'.cell? ⟨gb489, 0, none⟩ = some (.int .i64 a0_0) ∧ w'.cell? ⟨gb489, 1, none⟩ = some (.int .i64 a0_1) ∧ w'.cell? (ad492.add (x7_1).toNat) = some (.int .i64 (rd l1 x7_1))) (ds := []) #[false, false, false, false, false, false, false, false, false, false, false, false, false, false] (by kernel_rfl) rfl rfl ⟨(blk_cell BK489.out 0).trans rfl, (blk_cell BK489.out 1).trans rfl, ((HB.out.cell (World.block_lt_of_cell? w _ hw492_0)).trans hw492_0)⟩ (fun hHeld => ?_); refine with_tabW spec_KruskalMaze.tab5 spec_KruskalMaze.bits5 (fun HT_ HW_ => ?_)
       generalize wr.drew = w17 at BK489 BK490 BK491 HB hx492_0 hHeld ⊢
       refine pure_ (i := 0) (N := some 17) (v := ?_) (a' := ?_) #[true, false, false, false, false, false, false, false, false, false, false, false, false, false] rfl rfl (any_of HT_.out (by kernel_rfl)) (fun _ _ _ h => h) (Or.inl ⟨by rfl, ?_⟩) ?_ ?_
       rotate_left
       ·intro w'
        go_simp
        with_reducible rfl
       rotate_left
       ·simp only [Act.put, List.setIfInBounds_toArray, List.set_cons_zero, List.set_cons_succ, i64_w, i32_w]
        rfl
       refine pure_ (i := 1) (N := some 18) (v := ?_) (a' := ?_) #[true, true, false, false, false, false, false, false, false, false, false, false, false, false] rfl rfl (any_of HT_.out (by kernel_rfl)) (fun _ _ _ h => h) (Or.inl ⟨by rfl, ?_⟩) ?_ ?_
       rotate_left
       ·intro w'
        go_simp
        with_reducible rfl
       rotate_left
       ·simp only [Act.put, List.setIfInBounds_toArray, List.set_cons_zero, List.set_cons_succ, i64_w, i32_w]
        rfl
       refine pure_ (i := 2) (N := some 19) (v := ?_) (a' := ?_) #[true, true, true, false, false, false, false, false, false, false, false, false, false, false] rfl rfl (any_of HT_.out (by kernel_rfl)) (fun _ _ _ h => h) (Or.inl ⟨by rfl, ?_⟩) ?_ ?_
       rotate_left
       ·intro w'
        go_simp
        with_reducible rfl
       rotate_left
       ·simp only [Act.put, List.setIfInBounds_toArray, List.set_cons_zero, List.set_cons_succ, i64_w, i32_w]
        rfl
       refine take_ (i := 3) (N := some 20) (v := ?_) (a' := ?_) #[true, true, true, true, false, false, false, false, false, false, false, false, false, false] rfl rfl (take_ofW HT_.out HW_.out (by kernel_rfl)) (fun _ _ _ h => h) (Or.inl ⟨by rfl, ?_⟩) hHeld ?_ ?_
       rotate_left
       ·rintro w' ⟨s0, s1, s2⟩
        go_simp
        with_reducible rfl
       rotate_left
       ·simp only [Act.put, List.setIfInBounds_toArray, List.set_cons_zero, List.set_cons_succ, i64_w, i32_w]
        rfl
       refine take_ (i := 4) (N := some 21) (v := ?_) (a' := ?_) #[true, true, true, true, true, false, false, false, false, false, false, false, false, false] rfl rfl (take_ofW HT_.out HW_.out (by kernel_rfl)) (fun _ _ _ h => h) (Or.inl ⟨by rfl, ?_⟩) hHeld ?_ ?_
       rotate_left
       ·rintro w' ⟨s0, s1, s2⟩
        go_simp
        with_reducible rfl
       rotate_left
       ·simp only [Act.put, List.setIfInBounds_toArray, List.set_cons_zero, List.set_cons_succ, i64_w, i32_w]
        rfl
       refine one_ (i := 5) (N := some 22) #[true, true, true, true, true, true, false, false, false, false, false, false, false, false] rfl rfl (one_of HT_.out (by kernel_rfl)) (by decide) (fun K hK => ?_)
       refine goes_ Try.func43 (by kernel_rfl) rfl #[.agg #[.int .i64 a0_0, .int .i64 a0_1]] (by rfl) rfl rfl mp_ ?_
       with_reducible refine (spec_CountGaps.calls a0_0 a0_1 t493 _ A13.out).mono ?_
       rintro e w18 ⟨rfl, hb⟩
       refine ⟨_, rfl, ?_⟩
       have n0_ := Aside0.mk (blk_below (g := gb489) (o := .cells #[.int .i64 a0_0, .int .i64 a0_1] 28 (0, 0)) (kb_ BK489.out) hb)
       have n1_ := Aside0.mk (blk_below (g := gb490) (o := .cells #[.int .i64 x491000_1, .int .i64 x491001_1, .int .i64 x491002_1] 30 (0, 0)) (kb_ BK490.out) hb)
       have n2_ := Aside0.mk (blk_below (g := gb491) (o := .cells #[.int .i64 a0_0, .int .i64 a0_1, .int .i64 0] 30 (0, 0)) (kb_ BK491.out) hb)
       have n3_ := Aside0.mk (below_step hb_ hb)
       clear BK489
       clear BK490
       clear BK491
       clear HB
       have BK489 := n0_
       have BK490 := n1_
       have BK491 := n2_
       have HB := n3_
       clear n0_ n1_ n2_ n3_
       (try clear hb)
       (try clear hb2)
       (try clear hk)
       (try clear hi)
       refine hK.out _ _ ⟨(blk_cell BK489.out 0).trans rfl, (blk_cell BK489.out 1).trans rfl, ((HB.out.cell (World.block_lt_of_cell? w _ hw492_0)).trans hw492_0)⟩ (fun hHeld => ?_)
       clear hK K
       refine norm_ (a' := ?_) ?_ ?_
       rotate_left
       ·show Act.put _ (some 22) _ = _
        simp only [Act.put, List.setIfInBounds_toArray, List.set_cons_zero, List.set_cons_succ, i64_w, i32_w]
        rfl
       refine pure_ (i := 6) (N := some 23) (v := ?_) (a' := ?_) #[true, true, true, true, true, true, true, false, false, false, false, false, false, false] rfl rfl (any_of HT_.out (by kernel_rfl)) (fun _ _ _ h => h) (Or.inl ⟨by rfl, ?_⟩) ?_ ?_
       rotate_left
       ·intro w'
        go_simp
        with_reducible rfl
       rotate_left
       ·simp only [Act.put, List.setIfInBounds_toArray, List.set_cons_zero, List.set_cons_succ, i64_w, i32_w]
        rfl
       refine one_ (i := 7) (N := some 24) #[true, true, true, true, true, true, true, true, false, false, false, false, false, false] rfl rfl (one_of HT_.out (by kernel_rfl)) (by decide) (fun K hK => ?_)
       refine goes_ Try.func88 (by kernel_rfl) rfl #[.int .i64 (rd l1 x7_1), .int .i64 0, .int .i64 (wrap64 (t493 - 1))] (by rfl) rfl rfl mp_ ?_
       with_reducible refine (spec_l01In.calls (rd l1 x7_1) 0 (wrap64 (t493 - 1)) true _ A14.out).mono ?_
       rintro e w' ⟨rfl, ⟨nd, rfl⟩⟩
       refine ⟨_, rfl, ?_⟩
       refine hK.out _ _ ⟨(blk_cell BK489.out 0).trans rfl, (blk_cell BK489.out 1).trans rfl, ((HB.out.cell (World.block_lt_of_cell? w _ hw492_0)).trans hw492_0)⟩ (fun hHeld => ?_)
       clear hK K
       refine norm_ (a' := ?_) ?_ ?_
       rotate_left
       ·show Act.put _ (some 24) _ = _
        simp only [Act.put, List.setIfInBounds_toArray, List.set_cons_zero, List.set_cons_succ, i64_w, i32_w]
        rfl
       refine pure_ (i := 8) (N := some 25) (v := ?_) (a' := ?_) #[true, true, true, true, true, true, true, true, true, false, false, false, false, false] rfl rfl (any_of HT_.out (by kernel_rfl)) (fun _ _ _ h => h) (Or.inl ⟨by rfl, ?_⟩) ?_ ?_
       rotate_left
       ·intro w'
        go_simp
        with_reducible rfl
       rotate_left
       ·simp only [Act.put, List.setIfInBounds_toArray, List.set_cons_zero, List.set_cons_succ, i64_w, i32_w]
        rfl
       refine pure_ (i := 9) (N := some 26) (v := ?_) (a' := ?_) #[true, true, true, true, true, true, true, true, true, true, false, false, false, false] rfl rfl (any_of HT_.out (by kernel_rfl)) (fun _ _ _ h => h) (Or.inl ⟨by rfl, ?_⟩) ?_ ?_
       rotate_left
       ·intro w'
        go_simp
        with_reducible rfl
       rotate_left
       ·simp only [Act.put, List.setIfInBounds_toArray, List.set_cons_zero, List.set_cons_succ, i64_w, i32_w]
        rfl
       refine pure_ (i := 10) (N := some 27) (v := ?_) (a' := ?_) #[true, true, true, true, true, true, true, true, true, true, true, false, false, false] rfl rfl (any_of HT_.out (by kernel_rfl)) (fun _ _ _ h => h) (Or.inl ⟨by rfl, ?_⟩) ?_ ?_
       rotate_left
       ·intro w'
        go_simp
        with_reducible rfl
       rotate_left
       ·simp only [Act.put, List.setIfInBounds_toArray, List.set_cons_zero, List.set_cons_succ, i64_w, i32_w]
        rfl
       refine pure_ (i := 11) (N := some 28) (v := ?_) (a' := ?_) #[true, true, true, true, true, true, true, true, true, true, true, true, false, false] rfl rfl (any_of HT_.out (by kernel_rfl)) (fun _ _ _ h => h) (Or.inl ⟨by rfl, ?_⟩) ?_ ?_
       rotate_left
       ·intro w'
        go_simp
        with_reducible rfl
       rotate_left
       ·simp only [Act.put, List.setIfInBounds_toArray, List.set_cons_zero, List.set_cons_succ, i64_w, i32_w]
        rfl
       refine pure_ (i := 12) (N := some 29) (v := ?_) (a' := ?_) #[true, true, true, true, true, true, true, true, true, true, true, true, true, false] rfl rfl (any_of HT_.out (by kernel_rfl)) (fun _ _ _ h => h) (Or.inl ⟨by rfl, ?_⟩) ?_ ?_
       rotate_left
       ·intro w'
        go_simp
        with_reducible rfl
       rotate_left
       ·simp only [Act.put, List.setIfInBounds_toArray, List.set_cons_zero, List.set_cons_succ, i64_w, i32_w]
        rfl
       refine pure_ (i := 13) (N := some 30) (v := ?_) (a' := ?_) #[true, true, true, true, true, true, true, true, true, true, true, true, true, true] rfl rfl (any_of HT_.out (by kernel_rfl)) (fun _ _ _ h => h) (Or.inl ⟨by rfl, ?_⟩) ?_ ?_
       rotate_left
       ·intro w'
        go_simp
        with_reducible rfl
       rotate_left
       ·simp only [Act.put, List.setIfInBounds_toArray, List.set_cons_zero, List.set_cons_succ, i64_w, i32_w]
        rfl
       refine done_ (done_of HT_.out (by kernel_rfl)) ?_
       have hnb19 := NB490_489.out
       have hnc19 := NB489_490.out
       have hnb20 := NB490_491.out
       have hnc20 := NB491_490.out
       have hcz21_0 := cz_ (.int .i64 x491000_1) BK490.out 0
       have hcz21_1 := cz_ (.int .i64 x491001_1) BK490.out 1
       have hcz21_2 := cz_ (.int .i64 x491002_1) BK490.out 2
       have hfz21_0 := blk_frozen BK490.out 0
       have hfz21_1 := blk_frozen BK490.out 1
       have hfz21_2 := blk_frozen BK490.out 2
       try go_wp2
       try (have hq489_0 : _ = some (.int .i64 a0_0) := (blk_cell BK489.out 0).trans rfl; have hqf489_0 := blk_frozen BK489.out 0; have hq489_1 : _ = some (.int .i64 a0_1) := (blk_cell BK489.out 1).trans rfl; have hqf489_1 := blk_frozen BK489.out 1; have hq490_0 : _ = some (.int .i64 0) := (blk_cell BK490.out 0).trans rfl; have hqf490_0 := blk_frozen BK490.out 0; have hq490_1 : _ = some (.int .i64 0) := (blk_cell BK490.out 1).trans rfl; have hqf490_1 := blk_frozen BK490.out 1; have hq490_2 : _ = some (.int .i64 0) := (blk_cell BK490.out 2).trans rfl; have hqf490_2 := blk_frozen BK490.out 2; have hq491_0 : _ = some (.int .i64 a0_0) := (blk_cell BK491.out 0).trans rfl; have hqf491_0 := blk_frozen BK491.out 0; have hq491_1 : _ = some (.int .i64 a0_1) := (blk_cell BK491.out 1).trans rfl; have hqf491_1 := blk_frozen BK491.out 1; have hq491_2 : _ = some (.int .i64 0) := (blk_cell BK491.out 2).trans rfl; have hqf491_2 := blk_frozen BK491.out 2; go_wp2)
       refine bodyPost_ret (results_ct rfl _ _ gb490 30 #[.int .i64 0, .int .i64 0, .int .i64 0] (0, 0) _ rfl (by (with_reducible repeat (first | refine blk_drewN ?_ _ | refine blk_drew ?_ | refine blk_alloc ?_ _)); refine blk_put (cs := #[.int .i64 0, .int .i64 0, .int .i64 x491002_1]) ?_ 2 _ rfl; (with_reducible repeat (first | refine blk_drewN ?_ _ | refine blk_drew ?_ | refine blk_alloc ?_ _)); refine blk_put (cs := #[.int .i64 0, .int .i64 x491001_1, .int .i64 x491002_1]) ?_ 1 _ rfl; (with_reducible repeat (first | refine blk_drewN ?_ _ | refine blk_drew ?_ | refine blk_alloc ?_ _)); refine blk_put (cs := #[.int .i64 x491000_1, .int .i64 x491001_1, .int .i64 x491002_1]) ?_ 0 _ rfl; (with_reducible repeat (first | refine blk_drewN ?_ _ | refine blk_drew ?_ | refine blk_alloc ?_ _)); exact BK490.out) Try.underlying30 rfl (by kernel_rfl)) rfl ?_
       exact ⟨er_, hb_⟩
      ·rw [if_neg c16] at H
       have c16b0 : decide (100 < (l1.length : Int)) = false := decide_eq_false c16
       have c16b1 : decide (100 < l1.length) = false := decide_eq_false (by omega)
       clear c16
       have H' := Aside0.mk H
       clear H
       try go_wp2
       have n0_ := Aside0.mk (blk_drew BK489.out)
       have n1_ := Aside0.mk (blk_drew BK490.out)
       have n2_ := Aside0.mk (blk_drew BK491.out)
       have n3_ := Aside0.mk (below_drew1 HB.out)
       clear BK489
       clear BK490
       clear BK491
       clear HB
       have BK489 := n0_
       have BK490 := n1_
       have BK491 := n2_
       have HB := n3_
       clear n0_ n1_ n2_ n3_
       have p492 : 0 ≤ (x7_1 : Int) := of_decide_eq_true (by first | (with_reducible assumption) | assumption)
       have q492 : x7_1 < (l1.length : Int) := of_decide_eq_true (by first | (with_reducible assumption) | assumption)
       obtain ⟨ad492, e492, hx492_0⟩ := Kd.at_int HR1.out x7_1 p492 q492
       have hw492_0 := hx492_0
       cases e492
       replace hx492_0 := (HB.out.cell (World.block_lt_of_cell? w _ hx492_0)).trans hx492_0
       replace p492 := eq_true p492
       replace q492 := eq_true q492
       refine start_ (n := 14) (S := fun w' => w'.cell? ⟨gb489, 0, none⟩ = some (.int .i64 a0_0) ∧ w'.cell? ⟨gb489, 1, none⟩ = some (.int .i64 a0_1) ∧ w'.cell? (ad492.add (x7_1).toNat) = some (.int .i64 (rd l1 x7_1))) (ds := []) #[false, false, false, false, false, false, false, false, false, false, false, false, false, false] (by kernel_rfl) rfl rfl ⟨(blk_cell BK489.out 0).trans rfl, (blk_cell BK489.out 1).trans rfl, ((HB.out.cell (World.block_lt_of_cell? w _ hw492_0)).trans hw492_0)⟩ (fun hHeld => ?_); refine with_tabW spec_KruskalMaze.tab5 spec_KruskalMaze.bits5 (fun HT_ HW_ => ?_)
       generalize wr.drew = w22 at BK489 BK490 BK491 HB hx492_0 hHeld ⊢
       refine pure_ (i := 0) (N := some 17) (v := ?_) (a' := ?_) #[true, false, false, false, false, false, false, false, false, false, false, false, false, false] rfl rfl (any_of HT_.out (by kernel_rfl)) (fun _ _ _ h => h) (Or.inl ⟨by rfl, ?_⟩) ?_ ?_
       rotate_left
       ·intro w'
        go_simp
        with_reducible rfl
       rotate_left
       ·simp only [Act.put, List.setIfInBounds_toArray, List.set_cons_zero, List.set_cons_succ, i64_w, i32_w]
        rfl
       refine pure_ (i := 1) (N := some 18) (v := ?_) (a' := ?_) #[true, true, false, false, false, false, false, false, false, false, false, false, false, false] rfl rfl (any_of HT_.out (by kernel_rfl)) (fun _ _ _ h => h) (Or.inl ⟨by rfl, ?_⟩) ?_ ?_
       rotate_left
       ·intro w'
        go_simp
        with_reducible rfl
       rotate_left
       ·simp only [Act.put, List.setIfInBounds_toArray, List.set_cons_zero, List.set_cons_succ, i64_w, i32_w]
        rfl
       refine pure_ (i := 2) (N := some 19) (v := ?_) (a' := ?_) #[true, true, true, false, false, false, false, false, false, false, false, false, false, false] rfl rfl (any_of HT_.out (by kernel_rfl)) (fun _ _ _ h => h) (Or.inl ⟨by rfl, ?_⟩) ?_ ?_
       rotate_left
       ·intro w'
        go_simp
        with_reducible rfl
       rotate_left
       ·simp only [Act.put, List.setIfInBounds_toArray, List.set_cons_zero, List.set_cons_succ, i64_w, i32_w]
        rfl
       refine take_ (i := 3) (N := some 20) (v := ?_) (a' := ?_) #[true, true, true, true, false, false, false, false, false, false, false, false, false, false] rfl rfl (take_ofW HT_.out HW_.out (by kernel_rfl)) (fun _ _ _ h => h) (Or.inl ⟨by rfl, ?_⟩) hHeld ?_ ?_
       rotate_left
       ·rintro w' ⟨s0, s1, s2⟩
        go_simp
        with_reducible rfl
       rotate_left
       ·simp only [Act.put, List.setIfInBounds_toArray, List.set_cons_zero, List.set_cons_succ, i64_w, i32_w]
        rfl
       refine take_ (i := 4) (N := some 21) (v := ?_) (a' := ?_) #[true, true, true, true, true, false, false, false, false, false, false, false, false, false] rfl rfl (take_ofW HT_.out HW_.out (by kernel_rfl)) (fun _ _ _ h => h) (Or.inl ⟨by rfl, ?_⟩) hHeld ?_ ?_
       rotate_left
       ·rintro w' ⟨s0, s1, s2⟩
        go_simp
        with_reducible rfl
       rotate_left
       ·simp only [Act.put, List.setIfInBounds_toArray, List.set_cons_zero, List.set_cons_succ, i64_w, i32_w]
        rfl
       refine one_ (i := 5) (N := some 22) #[true, true, true, true, true, true, false, false, false, false, false, false, false, false] rfl rfl (one_of HT_.out (by kernel_rfl)) (by decide) (fun K hK => ?_)
       refine goes_ Try.func43 (by kernel_rfl) rfl #[.agg #[.int .i64 a0_0, .int .i64 a0_1]] (by rfl) rfl rfl mp_ ?_
       with_reducible refine (spec_CountGaps.calls a0_0 a0_1 t493 _ A13.out).mono ?_
       rintro e w23 ⟨rfl, hb⟩
       refine ⟨_, rfl, ?_⟩
       have n0_ := Aside0.mk (blk_below (g := gb489) (o := .cells #[.int .i64 a0_0, .int .i64 a0_1] 28 (0, 0)) (kb_ BK489.out) hb)
       have n1_ := Aside0.mk (blk_below (g := gb490) (o := .cells #[.int .i64 x491000_1, .int .i64 x491001_1, .int .i64 x491002_1] 30 (0, 0)) (kb_ BK490.out) hb)
       have n2_ := Aside0.mk (blk_below (g := gb491) (o := .cells #[.int .i64 a0_0, .int .i64 a0_1, .int .i64 0] 30 (0, 0)) (kb_ BK491.out) hb)
       have n3_ := Aside0.mk (below_step hb_ hb)
       clear BK489
       clear BK490
       clear BK491
       clear HB
       have BK489 := n0_
       have BK490 := n1_
       have BK491 := n2_
       have HB := n3_
       clear n0_ n1_ n2_ n3_
       (try clear hb)
       (try clear hb2)
       (try clear hk)
       (try clear hi)
       refine hK.out _ _ ⟨(blk_cell BK489.out 0).trans rfl, (blk_cell BK489.out 1).trans rfl, ((HB.out.cell (World.block_lt_of_cell? w _ hw492_0)).trans hw492_0)⟩ (fun hHeld => ?_)
       clear hK K
       refine norm_ (a' := ?_) ?_ ?_
       rotate_left
       ·show Act.put _ (some 22) _ = _
        simp only [Act.put, List.setIfInBounds_toArray, List.set_cons_zero, List.set_cons_succ, i64_w, i32_w]
        rfl
       refine pure_ (i := 6) (N := some 23) (v := ?_) (a' := ?_) #[true, true, true, true, true, true, true, false, false, false, false, false, false, false] rfl rfl (any_of HT_.out (by kernel_rfl)) (fun _ _ _ h => h) (Or.inl ⟨by rfl, ?_⟩) ?_ ?_
       rotate_left
       ·intro w'
        go_simp
        with_reducible rfl
       rotate_left
       ·simp only [Act.put, List.setIfInBounds_toArray, List.set_cons_zero, List.set_cons_succ, i64_w, i32_w]
        rfl
       refine one_ (i := 7) (N := some 24) #[true, true, true, true, true, true, true, true, false, false, false, false, false, false] rfl rfl (one_of HT_.out (by kernel_rfl)) (by decide) (fun K hK => ?_)
       refine goes_ Try.func88 (by kernel_rfl) rfl #[.int .i64 (rd l1 x7_1), .int .i64 0, .int .i64 (wrap64 (t493 - 1))] (by rfl) rfl rfl mp_ ?_
       with_reducible refine (spec_l01In.calls (rd l1 x7_1) 0 (wrap64 (t493 - 1)) true _ A14.out).mono ?_
       rintro e w' ⟨rfl, ⟨nd, rfl⟩⟩
       refine ⟨_, rfl, ?_⟩
       refine hK.out _ _ ⟨(blk_cell BK489.out 0).trans rfl, (blk_cell BK489.out 1).trans rfl, ((HB.out.cell (World.block_lt_of_cell? w _ hw492_0)).trans hw492_0)⟩ (fun hHeld => ?_)
       clear hK K
       refine norm_ (a' := ?_) ?_ ?_
       rotate_left
       ·show Act.put _ (some 24) _ = _
        simp only [Act.put, List.setIfInBounds_toArray, List.set_cons_zero, List.set_cons_succ, i64_w, i32_w]
        rfl
       refine pure_ (i := 8) (N := some 25) (v := ?_) (a' := ?_) #[true, true, true, true, true, true, true, true, true, false, false, false, false, false] rfl rfl (any_of HT_.out (by kernel_rfl)) (fun _ _ _ h => h) (Or.inl ⟨by rfl, ?_⟩) ?_ ?_
       rotate_left
       ·intro w'
        go_simp
        with_reducible rfl
       rotate_left
       ·simp only [Act.put, List.setIfInBounds_toArray, List.set_cons_zero, List.set_cons_succ, i64_w, i32_w]
        rfl
       refine pure_ (i := 9) (N := some 26) (v := ?_) (a' := ?_) #[true, true, true, true, true, true, true, true, true, true, false, false, false, false] rfl rfl (any_of HT_.out (by kernel_rfl)) (fun _ _ _ h => h) (Or.inl ⟨by rfl, ?_⟩) ?_ ?_
       rotate_left
       ·intro w'
        go_simp
        with_reducible rfl
       rotate_left
       ·simp only [Act.put, List.setIfInBounds_toArray, List.set_cons_zero, List.set_cons_succ, i64_w, i32_w]
        rfl
       refine pure_ (i := 10) (N := some 27) (v := ?_) (a' := ?_) #[true, true, true, true, true, true, true, true, true, true, true, false, false, false] rfl rfl (any_of HT_.out (by kernel_rfl)) (fun _ _ _ h => h) (Or.inl ⟨by rfl, ?_⟩) ?_ ?_
       rotate_left
       ·intro w'
        go_simp
        with_reducible rfl
       rotate_left
       ·simp only [Act.put, List.setIfInBounds_toArray, List.set_cons_zero, List.set_cons_succ, i64_w, i32_w]
        rfl
       refine pure_ (i := 11) (N := some 28) (v := ?_) (a' := ?_) #[true, true, true, true, true, true, true, true, true, true, true, true, false, false] rfl rfl (any_of HT_.out (by kernel_rfl)) (fun _ _ _ h => h) (Or.inl ⟨by rfl, ?_⟩) ?_ ?_
       rotate_left
       ·intro w'
        go_simp
        with_reducible rfl
       rotate_left
       ·simp only [Act.put, List.setIfInBounds_toArray, List.set_cons_zero, List.set_cons_succ, i64_w, i32_w]
        rfl
       refine pure_ (i := 12) (N := some 29) (v := ?_) (a' := ?_) #[true, true, true, true, true, true, true, true, true, true, true, true, true, false] rfl rfl (any_of HT_.out (by kernel_rfl)) (fun _ _ _ h => h) (Or.inl ⟨by rfl, ?_⟩) ?_ ?_
       rotate_left
       ·intro w'
        go_simp
        with_reducible rfl
       rotate_left
       ·simp only [Act.put, List.setIfInBounds_toArray, List.set_cons_zero, List.set_cons_succ, i64_w, i32_w]
        rfl
       refine pure_ (i := 13) (N := some 30) (v := ?_) (a' := ?_) #[true, true, true, true, true, true, true, true, true, true, true, true, true, true] rfl rfl (any_of HT_.out (by kernel_rfl)) (fun _ _ _ h => h) (Or.inl ⟨by rfl, ?_⟩) ?_ ?_
       rotate_left
       ·intro w'
        go_simp
        with_reducible rfl
       rotate_left
       ·simp only [Act.put, List.setIfInBounds_toArray, List.set_cons_zero, List.set_cons_succ, i64_w, i32_w]
        rfl
       refine done_ (done_of HT_.out (by kernel_rfl)) ?_
       try go_wp2
       go_roundg k1
       case measure => have := HK1.out; omega
       case rel => exact ⟨(wrap64 (x7_1 + 1)), (x491000_1), (x491001_1), (x491002_1), (by first | rfl | (simp; done) | (simp [*]; done)), H', ⟨by have := HK1.out; omega⟩, ⟨kb_ BK489.out⟩, ⟨kb_ BK490.out⟩, ⟨kb_ BK491.out⟩, ⟨hb_⟩⟩
     ·replace c15 := Bool.eq_false_iff.mpr c15
      subst c15
      have H1 : (some (0, 0, 0, false)) = some (r1, r2, r3, r4) := by rw [if_neg (show ¬ (false = true) by decide)] at H; exact H
      clear H
      have H := H1
      clear H1
      simp only [Option.some.injEq, Prod.mk.injEq] at H
      obtain ⟨rfl, rfl, rfl, rfl⟩ := H
      try go_wp2
      have n0_ := Aside0.mk (blk_drew BK489.out)
      have n1_ := Aside0.mk (blk_drew BK490.out)
      have n2_ := Aside0.mk (blk_drew BK491.out)
      have n3_ := Aside0.mk (below_drew1 HB.out)
      clear BK489
      clear BK490
      clear BK491
      clear HB
      have BK489 := n0_
      have BK490 := n1_
      have BK491 := n2_
      have HB := n3_
      clear n0_ n1_ n2_ n3_
      have p492 : 0 ≤ (x7_1 : Int) := of_decide_eq_true (by first | (with_reducible assumption) | assumption)
      have q492 : x7_1 < (l1.length : Int) := of_decide_eq_true (by first | (with_reducible assumption) | assumption)
      obtain ⟨ad492, e492, hx492_0⟩ := Kd.at_int HR1.out x7_1 p492 q492
      have hw492_0 := hx492_0
      cases e492
      replace hx492_0 := (HB.out.cell (World.block_lt_of_cell? w _ hx492_0)).trans hx492_0
      replace p492 := eq_true p492
      replace q492 := eq_true q492
      refine start_ (n := 14) (S := fun w' => w'.cell? ⟨gb489, 0, none⟩ = some (.int .i64 a0_0) ∧ w'.cell? ⟨gb489, 1, none⟩ = some (.int .i64 a0_1) ∧ w'.cell? (ad492.add (x7_1).toNat) = some (.int .i64 (rd l1 x7_1))) (ds := []) #[false, false, false, false, false, false, false, false, false, false, false, false, false, false] (by kernel_rfl) rfl rfl ⟨(blk_cell BK489.out 0).trans rfl, (blk_cell BK489.out 1).trans rfl, ((HB.out.cell (World.block_lt_of_cell? w _ hw492_0)).trans hw492_0)⟩ (fun hHeld => ?_); refine with_tabW spec_KruskalMaze.tab5 spec_KruskalMaze.bits5 (fun HT_ HW_ => ?_)
      generalize wr.drew = w24 at BK489 BK490 BK491 HB hx492_0 hHeld ⊢
      refine pure_ (i := 0) (N := some 17) (v := ?_) (a' := ?_) #[true, false, false, false, false, false, false, false, false, false, false, false, false, false] rfl rfl (any_of HT_.out (by kernel_rfl)) (fun _ _ _ h => h) (Or.inl ⟨by rfl, ?_⟩) ?_ ?_
      rotate_left
      ·intro w'
       go_simp
       with_reducible rfl
      rotate_left
      ·simp only [Act.put, List.setIfInBounds_toArray, List.set_cons_zero, List.set_cons_succ, i64_w, i32_w]
       rfl
      refine pure_ (i := 1) (N := some 18) (v := ?_) (a' := ?_) #[true, true, false, false, false, false, false, false, false, false, false, false, false, false] rfl rfl (any_of HT_.out (by kernel_rfl)) (fun _ _ _ h => h) (Or.inl ⟨by rfl, ?_⟩) ?_ ?_
      rotate_left
      ·intro w'
       go_simp
       with_reducible rfl
      rotate_left
      ·simp only [Act.put, List.setIfInBounds_toArray, List.set_cons_zero, List.set_cons_succ, i64_w, i32_w]
       rfl
      refine pure_ (i := 2) (N := some 19) (v := ?_) (a' := ?_) #[true, true, true, false, false, false, false, false, false, false, false, false, false, false] rfl rfl (any_of HT_.out (by kernel_rfl)) (fun _ _ _ h => h) (Or.inl ⟨by rfl, ?_⟩) ?_ ?_
      rotate_left
      ·intro w'
       go_simp
       with_reducible rfl
      rotate_left
      ·simp only [Act.put, List.setIfInBounds_toArray, List.set_cons_zero, List.set_cons_succ, i64_w, i32_w]
       rfl
      refine take_ (i := 3) (N := some 20) (v := ?_) (a' := ?_) #[true, true, true, true, false, false, false, false, false, false, false, false, false, false] rfl rfl (take_ofW HT_.out HW_.out (by kernel_rfl)) (fun _ _ _ h => h) (Or.inl ⟨by rfl, ?_⟩) hHeld ?_ ?_
      rotate_left
      ·rintro w' ⟨s0, s1, s2⟩
       go_simp
       with_reducible rfl
      rotate_left
      ·simp only [Act.put, List.setIfInBounds_toArray, List.set_cons_zero, List.set_cons_succ, i64_w, i32_w]
       rfl
      refine take_ (i := 4) (N := some 21) (v := ?_) (a' := ?_) #[true, true, true, true, true, false, false, false, false, false, false, false, false, false] rfl rfl (take_ofW HT_.out HW_.out (by kernel_rfl)) (fun _ _ _ h => h) (Or.inl ⟨by rfl, ?_⟩) hHeld ?_ ?_
      rotate_left
      ·rintro w' ⟨s0, s1, s2⟩
       go_simp
       with_reducible rfl
      rotate_left
      ·simp only [Act.put, List.setIfInBounds_toArray, List.set_cons_zero, List.set_cons_succ, i64_w, i32_w]
       rfl
      refine one_ (i := 5) (N := some 22) #[true, true, true, true, true, true, false, false, false, false, false, false, false, false] rfl rfl (one_of HT_.out (by kernel_rfl)) (by decide) (fun K hK => ?_)
      refine goes_ Try.func43 (by kernel_rfl) rfl #[.agg #[.int .i64 a0_0, .int .i64 a0_1]] (by rfl) rfl rfl mp_ ?_
      with_reducible refine (spec_CountGaps.calls a0_0 a0_1 t493 _ A13.out).mono ?_
      rintro e w25 ⟨rfl, hb⟩
      refine ⟨_, rfl, ?_⟩
      have n0_ := Aside0.mk (blk_below (g := gb489) (o := .cells #[.int .i64 a0_0, .int .i64 a0_1] 28 (0, 0)) (kb_ BK489.out) hb)
      have n1_ := Aside0.mk (blk_below (g := gb490) (o := .cells #[.int .i64 x491000_1, .int .i64 x491001_1, .int .i64 x491002_1] 30 (0, 0)) (kb_ BK490.out) hb)
      have n2_ := Aside0.mk (blk_below (g := gb491) (o := .cells #[.int .i64 a0_0, .int .i64 a0_1, .int .i64 0] 30 (0, 0)) (kb_ BK491.out) hb)
      have n3_ := Aside0.mk (below_step hb_ hb)
      clear BK489
      clear BK490
      clear BK491
      clear HB
      have BK489 := n0_
      have BK490 := n1_
      have BK491 := n2_
      have HB := n3_
      clear n0_ n1_ n2_ n3_
      (try clear hb)
      (try clear hb2)
      (try clear hk)
      (try clear hi)
      refine hK.out _ _ ⟨(blk_cell BK489.out 0).trans rfl, (blk_cell BK489.out 1).trans rfl, ((HB.out.cell (World.block_lt_of_cell? w _ hw492_0)).trans hw492_0)⟩ (fun hHeld => ?_)
      clear hK K
      refine norm_ (a' := ?_) ?_ ?_
      rotate_left
      ·show Act.put _ (some 22) _ = _
       simp only [Act.put, List.setIfInBounds_toArray, List.set_cons_zero, List.set_cons_succ, i64_w, i32_w]
       rfl
      refine pure_ (i := 6) (N := some 23) (v := ?_) (a' := ?_) #[true, true, true, true, true, true, true, false, false, false, false, false, false, false] rfl rfl (any_of HT_.out (by kernel_rfl)) (fun _ _ _ h => h) (Or.inl ⟨by rfl, ?_⟩) ?_ ?_
      rotate_left
      ·intro w'
       go_simp
       with_reducible rfl
      rotate_left
      ·simp only [Act.put, List.setIfInBounds_toArray, List.set_cons_zero, List.set_cons_succ, i64_w, i32_w]
       rfl
      refine one_ (i := 7) (N := some 24) #[true, true, true, true, true, true, true, true, false, false, false, false, false, false] rfl rfl (one_of HT_.out (by kernel_rfl)) (by decide) (fun K hK => ?_)
      refine goes_ Try.func88 (by kernel_rfl) rfl #[.int .i64 (rd l1 x7_1), .int .i64 0, .int .i64 (wrap64 (t493 - 1))] (by rfl) rfl rfl mp_ ?_
      with_reducible refine (spec_l01In.calls (rd l1 x7_1) 0 (wrap64 (t493 - 1)) false _ A14.out).mono ?_
      rintro e w' ⟨rfl, ⟨nd, rfl⟩⟩
      refine ⟨_, rfl, ?_⟩
      refine hK.out _ _ ⟨(blk_cell BK489.out 0).trans rfl, (blk_cell BK489.out 1).trans rfl, ((HB.out.cell (World.block_lt_of_cell? w _ hw492_0)).trans hw492_0)⟩ (fun hHeld => ?_)
      clear hK K
      refine norm_ (a' := ?_) ?_ ?_
      rotate_left
      ·show Act.put _ (some 24) _ = _
       simp only [Act.put, List.setIfInBounds_toArray, List.set_cons_zero, List.set_cons_succ, i64_w, i32_w]
       rfl
      refine pure_ (i := 8) (N := some 25) (v := ?_) (a' := ?_) #[true, true, true, true, true, true, true, true, true, false, false, false, false, false] rfl rfl (any_of HT_.out (by kernel_rfl)) (fun _ _ _ h => h) (Or.inl ⟨by rfl, ?_⟩) ?_ ?_
      rotate_left
      ·intro w'
       go_simp
       with_reducible rfl
      rotate_left
      ·simp only [Act.put, List.setIfInBounds_toArray, List.set_cons_zero, List.set_cons_succ, i64_w, i32_w]
       rfl
      refine pure_ (i := 9) (N := some 26) (v := ?_) (a' := ?_) #[true, true, true, true, true, true, true, true, true, true, false, false, false, false] rfl rfl (any_of HT_.out (by kernel_rfl)) (fun _ _ _ h => h) (Or.inl ⟨by rfl, ?_⟩) ?_ ?_
      rotate_left
      ·intro w'
       go_simp
       with_reducible rfl
      rotate_left
      ·simp only [Act.put, List.setIfInBounds_toArray, List.set_cons_zero, List.set_cons_succ, i64_w, i32_w]
       rfl
      refine pure_ (i := 10) (N := some 27) (v := undef) (a' := ?_) #[true, true, true, true, true, true, true, true, true, true, true, false, false, false] rfl rfl (any_of HT_.out (by kernel_rfl)) (fun _ _ _ h => h) (Or.inr ⟨by rfl, rfl⟩) ?_ ?_
      rotate_left
      ·simp only [Act.put, List.setIfInBounds_toArray, List.set_cons_zero, List.set_cons_succ, i64_w, i32_w]
       rfl
      refine pure_ (i := 11) (N := some 28) (v := undef) (a' := ?_) #[true, true, true, true, true, true, true, true, true, true, true, true, false, false] rfl rfl (any_of HT_.out (by kernel_rfl)) (fun _ _ _ h => h) (Or.inr ⟨by rfl, rfl⟩) ?_ ?_
      rotate_left
      ·simp only [Act.put, List.setIfInBounds_toArray, List.set_cons_zero, List.set_cons_succ, i64_w, i32_w]
       rfl
      refine pure_ (i := 12) (N := some 29) (v := undef) (a' := ?_) #[true, true, true, true, true, true, true, true, true, true, true, true, true, false] rfl rfl (any_of HT_.out (by kernel_rfl)) (fun _ _ _ h => h) (Or.inr ⟨by rfl, rfl⟩) ?_ ?_
      rotate_left
      ·simp only [Act.put, List.setIfInBounds_toArray, List.set_cons_zero, List.set_cons_succ, i64_w, i32_w]
       rfl
      refine pure_ (i := 13) (N := some 30) (v := ?_) (a' := ?_) #[true, true, true, true, true, true, true, true, true, true, true, true, true, true] rfl rfl (any_of HT_.out (by kernel_rfl)) (fun _ _ _ h => h) (Or.inl ⟨by rfl, ?_⟩) ?_ ?_
      rotate_left
      ·intro w'
       go_simp
       with_reducible rfl
      rotate_left
      ·simp only [Act.put, List.setIfInBounds_toArray, List.set_cons_zero, List.set_cons_succ, i64_w, i32_w]
       rfl
      refine done_ (done_of HT_.out (by kernel_rfl)) ?_
      have hnb26 := NB490_489.out
      have hnc26 := NB489_490.out
      have hnb27 := NB490_491.out
      have hnc27 := NB491_490.out
      have hcz28_0 := cz_ (.int .i64 x491000_1) BK490.out 0
      have hcz28_1 := cz_ (.int .i64 x491001_1) BK490.out 1
      have hcz28_2 := cz_ (.int .i64 x491002_1) BK490.out 2
      have hfz28_0 := blk_frozen BK490.out 0
      have hfz28_1 := blk_frozen BK490.out 1
      have hfz28_2 := blk_frozen BK490.out 2
      try go_wp2
      try (have hq489_0 : _ = some (.int .i64 a0_0) := (blk_cell BK489.out 0).trans rfl; have hqf489_0 := blk_frozen BK489.out 0; have hq489_1 : _ = some (.int .i64 a0_1) := (blk_cell BK489.out 1).trans rfl; have hqf489_1 := blk_frozen BK489.out 1; have hq490_0 : _ = some (.int .i64 0) := (blk_cell BK490.out 0).trans rfl; have hqf490_0 := blk_frozen BK490.out 0; have hq490_1 : _ = some (.int .i64 0) := (blk_cell BK490.out 1).trans rfl; have hqf490_1 := blk_frozen BK490.out 1; have hq490_2 : _ = some (.int .i64 0) := (blk_cell BK490.out 2).trans rfl; have hqf490_2 := blk_frozen BK490.out 2; have hq491_0 : _ = some (.int .i64 a0_0) := (blk_cell BK491.out 0).trans rfl; have hqf491_0 := blk_frozen BK491.out 0; have hq491_1 : _ = some (.int .i64 a0_1) := (blk_cell BK491.out 1).trans rfl; have hqf491_1 := blk_frozen BK491.out 1; have hq491_2 : _ = some (.int .i64 0) := (blk_cell BK491.out 2).trans rfl; have hqf491_2 := blk_frozen BK491.out 2; go_wp2)
      refine bodyPost_ret (results_ct rfl _ _ gb490 30 #[.int .i64 0, .int .i64 0, .int .i64 0] (0, 0) _ rfl (by (with_reducible repeat (first | refine blk_drewN ?_ _ | refine blk_drew ?_ | refine blk_alloc ?_ _)); refine blk_put (cs := #[.int .i64 0, .int .i64 0, .int .i64 x491002_1]) ?_ 2 _ rfl; (with_reducible repeat (first | refine blk_drewN ?_ _ | refine blk_drew ?_ | refine blk_alloc ?_ _)); refine blk_put (cs := #[.int .i64 0, .int .i64 x491001_1, .int .i64 x491002_1]) ?_ 1 _ rfl; (with_reducible repeat (first | refine blk_drewN ?_ _ | refine blk_drew ?_ | refine blk_alloc ?_ _)); refine blk_put (cs := #[.int .i64 x491000_1, .int .i64 x491001_1, .int .i64 x491002_1]) ?_ 0 _ rfl; (with_reducible repeat (first | refine blk_drewN ?_ _ | refine blk_drew ?_ | refine blk_alloc ?_ _)); exact BK490.out) Try.underlying30 rfl (by kernel_rfl)) rfl ?_
      exact ⟨er_, hb_⟩
    ·rw [if_neg c12] at H
     exact absurd H (by simp)
   ·rw [if_neg c11] at H
    have c11b0 : decide (x7_1 < (l1.length : Int)) = false := decide_eq_false c11
    clear c11
    replace H := Option.bind_eq_some_iff.mp H
    obtain ⟨t495, A290, H⟩ := H
    replace H : (if t495 = true then (spec_KruskalMaze.l1 k1 l1 0 a0_0 a0_1 0) else (some (0, 0, 0, false))) = some (r1, r2, r3, r4) := H
    have A29 := Aside0.mk A290
    clear A290
    by_cases c30 : t495 = true
    ·subst c30
     have H1 : (spec_KruskalMaze.l1 k1 l1 0 a0_0 a0_1 0) = some (r1, r2, r3, r4) := by rw [if_pos rfl] at H; exact H
     clear H
     have H := H1
     clear H1
     have H' := Aside0.mk H
     clear H
     have hnb31 := NB489_490.out
     have hnc31 := NB490_489.out
     have hnb32 := NB489_491.out
     have hnc32 := NB491_489.out
     have hcz33_0 : wr.cell? ⟨gb489, 0, none⟩ = some (.int .i64 a0_0) := (blk_cell BK489.out 0).trans rfl
     have hcz33_1 : wr.cell? ⟨gb489, 1, none⟩ = some (.int .i64 a0_1) := (blk_cell BK489.out 1).trans rfl
     have hfz33_0 := blk_frozen BK489.out 0
     have hfz33_1 := blk_frozen BK489.out 1
     go_wp2_with (first | ((with_reducible refine gate_callee (f := 89) rfl ?_); refine goesL_ (some 33) rfl rfl Try.func89 (by kernel_rfl) rfl #[.agg #[.int .i64 a0_0, .int .i64 a0_1]] rfl mp_ ?_; (with_reducible refine (spec_GridOk.calls a0_0 a0_1 true _ A29.out).mono ?_); rintro e w34 ⟨rfl, hb⟩; refine ⟨_, rfl, ?_⟩; have n0_ := Aside0.mk (blk_below (g := gb489) (o := .cells #[.int .i64 a0_0, .int .i64 a0_1] 28 (0, 0)) (kb_ BK489.out) hb); have n1_ := Aside0.mk (blk_below (g := gb490) (o := .cells #[.int .i64 x491000_1, .int .i64 x491001_1, .int .i64 x491002_1] 30 (0, 0)) (kb_ BK490.out) hb); have n2_ := Aside0.mk (blk_below (g := gb491) (o := .cells #[.int .i64 a0_0, .int .i64 a0_1, .int .i64 0] 30 (0, 0)) (kb_ BK491.out) hb); have n3_ := Aside0.mk (below_step hb_ hb); clear BK489; clear BK490; clear BK491; clear HB; have BK489 := n0_; have BK490 := n1_; have BK491 := n2_; have HB := n3_; clear n0_ n1_ n2_ n3_; (try clear hb); (try clear hb2); (try clear hk); (try clear hi)))
     go_loopg [8] k1 (fun kq v8 w' => ∃ (x8_2 : Int) (x492000_2 : Int) (x492001_2 : Int) (x492002_2 : Int), v8 = .int .i64 x8_2 ∧ Aside0 (spec_KruskalMaze.l1 kq l1 x8_2 x492000_2 x492001_2 x492002_2 = some (r1, r2, r3, r4)) ∧ Aside0 (kq ≤ k1) ∧ Aside0 (w'.heap[gb489]? = some (.cells #[.int .i64 a0_0, .int .i64 a0_1] 28 (0, 0))) ∧ Aside0 (w'.heap[gb490]? = some (.cells #[.int .i64 x491000_1, .int .i64 x491001_1, .int .i64 x491002_1] 30 (0, 0))) ∧ Aside0 (w'.heap[gb491]? = some (.cells #[.int .i64 x492000_2, .int .i64 x492001_2, .int .i64 x492002_2] 30 (0, 0))) ∧ Aside0 (Below w.heap.size w w'))
     case atStart => exact ⟨(0), (a0_0), (a0_1), (0), (by first | rfl | (simp; done) | (simp [*]; done)), H', ⟨Nat.le_refl _⟩, ⟨kb_ BK489.out⟩, ⟨kb_ BK490.out⟩, ⟨kb_ BK491.out⟩, ⟨hb_⟩⟩
     case round =>
      clear H'
      try clear c1
      try clear c2
      try clear p2
      try clear c3
      try clear c4
      try clear p4
      try clear q4
      try clear hx4
      try clear p6
      try clear c8
      try clear c9
      try clear c11
      try clear c11b0
      try clear c12
      try clear c12b0
      try clear c15
      try clear c16
      try clear c16b0
      try clear c16b1
      try clear c19
      try clear c20
      try clear c26
      try clear c27
      try clear c30
      try clear c31
      try clear c32
      try clear hcz10_0
      try clear hcz10_1
      try clear hcz10_2
      try clear hcz21_0
      try clear hcz21_1
      try clear hcz21_2
      try clear hcz28_0
      try clear hcz28_1
      try clear hcz28_2
      try clear hcz33_0
      try clear hcz33_1
      try clear hcz6_0
      try clear hcz6_1
      try clear hfz10_0
      try clear hfz10_1
      try clear hfz10_2
      try clear hfz21_0
      try clear hfz21_1
      try clear hfz21_2
      try clear hfz28_0
      try clear hfz28_1
      try clear hfz28_2
      try clear hfz33_0
      try clear hfz33_1
      try clear hfz6_0
      try clear hfz6_1
      try clear hx492_0
      try clear p492
      try clear q492
      obtain ⟨x8_2, x492000_2, x492001_2, x492002_2, rfl, HA, HK2, BK489, BK490, BK491, HB⟩ := hrel
      cases gk with
      | zero => exact absurd HA.out (by simp [spec_KruskalMaze.l1])
      | succ k2 =>
       have H := HA.out
       clear HA
       simp only [spec_KruskalMaze.l1] at H
       by_cases c35 : x8_2 < (l1.length : Int)
       ·rw [if_pos c35] at H
        have c35b0 : decide (x8_2 < (l1.length : Int)) = true := decide_eq_true c35
        clear c35
        by_cases c36 : 0 ≤ x8_2
        ·rw [if_pos c36] at H
         have c36b0 : decide (0 ≤ x8_2) = true := decide_eq_true c36
         clear c36
         replace H := Option.bind_eq_some_iff.mp H
         obtain ⟨t498, A370, H⟩ := H
         replace H : (if t498 = true then ((spec_SetGap.f k2 x492000_2 x492001_2 x492002_2 (rd l1 x8_2) true).bind fun bt500 => (spec_KruskalMaze.l1 k2 l1 (wrap64 (x8_2 + 1)) bt500.1 bt500.2.1 bt500.2.2.1)) else (spec_KruskalMaze.l1 k2 l1 (wrap64 (x8_2 + 1)) x492000_2 x492001_2 x492002_2)) = some (r1, r2, r3, r4) := H
         have A37 := Aside0.mk A370
         clear A370
         by_cases c38 : t498 = true
         ·subst c38
          have H1 : ((spec_SetGap.f k2 x492000_2 x492001_2 x492002_2 (rd l1 x8_2) true).bind fun bt500 => (spec_KruskalMaze.l1 k2 l1 (wrap64 (x8_2 + 1)) bt500.1 bt500.2.1 bt500.2.2.1)) = some (r1, r2, r3, r4) := by rw [if_pos rfl] at H; exact H
          clear H
          have H := H1
          clear H1
          replace H := Option.bind_eq_some_iff.mp H
          obtain ⟨⟨t500, t501, t502, t503⟩, A390, H⟩ := H
          replace H : (spec_KruskalMaze.l1 k2 l1 (wrap64 (x8_2 + 1)) t500 t501 t502) = some (r1, r2, r3, r4) := H
          have A39 := Aside0.mk A390
          clear A390
          have H' := Aside0.mk H
          clear H
          try go_wp2
          have n0_ := Aside0.mk (blk_drew BK489.out)
          have n1_ := Aside0.mk (blk_drew BK490.out)
          have n2_ := Aside0.mk (blk_drew BK491.out)
          have n3_ := Aside0.mk (below_drew1 HB.out)
          clear BK489
          clear BK490
          clear BK491
          clear HB
          have BK489 := n0_
          have BK490 := n1_
          have BK491 := n2_
          have HB := n3_
          clear n0_ n1_ n2_ n3_
          have p497 : 0 ≤ (x8_2 : Int) := of_decide_eq_true (by first | (with_reducible assumption) | assumption)
          have q497 : x8_2 < (l1.length : Int) := of_decide_eq_true (by first | (with_reducible assumption) | assumption)
          obtain ⟨ad497, e497, hx497_0⟩ := Kd.at_int HR1.out x8_2 p497 q497
          have hw497_0 := hx497_0
          cases e497
          replace hx497_0 := (HB.out.cell (World.block_lt_of_cell? w _ hx497_0)).trans hx497_0
          replace p497 := eq_true p497
          replace q497 := eq_true q497
          refine start_ (n := 6) (S := fun w' => w'.cell? ⟨gb491, 0, none⟩ = some (.int .i64 x492000_2) ∧ w'.cell? ⟨gb491, 1, none⟩ = some (.int .i64 x492001_2) ∧ w'.cell? ⟨gb491, 2, none⟩ = some (.int .i64 x492002_2) ∧ w'.cell? (ad497.add (x8_2).toNat) = some (.int .i64 (rd l1 x8_2))) (ds := []) #[false, false, false, false, false, false] (by kernel_rfl) rfl rfl ⟨(blk_cell BK491.out 0).trans rfl, (blk_cell BK491.out 1).trans rfl, (blk_cell BK491.out 2).trans rfl, ((HB.out.cell (World.block_lt_of_cell? w _ hw497_0)).trans hw497_0)⟩ (fun hHeld => ?_)
          generalize wr.drew = w40 at BK489 BK490 BK491 HB hx497_0 hHeld ⊢
          refine pure_ (i := 1) (N := some 43) (v := ?_) (a' := ?_) #[false, true, false, false, false, false] rfl rfl (by kernel_rfl) (fun _ _ _ h => h) (Or.inl ⟨by rfl, ?_⟩) ?_ ?_
          rotate_left
          ·intro w'
           go_simp
           with_reducible rfl
          rotate_left
          ·simp only [Act.put, List.setIfInBounds_toArray, List.set_cons_zero, List.set_cons_succ, i64_w, i32_w]
           rfl
          refine pure_ (i := 2) (N := some 44) (v := ?_) (a' := ?_) #[false, true, true, false, false, false] rfl rfl (by kernel_rfl) (fun _ _ _ h => h) (Or.inl ⟨by rfl, ?_⟩) ?_ ?_
          rotate_left
          ·intro w'
           go_simp
           with_reducible rfl
          rotate_left
          ·simp only [Act.put, List.setIfInBounds_toArray, List.set_cons_zero, List.set_cons_succ, i64_w, i32_w]
           rfl
          refine pure_ (i := 3) (N := some 45) (v := ?_) (a' := ?_) #[false, true, true, true, false, false] rfl rfl (by kernel_rfl) (fun _ _ _ h => h) (Or.inl ⟨by rfl, ?_⟩) ?_ ?_
          rotate_left
          ·intro w'
           go_simp
           with_reducible rfl
          rotate_left
          ·simp only [Act.put, List.setIfInBounds_toArray, List.set_cons_zero, List.set_cons_succ, i64_w, i32_w]
           rfl
          refine take_ (i := 0) (N := some 42) (v := ?_) (a' := ?_) #[true, true, true, true, false, false] rfl rfl (by kernel_rfl) (fun _ _ _ h => h) (Or.inl ⟨by rfl, ?_⟩) hHeld ?_ ?_
          rotate_left
          ·rintro w' ⟨s0, s1, s2, s3⟩
           go_simp
           with_reducible rfl
          rotate_left
          ·simp only [Act.put, List.setIfInBounds_toArray, List.set_cons_zero, List.set_cons_succ, i64_w, i32_w]
           rfl
          refine take_ (i := 4) (N := some 46) (v := ?_) (a' := ?_) #[true, true, true, true, true, false] rfl rfl (by kernel_rfl) (fun _ _ _ h => h) (Or.inl ⟨by rfl, ?_⟩) hHeld ?_ ?_
          rotate_left
          ·rintro w' ⟨s0, s1, s2, s3⟩
           go_simp
           with_reducible rfl
          rotate_left
          ·simp only [Act.put, List.setIfInBounds_toArray, List.set_cons_zero, List.set_cons_succ, i64_w, i32_w]
           rfl
          refine one_ (i := 5) (N := some 47) #[true, true, true, true, true, true] rfl rfl (by kernel_rfl) (by decide) (fun K hK => ?_)
          refine goes_ Try.func90 (by kernel_rfl) rfl #[.agg #[.int .i64 x492000_2, .int .i64 x492001_2, .int .i64 x492002_2], .int .i64 (rd l1 x8_2)] (by rfl) rfl rfl mp_ ?_
          with_reducible refine (spec_WouldJoin.calls k2 x492000_2 x492001_2 x492002_2 (rd l1 x8_2) true _ A37.out).mono ?_
          rintro e w41 ⟨rfl, hb⟩
          refine ⟨_, rfl, ?_⟩
          have n0_ := Aside0.mk (blk_below (g := gb489) (o := .cells #[.int .i64 a0_0, .int .i64 a0_1] 28 (0, 0)) (kb_ BK489.out) hb)
          have n1_ := Aside0.mk (blk_below (g := gb490) (o := .cells #[.int .i64 x491000_1, .int .i64 x491001_1, .int .i64 x491002_1] 30 (0, 0)) (kb_ BK490.out) hb)
          have n2_ := Aside0.mk (blk_below (g := gb491) (o := .cells #[.int .i64 x492000_2, .int .i64 x492001_2, .int .i64 x492002_2] 30 (0, 0)) (kb_ BK491.out) hb)
          have n3_ := Aside0.mk (below_step hb_ hb)
          clear BK489
          clear BK490
          clear BK491
          clear HB
          have BK489 := n0_
          have BK490 := n1_
          have BK491 := n2_
          have HB := n3_
          clear n0_ n1_ n2_ n3_
          (try clear hb)
          (try clear hb2)
          (try clear hk)
          (try clear hi)
          refine hK.out _ _ ⟨(blk_cell BK491.out 0).trans rfl, (blk_cell BK491.out 1).trans rfl, (blk_cell BK491.out 2).trans rfl, ((HB.out.cell (World.block_lt_of_cell? w _ hw497_0)).trans hw497_0)⟩ (fun hHeld => ?_)
          clear hK K
          refine norm_ (a' := ?_) ?_ ?_
          rotate_left
          ·show Act.put _ (some 47) _ = _
           simp only [Act.put, List.setIfInBounds_toArray, List.set_cons_zero, List.set_cons_succ, i64_w, i32_w]
           rfl
          refine done_ (by kernel_rfl) ?_
          try go_wp2
          have n0_ := Aside0.mk (blk_drew BK489.out)
          have n1_ := Aside0.mk (blk_drew BK490.out)
          have n2_ := Aside0.mk (blk_drew BK491.out)
          have n3_ := Aside0.mk (below_drew1 HB.out)
          clear BK489
          clear BK490
          clear BK491
          clear HB
          have BK489 := n0_
          have BK490 := n1_
          have BK491 := n2_
          have HB := n3_
          clear n0_ n1_ n2_ n3_
          have p499 : 0 ≤ (x8_2 : Int) := of_decide_eq_true (by first | (with_reducible assumption) | assumption)
          have q499 : x8_2 < (l1.length : Int) := of_decide_eq_true (by first | (with_reducible assumption) | assumption)
          obtain ⟨ad499, e499, hx499_0⟩ := Kd.at_int HR1.out x8_2 p499 q499
          have hw499_0 := hx499_0
          obtain rfl : ad497 = ad499 := (by injection e499)
          replace hx499_0 := (HB.out.cell (World.block_lt_of_cell? w _ hx499_0)).trans hx499_0
          replace p499 := eq_true p499
          replace q499 := eq_true q499
          refine start_ (n := 10) (S := fun w' => w'.cell? ⟨gb491, 0, none⟩ = some (.int .i64 x492000_2) ∧ w'.cell? ⟨gb491, 1, none⟩ = some (.int .i64 x492001_2) ∧ w'.cell? ⟨gb491, 2, none⟩ = some (.int .i64 x492002_2) ∧ w'.cell? (ad497.add (x8_2).toNat) = some (.int .i64 (rd l1 x8_2))) (ds := [9]) #[false, false, false, false, false, false, false, false, false, false] (by kernel_rfl) rfl rfl ⟨(blk_cell BK491.out 0).trans rfl, (blk_cell BK491.out 1).trans rfl, (blk_cell BK491.out 2).trans rfl, ((HB.out.cell (World.block_lt_of_cell? w _ hw499_0)).trans hw499_0)⟩ (fun hHeld => ?_); refine with_tabW spec_KruskalMaze.tab13 spec_KruskalMaze.bits13 (fun HT_ HW_ => ?_)
          generalize w41.drew = w42 at BK489 BK490 BK491 HB hx499_0 hHeld ⊢
          refine pure_ (i := 1) (N := some 50) (v := ?_) (a' := ?_) #[false, true, false, false, false, false, false, false, false, false] rfl rfl (any_of HT_.out (by kernel_rfl)) (fun _ _ _ h => h) (Or.inl ⟨by rfl, ?_⟩) ?_ ?_
          rotate_left
          ·intro w'
           go_simp
           with_reducible rfl
          rotate_left
          ·simp only [Act.put, List.setIfInBounds_toArray, List.set_cons_zero, List.set_cons_succ, i64_w, i32_w]
           rfl
          refine pure_ (i := 2) (N := some 51) (v := ?_) (a' := ?_) #[false, true, true, false, false, false, false, false, false, false] rfl rfl (any_of HT_.out (by kernel_rfl)) (fun _ _ _ h => h) (Or.inl ⟨by rfl, ?_⟩) ?_ ?_
          rotate_left
          ·intro w'
           go_simp
           with_reducible rfl
          rotate_left
          ·simp only [Act.put, List.setIfInBounds_toArray, List.set_cons_zero, List.set_cons_succ, i64_w, i32_w]
           rfl
          refine pure_ (i := 3) (N := some 52) (v := ?_) (a' := ?_) #[false, true, true, true, false, false, false, false, false, false] rfl rfl (any_of HT_.out (by kernel_rfl)) (fun _ _ _ h => h) (Or.inl ⟨by rfl, ?_⟩) ?_ ?_
          rotate_left
          ·intro w'
           go_simp
           with_reducible rfl
          rotate_left
          ·simp only [Act.put, List.setIfInBounds_toArray, List.set_cons_zero, List.set_cons_succ, i64_w, i32_w]
           rfl
          refine take_ (i := 0) (N := some 49) (v := ?_) (a' := ?_) #[true, true, true, true, false, false, false, false, false, false] rfl rfl (take_ofW HT_.out HW_.out (by kernel_rfl)) (fun _ _ _ h => h) (Or.inl ⟨by rfl, ?_⟩) hHeld ?_ ?_
          rotate_left
          ·rintro w' ⟨s0, s1, s2, s3⟩
           go_simp
           with_reducible rfl
          rotate_left
          ·simp only [Act.put, List.setIfInBounds_toArray, List.set_cons_zero, List.set_cons_succ, i64_w, i32_w]
           rfl
          refine take_ (i := 4) (N := some 53) (v := ?_) (a' := ?_) #[true, true, true, true, true, false, false, false, false, false] rfl rfl (take_ofW HT_.out HW_.out (by kernel_rfl)) (fun _ _ _ h => h) (Or.inl ⟨by rfl, ?_⟩) hHeld ?_ ?_
          rotate_left
          ·rintro w' ⟨s0, s1, s2, s3⟩
           go_simp
           with_reducible rfl
          rotate_left
          ·simp only [Act.put, List.setIfInBounds_toArray, List.set_cons_zero, List.set_cons_succ, i64_w, i32_w]
           rfl
          refine one_ (i := 5) (N := some 54) #[true, true, true, true, true, true, false, false, false, false] rfl rfl (one_of HT_.out (by kernel_rfl)) (by decide) (fun K hK => ?_)
          refine goes_ Try.func74 (by kernel_rfl) rfl #[.agg #[.int .i64 x492000_2, .int .i64 x492001_2, .int .i64 x492002_2], .int .i64 (rd l1 x8_2), .bool true] (by rfl) rfl rfl mp_ ?_
          with_reducible refine (spec_SetGap.calls k2 x492000_2 x492001_2 x492002_2 (rd l1 x8_2) true t500 t501 t502 t503 _ A39.out).mono ?_
          rintro e w43 ⟨rfl, hb⟩
          refine ⟨_, rfl, ?_⟩
          have n0_ := Aside0.mk (blk_below (g := gb489) (o := .cells #[.int .i64 a0_0, .int .i64 a0_1] 28 (0, 0)) (kb_ BK489.out) hb)
          have n1_ := Aside0.mk (blk_below (g := gb490) (o := .cells #[.int .i64 x491000_1, .int .i64 x491001_1, .int .i64 x491002_1] 30 (0, 0)) (kb_ BK490.out) hb)
          have n2_ := Aside0.mk (blk_below (g := gb491) (o := .cells #[.int .i64 x492000_2, .int .i64 x492001_2, .int .i64 x492002_2] 30 (0, 0)) (kb_ BK491.out) hb)
          have n3_ := Aside0.mk (below_step hb_ hb)
          clear BK489
          clear BK490
          clear BK491
          clear HB
          have BK489 := n0_
          have BK490 := n1_
          have BK491 := n2_
          have HB := n3_
          clear n0_ n1_ n2_ n3_
          (try clear hb)
          (try clear hb2)
          (try clear hk)
          (try clear hi)
          refine hK.out _ _ ⟨(blk_cell BK491.out 0).trans rfl, (blk_cell BK491.out 1).trans rfl, (blk_cell BK491.out 2).trans rfl, ((HB.out.cell (World.block_lt_of_cell? w _ hw499_0)).trans hw499_0)⟩ (fun hHeld => ?_)
          clear hK K
          refine norm_ (a' := ?_) ?_ ?_
          rotate_left
          ·show Act.put _ (some 54) _ = _
           simp only [Act.put, List.setIfInBounds_toArray, List.set_cons_zero, List.set_cons_succ, i64_w, i32_w]
           rfl
          refine pure_ (i := 6) (N := some 48) (v := ?_) (a' := ?_) #[true, true, true, true, true, true, true, false, false, false] rfl rfl (any_of HT_.out (by kernel_rfl)) (fun _ _ _ h => h) (Or.inl ⟨by rfl, ?_⟩) ?_ ?_
          rotate_left
          ·intro w'
           go_simp
           with_reducible rfl
          rotate_left
          ·simp only [Act.put, List.setIfInBounds_toArray, List.set_cons_zero, List.set_cons_succ, i64_w, i32_w]
           rfl
          refine pure_ (i := 7) (N := some 55) (v := ?_) (a' := ?_) #[true, true, true, true, true, true, true, true, false, false] rfl rfl (any_of HT_.out (by kernel_rfl)) (fun _ _ _ h => h) (Or.inl ⟨by rfl, ?_⟩) ?_ ?_
          rotate_left
          ·intro w'
           go_simp
           with_reducible rfl
          rotate_left
          ·simp only [Act.put, List.setIfInBounds_toArray, List.set_cons_zero, List.set_cons_succ, i64_w, i32_w]
           rfl
          refine pure_ (i := 8) (N := some 56) (v := ?_) (a' := ?_) #[true, true, true, true, true, true, true, true, true, false] rfl rfl (any_of HT_.out (by kernel_rfl)) (fun _ _ _ h => h) (Or.inl ⟨by rfl, ?_⟩) ?_ ?_
          rotate_left
          ·intro w'
           go_simp
           with_reducible rfl
          rotate_left
          ·simp only [Act.put, List.setIfInBounds_toArray, List.set_cons_zero, List.set_cons_succ, i64_w, i32_w]
           rfl
          refine last_ (i := 9) (N := none) #[true, true, true, true, true, true, true, true, true, true] rfl rfl (one_of HT_.out (by kernel_rfl)) (by decide) (fun K hK => ?_)
          have hs44 : w43.cell? ⟨gb491, 0, none⟩ = some (.int .i64 x492000_2) := (blk_cell BK491.out 0).trans rfl
          have hfs44 := blk_frozen BK491.out 0
          have hns44_0 := NB489_491.out
          have hns44_1 := NB490_491.out
          have hms44_0 := NB491_489.out
          have hms44_1 := NB491_490.out
          have hs45 : w43.cell? ⟨gb491, 1, none⟩ = some (.int .i64 x492001_2) := (blk_cell BK491.out 1).trans rfl
          have hfs45 := blk_frozen BK491.out 1
          have hns45_0 := NB489_491.out
          have hns45_1 := NB490_491.out
          have hms45_0 := NB491_489.out
          have hms45_1 := NB491_490.out
          have hs46 : w43.cell? ⟨gb491, 2, none⟩ = some (.int .i64 x492002_2) := (blk_cell BK491.out 2).trans rfl
          have hfs46 := blk_frozen BK491.out 2
          have hns46_0 := NB489_491.out
          have hns46_1 := NB490_491.out
          have hms46_0 := NB491_489.out
          have hms46_1 := NB491_490.out
          refine skip_ (w1 := ?_) (by rfl) rfl ?_ ?_
          rotate_left
          ·go_simp
           rfl
          refine hK.out _ _ ?_
          clear hK K
          refine done_ (done_of HT_.out (by kernel_rfl)) ?_
          try go_wp2
          go_roundg k2
          case measure => have := HK1.out; have := HK2.out; omega
          case rel => exact ⟨(wrap64 (x8_2 + 1)), (t500), (t501), (t502), (by first | rfl | (simp; done) | (simp [*]; done)), H', ⟨by have := HK1.out; have := HK2.out; omega⟩, ⟨by (with_reducible repeat (first | refine blk_drewN ?_ _ | refine blk_drew ?_ | refine blk_alloc ?_ _)); refine blk_far ?_ NB489_491.out _; (with_reducible repeat (first | refine blk_drewN ?_ _ | refine blk_drew ?_ | refine blk_alloc ?_ _)); refine blk_far ?_ NB489_491.out _; (with_reducible repeat (first | refine blk_drewN ?_ _ | refine blk_drew ?_ | refine blk_alloc ?_ _)); refine blk_far ?_ NB489_491.out _; (with_reducible repeat (first | refine blk_drewN ?_ _ | refine blk_drew ?_ | refine blk_alloc ?_ _)); exact BK489.out⟩, ⟨by (with_reducible repeat (first | refine blk_drewN ?_ _ | refine blk_drew ?_ | refine blk_alloc ?_ _)); refine blk_far ?_ NB490_491.out _; (with_reducible repeat (first | refine blk_drewN ?_ _ | refine blk_drew ?_ | refine blk_alloc ?_ _)); refine blk_far ?_ NB490_491.out _; (with_reducible repeat (first | refine blk_drewN ?_ _ | refine blk_drew ?_ | refine blk_alloc ?_ _)); refine blk_far ?_ NB490_491.out _; (with_reducible repeat (first | refine blk_drewN ?_ _ | refine blk_drew ?_ | refine blk_alloc ?_ _)); exact BK490.out⟩, ⟨by (with_reducible repeat (first | refine blk_drewN ?_ _ | refine blk_drew ?_ | refine blk_alloc ?_ _)); refine blk_put (cs := #[.int .i64 t500, .int .i64 t501, .int .i64 x492002_2]) ?_ 2 _ rfl; (with_reducible repeat (first | refine blk_drewN ?_ _ | refine blk_drew ?_ | refine blk_alloc ?_ _)); refine blk_put (cs := #[.int .i64 t500, .int .i64 x492001_2, .int .i64 x492002_2]) ?_ 1 _ rfl; (with_reducible repeat (first | refine blk_drewN ?_ _ | refine blk_drew ?_ | refine blk_alloc ?_ _)); refine blk_put (cs := #[.int .i64 x492000_2, .int .i64 x492001_2, .int .i64 x492002_2]) ?_ 0 _ rfl; (with_reducible repeat (first | refine blk_drewN ?_ _ | refine blk_drew ?_ | refine blk_alloc ?_ _)); exact BK491.out⟩, ⟨hb_⟩⟩
         ·replace c38 := Bool.eq_false_iff.mpr c38
          subst c38
          have H1 : (spec_KruskalMaze.l1 k2 l1 (wrap64 (x8_2 + 1)) x492000_2 x492001_2 x492002_2) = some (r1, r2, r3, r4) := by rw [if_neg (show ¬ (false = true) by decide)] at H; exact H
          clear H
          have H := H1
          clear H1
          have H' := Aside0.mk H
          clear H
          try go_wp2
          have n0_ := Aside0.mk (blk_drew BK489.out)
          have n1_ := Aside0.mk (blk_drew BK490.out)
          have n2_ := Aside0.mk (blk_drew BK491.out)
          have n3_ := Aside0.mk (below_drew1 HB.out)
          clear BK489
          clear BK490
          clear BK491
          clear HB
          have BK489 := n0_
          have BK490 := n1_
          have BK491 := n2_
          have HB := n3_
          clear n0_ n1_ n2_ n3_
          have p497 : 0 ≤ (x8_2 : Int) := of_decide_eq_true (by first | (with_reducible assumption) | assumption)
          have q497 : x8_2 < (l1.length : Int) := of_decide_eq_true (by first | (with_reducible assumption) | assumption)
          obtain ⟨ad497, e497, hx497_0⟩ := Kd.at_int HR1.out x8_2 p497 q497
          have hw497_0 := hx497_0
          cases e497
          replace hx497_0 := (HB.out.cell (World.block_lt_of_cell? w _ hx497_0)).trans hx497_0
          replace p497 := eq_true p497
          replace q497 := eq_true q497
          refine start_ (n := 6) (S := fun w' => w'.cell? ⟨gb491, 0, none⟩ = some (.int .i64 x492000_2) ∧ w'.cell? ⟨gb491, 1, none⟩ = some (.int .i64 x492001_2) ∧ w'.cell? ⟨gb491, 2, none⟩ = some (.int .i64 x492002_2) ∧ w'.cell? (ad497.add (x8_2).toNat) = some (.int .i64 (rd l1 x8_2))) (ds := []) #[false, false, false, false, false, false] (by kernel_rfl) rfl rfl ⟨(blk_cell BK491.out 0).trans rfl, (blk_cell BK491.out 1).trans rfl, (blk_cell BK491.out 2).trans rfl, ((HB.out.cell (World.block_lt_of_cell? w _ hw497_0)).trans hw497_0)⟩ (fun hHeld => ?_)
          generalize wr.drew = w47 at BK489 BK490 BK491 HB hx497_0 hHeld ⊢
          refine pure_ (i := 1) (N := some 43) (v := ?_) (a' := ?_) #[false, true, false, false, false, false] rfl rfl (by kernel_rfl) (fun _ _ _ h => h) (Or.inl ⟨by rfl, ?_⟩) ?_ ?_
          rotate_left
          ·intro w'
           go_simp
           with_reducible rfl
          rotate_left
          ·simp only [Act.put, List.setIfInBounds_toArray, List.set_cons_zero, List.set_cons_succ, i64_w, i32_w]
           rfl
          refine pure_ (i := 2) (N := some 44) (v := ?_) (a' := ?_) #[false, true, true, false, false, false] rfl rfl (by kernel_rfl) (fun _ _ _ h => h) (Or.inl ⟨by rfl, ?_⟩) ?_ ?_
          rotate_left
          ·intro w'
           go_simp
           with_reducible rfl
          rotate_left
          ·simp only [Act.put, List.setIfInBounds_toArray, List.set_cons_zero, List.set_cons_succ, i64_w, i32_w]
           rfl
          refine pure_ (i := 3) (N := some 45) (v := ?_) (a' := ?_) #[false, true, true, true, false, false] rfl rfl (by kernel_rfl) (fun _ _ _ h => h) (Or.inl ⟨by rfl, ?_⟩) ?_ ?_
          rotate_left
          ·intro w'
           go_simp
           with_reducible rfl
          rotate_left
          ·simp only [Act.put, List.setIfInBounds_toArray, List.set_cons_zero, List.set_cons_succ, i64_w, i32_w]
           rfl
          refine take_ (i := 0) (N := some 42) (v := ?_) (a' := ?_) #[true, true, true, true, false, false] rfl rfl (by kernel_rfl) (fun _ _ _ h => h) (Or.inl ⟨by rfl, ?_⟩) hHeld ?_ ?_
          rotate_left
          ·rintro w' ⟨s0, s1, s2, s3⟩
           go_simp
           with_reducible rfl
          rotate_left
          ·simp only [Act.put, List.setIfInBounds_toArray, List.set_cons_zero, List.set_cons_succ, i64_w, i32_w]
           rfl
          refine take_ (i := 4) (N := some 46) (v := ?_) (a' := ?_) #[true, true, true, true, true, false] rfl rfl (by kernel_rfl) (fun _ _ _ h => h) (Or.inl ⟨by rfl, ?_⟩) hHeld ?_ ?_
          rotate_left
          ·rintro w' ⟨s0, s1, s2, s3⟩
           go_simp
           with_reducible rfl
          rotate_left
          ·simp only [Act.put, List.setIfInBounds_toArray, List.set_cons_zero, List.set_cons_succ, i64_w, i32_w]
           rfl
          refine one_ (i := 5) (N := some 47) #[true, true, true, true, true, true] rfl rfl (by kernel_rfl) (by decide) (fun K hK => ?_)
          refine goes_ Try.func90 (by kernel_rfl) rfl #[.agg #[.int .i64 x492000_2, .int .i64 x492001_2, .int .i64 x492002_2], .int .i64 (rd l1 x8_2)] (by rfl) rfl rfl mp_ ?_
          with_reducible refine (spec_WouldJoin.calls k2 x492000_2 x492001_2 x492002_2 (rd l1 x8_2) false _ A37.out).mono ?_
          rintro e w48 ⟨rfl, hb⟩
          refine ⟨_, rfl, ?_⟩
          have n0_ := Aside0.mk (blk_below (g := gb489) (o := .cells #[.int .i64 a0_0, .int .i64 a0_1] 28 (0, 0)) (kb_ BK489.out) hb)
          have n1_ := Aside0.mk (blk_below (g := gb490) (o := .cells #[.int .i64 x491000_1, .int .i64 x491001_1, .int .i64 x491002_1] 30 (0, 0)) (kb_ BK490.out) hb)
          have n2_ := Aside0.mk (blk_below (g := gb491) (o := .cells #[.int .i64 x492000_2, .int .i64 x492001_2, .int .i64 x492002_2] 30 (0, 0)) (kb_ BK491.out) hb)
          have n3_ := Aside0.mk (below_step hb_ hb)
          clear BK489
          clear BK490
          clear BK491
          clear HB
          have BK489 := n0_
          have BK490 := n1_
          have BK491 := n2_
          have HB := n3_
          clear n0_ n1_ n2_ n3_
          (try clear hb)
          (try clear hb2)
          (try clear hk)
          (try clear hi)
          refine hK.out _ _ ⟨(blk_cell BK491.out 0).trans rfl, (blk_cell BK491.out 1).trans rfl, (blk_cell BK491.out 2).trans rfl, ((HB.out.cell (World.block_lt_of_cell? w _ hw497_0)).trans hw497_0)⟩ (fun hHeld => ?_)
          clear hK K
          refine norm_ (a' := ?_) ?_ ?_
          rotate_left
          ·show Act.put _ (some 47) _ = _
           simp only [Act.put, List.setIfInBounds_toArray, List.set_cons_zero, List.set_cons_succ, i64_w, i32_w]
           rfl
          refine done_ (by kernel_rfl) ?_
          try go_wp2
          go_roundg k2
          case measure => have := HK1.out; have := HK2.out; omega
          case rel => exact ⟨(wrap64 (x8_2 + 1)), (x492000_2), (x492001_2), (x492002_2), (by first | rfl | (simp; done) | (simp [*]; done)), H', ⟨by have := HK1.out; have := HK2.out; omega⟩, ⟨kb_ BK489.out⟩, ⟨kb_ BK490.out⟩, ⟨kb_ BK491.out⟩, ⟨hb_⟩⟩
        ·rw [if_neg c36] at H
         exact absurd H (by simp)
       ·rw [if_neg c35] at H
        have c35b0 : decide (x8_2 < (l1.length : Int)) = false := decide_eq_false c35
        clear c35
        replace H := Option.bind_eq_some_iff.mp H
        obtain ⟨t496, A490, H⟩ := H
        replace H : (some (x492000_2, x492001_2, x492002_2, t496)) = some (r1, r2, r3, r4) := H
        have A49 := Aside0.mk A490
        clear A490
        simp only [Option.some.injEq, Prod.mk.injEq] at H
        obtain ⟨rfl, rfl, rfl, rfl⟩ := H
        try go_wp2
        have n0_ := Aside0.mk (blk_drew BK489.out)
        have n1_ := Aside0.mk (blk_drew BK490.out)
        have n2_ := Aside0.mk (blk_drew BK491.out)
        have n3_ := Aside0.mk (below_drew1 HB.out)
        clear BK489
        clear BK490
        clear BK491
        clear HB
        have BK489 := n0_
        have BK490 := n1_
        have BK491 := n2_
        have HB := n3_
        clear n0_ n1_ n2_ n3_
        refine start_ (n := 5) (S := fun w' => w'.cell? ⟨gb491, 0, none⟩ = some (.int .i64 x492000_2) ∧ w'.cell? ⟨gb491, 1, none⟩ = some (.int .i64 x492001_2) ∧ w'.cell? ⟨gb491, 2, none⟩ = some (.int .i64 x492002_2)) (ds := []) #[false, false, false, false, false] (by kernel_rfl) rfl rfl ⟨(blk_cell BK491.out 0).trans rfl, (blk_cell BK491.out 1).trans rfl, (blk_cell BK491.out 2).trans rfl⟩ (fun hHeld => ?_)
        generalize wr.drew = w50 at BK489 BK490 BK491 HB hHeld ⊢
        refine take_ (i := 0) (N := some 57) (v := ?_) (a' := ?_) #[true, false, false, false, false] rfl rfl (by kernel_rfl) (fun _ _ _ h => h) (Or.inl ⟨by rfl, ?_⟩) hHeld ?_ ?_
        rotate_left
        ·rintro w' ⟨s0, s1, s2⟩
         go_simp
         with_reducible rfl
        rotate_left
        ·simp only [Act.put, List.setIfInBounds_toArray, List.set_cons_zero, List.set_cons_succ, i64_w, i32_w]
         rfl
        refine take_ (i := 1) (N := some 58) (v := ?_) (a' := ?_) #[true, true, false, false, false] rfl rfl (by kernel_rfl) (fun _ _ _ h => h) (Or.inl ⟨by rfl, ?_⟩) hHeld ?_ ?_
        rotate_left
        ·rintro w' ⟨s0, s1, s2⟩
         go_simp
         with_reducible rfl
        rotate_left
        ·simp only [Act.put, List.setIfInBounds_toArray, List.set_cons_zero, List.set_cons_succ, i64_w, i32_w]
         rfl
        refine one_ (i := 2) (N := some 59) #[true, true, true, false, false] rfl rfl (by kernel_rfl) (by decide) (fun K hK => ?_)
        refine goes_ Try.func31 (by kernel_rfl) rfl #[.agg #[.int .i64 x492000_2, .int .i64 x492001_2, .int .i64 x492002_2]] (by rfl) rfl rfl mp_ ?_
        with_reducible refine (spec_IsPerfect.calls k2 x492000_2 x492001_2 x492002_2 t496 _ A49.out).mono ?_
        rintro e w51 ⟨rfl, hb⟩
        refine ⟨_, rfl, ?_⟩
        have n0_ := Aside0.mk (blk_below (g := gb489) (o := .cells #[.int .i64 a0_0, .int .i64 a0_1] 28 (0, 0)) (kb_ BK489.out) hb)
        have n1_ := Aside0.mk (blk_below (g := gb490) (o := .cells #[.int .i64 x491000_1, .int .i64 x491001_1, .int .i64 x491002_1] 30 (0, 0)) (kb_ BK490.out) hb)
        have n2_ := Aside0.mk (blk_below (g := gb491) (o := .cells #[.int .i64 x492000_2, .int .i64 x492001_2, .int .i64 x492002_2] 30 (0, 0)) (kb_ BK491.out) hb)
        have n3_ := Aside0.mk (below_step hb_ hb)
        clear BK489
        clear BK490
        clear BK491
        clear HB
        have BK489 := n0_
        have BK490 := n1_
        have BK491 := n2_
        have HB := n3_
        clear n0_ n1_ n2_ n3_
        (try clear hb)
        (try clear hb2)
        (try clear hk)
        (try clear hi)
        refine hK.out _ _ ⟨(blk_cell BK491.out 0).trans rfl, (blk_cell BK491.out 1).trans rfl, (blk_cell BK491.out 2).trans rfl⟩ (fun hHeld => ?_)
        clear hK K
        refine norm_ (a' := ?_) ?_ ?_
        rotate_left
        ·show Act.put _ (some 59) _ = _
         simp only [Act.put, List.setIfInBounds_toArray, List.set_cons_zero, List.set_cons_succ, i64_w, i32_w]
         rfl
        refine one_ (i := 3) (N := none) #[true, true, true, true, false] rfl rfl (by kernel_rfl) (by decide) (fun K hK => ?_)
        have hs52 : w51.cell? ⟨gb490, 0, none⟩ = some (.int .i64 x491000_1) := (blk_cell BK490.out 0).trans rfl
        have hfs52 := blk_frozen BK490.out 0
        have hns52_0 := NB489_490.out
        have hns52_2 := NB491_490.out
        have hms52_0 := NB490_489.out
        have hms52_2 := NB490_491.out
        have hs53 : w51.cell? ⟨gb490, 1, none⟩ = some (.int .i64 x491001_1) := (blk_cell BK490.out 1).trans rfl
        have hfs53 := blk_frozen BK490.out 1
        have hns53_0 := NB489_490.out
        have hns53_2 := NB491_490.out
        have hms53_0 := NB490_489.out
        have hms53_2 := NB490_491.out
        have hs54 : w51.cell? ⟨gb490, 2, none⟩ = some (.int .i64 x491002_1) := (blk_cell BK490.out 2).trans rfl
        have hfs54 := blk_frozen BK490.out 2
        have hns54_0 := NB489_490.out
        have hns54_2 := NB491_490.out
        have hms54_0 := NB490_489.out
        have hms54_2 := NB490_491.out
        refine skip_ (w1 := ?_) (by rfl) rfl ?_ ?_
        rotate_left
        ·go_simp
         rfl
        refine hK.out _ _ ⟨((cell_far (p := ⟨gb490, _, none⟩) NB491_490.out _).trans (((cell_far (p := ⟨gb490, _, none⟩) NB491_490.out _).trans (((cell_far (p := ⟨gb490, _, none⟩) NB491_490.out _).trans (hHeld.1)))))), ((cell_far (p := ⟨gb490, _, none⟩) NB491_490.out _).trans (((cell_far (p := ⟨gb490, _, none⟩) NB491_490.out _).trans (((cell_far (p := ⟨gb490, _, none⟩) NB491_490.out _).trans (hHeld.2.1)))))), ((cell_far (p := ⟨gb490, _, none⟩) NB491_490.out _).trans (((cell_far (p := ⟨gb490, _, none⟩) NB491_490.out _).trans (((cell_far (p := ⟨gb490, _, none⟩) NB491_490.out _).trans (hHeld.2.2))))))⟩ (fun hHeld => ?_)
        clear hK K
        refine pure_ (i := 4) (N := some 5) (v := ?_) (a' := ?_) #[true, true, true, true, true] rfl rfl (by kernel_rfl) (fun _ _ _ h => h) (Or.inl ⟨by rfl, ?_⟩) ?_ ?_
        rotate_left
        ·intro w'
         go_simp
         with_reducible rfl
        rotate_left
        ·simp only [Act.put, List.setIfInBounds_toArray, List.set_cons_zero, List.set_cons_succ, i64_w, i32_w]
         rfl
        refine done_ (by kernel_rfl) ?_
        try go_wp2
        try (have hq489_0 : _ = some (.int .i64 a0_0) := (blk_cell BK489.out 0).trans rfl; have hqf489_0 := blk_frozen BK489.out 0; have hq489_1 : _ = some (.int .i64 a0_1) := (blk_cell BK489.out 1).trans rfl; have hqf489_1 := blk_frozen BK489.out 1; have hq490_0 : _ = some (.int .i64 x492000_2) := (blk_cell BK490.out 0).trans rfl; have hqf490_0 := blk_frozen BK490.out 0; have hq490_1 : _ = some (.int .i64 x492001_2) := (blk_cell BK490.out 1).trans rfl; have hqf490_1 := blk_frozen BK490.out 1; have hq490_2 : _ = some (.int .i64 x492002_2) := (blk_cell BK490.out 2).trans rfl; have hqf490_2 := blk_frozen BK490.out 2; have hq491_0 : _ = some (.int .i64 x492000_2) := (blk_cell BK491.out 0).trans rfl; have hqf491_0 := blk_frozen BK491.out 0; have hq491_1 : _ = some (.int .i64 x492001_2) := (blk_cell BK491.out 1).trans rfl; have hqf491_1 := blk_frozen BK491.out 1; have hq491_2 : _ = some (.int .i64 x492002_2) := (blk_cell BK491.out 2).trans rfl; have hqf491_2 := blk_frozen BK491.out 2; go_wp2)
        refine bodyPost_ret (results_ct rfl _ _ gb490 30 #[.int .i64 x492000_2, .int .i64 x492001_2, .int .i64 x492002_2] (0, 0) _ rfl (by (with_reducible repeat (first | refine blk_drewN ?_ _ | refine blk_drew ?_ | refine blk_alloc ?_ _)); refine blk_put (cs := #[.int .i64 x492000_2, .int .i64 x492001_2, .int .i64 x491002_1]) ?_ 2 _ rfl; (with_reducible repeat (first | refine blk_drewN ?_ _ | refine blk_drew ?_ | refine blk_alloc ?_ _)); refine blk_put (cs := #[.int .i64 x492000_2, .int .i64 x491001_1, .int .i64 x491002_1]) ?_ 1 _ rfl; (with_reducible repeat (first | refine blk_drewN ?_ _ | refine blk_drew ?_ | refine blk_alloc ?_ _)); refine blk_put (cs := #[.int .i64 x491000_1, .int .i64 x491001_1, .int .i64 x491002_1]) ?_ 0 _ rfl; (with_reducible repeat (first | refine blk_drewN ?_ _ | refine blk_drew ?_ | refine blk_alloc ?_ _)); exact BK490.out) Try.underlying30 rfl (by kernel_rfl)) rfl ?_
        exact ⟨er_, hb_⟩
    ·replace c30 := Bool.eq_false_iff.mpr c30
     subst c30
     have H1 : (some (0, 0, 0, false)) = some (r1, r2, r3, r4) := by rw [if_neg (show ¬ (false = true) by decide)] at H; exact H
     clear H
     have H := H1
     clear H1
     simp only [Option.some.injEq, Prod.mk.injEq] at H
     obtain ⟨rfl, rfl, rfl, rfl⟩ := H
     have hnb55 := NB489_490.out
     have hnc55 := NB490_489.out
     have hnb56 := NB489_491.out
     have hnc56 := NB491_489.out
     have hcz57_0 : wr.cell? ⟨gb489, 0, none⟩ = some (.int .i64 a0_0) := (blk_cell BK489.out 0).trans rfl
     have hcz57_1 : wr.cell? ⟨gb489, 1, none⟩ = some (.int .i64 a0_1) := (blk_cell BK489.out 1).trans rfl
     have hfz57_0 := blk_frozen BK489.out 0
     have hfz57_1 := blk_frozen BK489.out 1
     go_wp2_with (first | ((with_reducible refine gate_callee (f := 89) rfl ?_); refine goesL_ (some 33) rfl rfl Try.func89 (by kernel_rfl) rfl #[.agg #[.int .i64 a0_0, .int .i64 a0_1]] rfl mp_ ?_; (with_reducible refine (spec_GridOk.calls a0_0 a0_1 false _ A29.out).mono ?_); rintro e w58 ⟨rfl, hb⟩; refine ⟨_, rfl, ?_⟩; have n0_ := Aside0.mk (blk_below (g := gb489) (o := .cells #[.int .i64 a0_0, .int .i64 a0_1] 28 (0, 0)) (kb_ BK489.out) hb); have n1_ := Aside0.mk (blk_below (g := gb490) (o := .cells #[.int .i64 x491000_1, .int .i64 x491001_1, .int .i64 x491002_1] 30 (0, 0)) (kb_ BK490.out) hb); have n2_ := Aside0.mk (blk_below (g := gb491) (o := .cells #[.int .i64 a0_0, .int .i64 a0_1, .int .i64 0] 30 (0, 0)) (kb_ BK491.out) hb); have n3_ := Aside0.mk (below_step hb_ hb); clear BK489; clear BK490; clear BK491; clear HB; have BK489 := n0_; have BK490 := n1_; have BK491 := n2_; have HB := n3_; clear n0_ n1_ n2_ n3_; (try clear hb); (try clear hb2); (try clear hk); (try clear hi); have hnb59 := NB490_491.out; have hnc59 := NB491_490.out; have hcz60_0 := cz_ (.int .i64 x491000_1) BK490.out 0; have hcz60_1 := cz_ (.int .i64 x491001_1) BK490.out 1; have hcz60_2 := cz_ (.int .i64 x491002_1) BK490.out 2; have hfz60_0 := blk_frozen BK490.out 0; have hfz60_1 := blk_frozen BK490.out 1; have hfz60_2 := blk_frozen BK490.out 2))
     try (have hq489_0 : _ = some (.int .i64 a0_0) := (blk_cell BK489.out 0).trans rfl; have hqf489_0 := blk_frozen BK489.out 0; have hq489_1 : _ = some (.int .i64 a0_1) := (blk_cell BK489.out 1).trans rfl; have hqf489_1 := blk_frozen BK489.out 1; have hq490_0 : _ = some (.int .i64 0) := (blk_cell BK490.out 0).trans rfl; have hqf490_0 := blk_frozen BK490.out 0; have hq490_1 : _ = some (.int .i64 0) := (blk_cell BK490.out 1).trans rfl; have hqf490_1 := blk_frozen BK490.out 1; have hq490_2 : _ = some (.int .i64 0) := (blk_cell BK490.out 2).trans rfl; have hqf490_2 := blk_frozen BK490.out 2; have hq491_0 : _ = some (.int .i64 a0_0) := (blk_cell BK491.out 0).trans rfl; have hqf491_0 := blk_frozen BK491.out 0; have hq491_1 : _ = some (.int .i64 a0_1) := (blk_cell BK491.out 1).trans rfl; have hqf491_1 := blk_frozen BK491.out 1; have hq491_2 : _ = some (.int .i64 0) := (blk_cell BK491.out 2).trans rfl; have hqf491_2 := blk_frozen BK491.out 2; go_wp2)
     refine bodyPost_ret (results_ct rfl _ _ gb490 30 #[.int .i64 0, .int .i64 0, .int .i64 0] (0, 0) _ rfl (by (with_reducible repeat (first | refine blk_drewN ?_ _ | refine blk_drew ?_ | refine blk_alloc ?_ _)); refine blk_put (cs := #[.int .i64 0, .int .i64 0, .int .i64 x491002_1]) ?_ 2 _ rfl; (with_reducible repeat (first | refine blk_drewN ?_ _ | refine blk_drew ?_ | refine blk_alloc ?_ _)); refine blk_put (cs := #[.int .i64 0, .int .i64 x491001_1, .int .i64 x491002_1]) ?_ 1 _ rfl; (with_reducible repeat (first | refine blk_drewN ?_ _ | refine blk_drew ?_ | refine blk_alloc ?_ _)); refine blk_put (cs := #[.int .i64 x491000_1, .int .i64 x491001_1, .int .i64 x491002_1]) ?_ 0 _ rfl; (with_reducible repeat (first | refine blk_drewN ?_ _ | refine blk_drew ?_ | refine blk_alloc ?_ _)); exact BK490.out) Try.underlying30 rfl (by kernel_rfl)) rfl ?_
     exact ⟨er_, hb_⟩

end Go.Proofs.Ytpaecckpdaiogaa.Q
