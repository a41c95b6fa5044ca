/- Plain Lean functions of Go functions, and for each the proof that its call comes to just that answer. Conditions: in each theorem's statement. -/
import Derived.Test.YtcmdjbaehecicaaQx0
import Derived.Test.YtcmdjbaehecicaaQx1
import Derived.Test.YtcmdjbaehecicaaQx6
import Derived.Test.YtcmdjbaehecicaaQx16
namespace Go.Proofs.Ytcmdjbaehecicaa.Q
open Go.RowKit Go.Proofs.YtcmdjbaehecicaaW.PrintWords Go.Proofs.YtcmdjbaehecicaaW.PrintLast
attribute [local go_sem] max2_int min2_int max_two min_two   -- for this text's walks alone
set_option linter.unusedVariables false
set_option linter.unusedSimpArgs false

/-! ### spec_ReadMaze: function 12 -/
mutual
def spec_ReadMaze.l0 : Nat → List ByteArray → Int → Int → Int → Int → Option (Int × Int × Int × Bool)
 | 0, _, _, _, _, _ => none
 | k + 1, x0, x5, x248000, x248001, x248002 => (spec_CountGaps.f x248000 x248001).bind fun t248 => (if x5 < t248 then ((spec_EndsOf.f x248000 x248001 x5).bind fun bt249 => (if x248000 = 0 then (none) else (if bt249.2 = (wrap64 (bt249.1 + 1)) then ((spec_l02East.f x248000 x248001).bind fun t251 => (spec_ReadMaze.j1 k x0 x5 (wrap64 ((wrap64 (2 * (wrap64 (Int.tdiv bt249.1 x248000)))) + 1)) (wrap64 ((wrap64 (2 * (Int.tmod bt249.1 x248000))) + 1)) (decide (x5 < t251)) x248000 x248001 x248002)) else (spec_ReadMaze.j1 k x0 x5 (wrap64 ((wrap64 (2 * (wrap64 (Int.tdiv bt249.1 x248000)))) + 1)) (wrap64 ((wrap64 (2 * (Int.tmod bt249.1 x248000))) + 1)) false x248000 x248001 x248002)))) else ((spec_MazeLines.f k x248000 x248001 x248002).bind fun t256 => (if (t256.length : Int) = (x0.length : Int) then (spec_ReadMaze.l1 k x0 t256 0 x248000 x248001 x248002) else (some (0, 0, 0, false)))))
def spec_ReadMaze.j1 : Nat → List ByteArray → Int → Int → Int → Bool → Int → Int → Int → Option (Int × Int × Int × Bool)
 | 0, _, _, _, _, _, _, _, _ => none
 | k + 1, x0, x5, x8, x9, x64, x248000, x248001, x248002 => if x64 = true then (if x8 < (x0.length : Int) then (if 0 ≤ x8 then (if (wrap64 (x9 + 1)) < ((rdOf ByteArray.empty x0 x8).size : Int) then (if 0 ≤ (wrap64 (x9 + 1)) then (if (bt (rdOf ByteArray.empty x0 x8) (wrap64 (x9 + 1))) = 32 then (if 0 ≤ x5 then (spec_ReadMaze.l0 k x0 (wrap64 (x5 + 1)) x248000 x248001 (Go.bits .or .i64 x248002 (shl .i64 1 x5))) else (none)) else (spec_ReadMaze.l0 k x0 (wrap64 (x5 + 1)) x248000 x248001 x248002)) else (none)) else (spec_ReadMaze.l0 k x0 (wrap64 (x5 + 1)) x248000 x248001 x248002)) else (none)) else (spec_ReadMaze.l0 k x0 (wrap64 (x5 + 1)) x248000 x248001 x248002)) else (if (wrap64 (x8 + 1)) < (x0.length : Int) then (if 0 ≤ (wrap64 (x8 + 1)) then (if x9 < ((rdOf ByteArray.empty x0 (wrap64 (x8 + 1))).size : Int) then (if 0 ≤ x9 then (if (bt (rdOf ByteArray.empty x0 (wrap64 (x8 + 1))) x9) = 32 then (if 0 ≤ x5 then (spec_ReadMaze.l0 k x0 (wrap64 (x5 + 1)) x248000 x248001 (Go.bits .or .i64 x248002 (shl .i64 1 x5))) else (none)) else (spec_ReadMaze.l0 k x0 (wrap64 (x5 + 1)) x248000 x248001 x248002)) else (none)) else (spec_ReadMaze.l0 k x0 (wrap64 (x5 + 1)) x248000 x248001 x248002)) else (none)) else (spec_ReadMaze.l0 k x0 (wrap64 (x5 + 1)) x248000 x248001 x248002))
def spec_ReadMaze.l1 : Nat → List ByteArray → List ByteArray → Int → Int → Int → Int → Option (Int × Int × Int × Bool)
 | 0, _, _, _, _, _, _ => none
 | k + 1, x0, x10, x11, x248000, x248001, x248002 => if x11 < (x10.length : Int) then (if 0 ≤ x11 then (if x11 < (x0.length : Int) then (if (rdOf ByteArray.empty x10 x11).toList = (rdOf ByteArray.empty x0 x11).toList then (spec_ReadMaze.l1 k x0 x10 (wrap64 (x11 + 1)) x248000 x248001 x248002) else (some (0, 0, 0, false))) else (none)) else (none)) else (some (x248000, x248001, x248002, true))
end
def spec_ReadMaze.f (k : Nat) (l0 : List ByteArray) : Option (Int × Int × Int × Bool) := if (l0.length : Int) = 0 then (some (0, 0, 0, false)) else (if 0 < (l0.length : Int) then (spec_ReadMaze.l0 k l0 0 (wrap64 (((rdOf ByteArray.empty l0 0).size : Int) / 2)) (wrap64 ((l0.length : Int) / 2)) 0) else (none))
theorem spec_ReadMaze.mono_l : ∀ k, (∀ y0 y1 y2 y3 y4, LeO (spec_ReadMaze.l0 k y0 y1 y2 y3 y4) (spec_ReadMaze.l0 (k + 1) y0 y1 y2 y3 y4)) ∧ (∀ y0 y1 y2 y3 y4 y5 y6 y7, LeO (spec_ReadMaze.j1 k y0 y1 y2 y3 y4 y5 y6 y7) (spec_ReadMaze.j1 (k + 1) y0 y1 y2 y3 y4 y5 y6 y7)) ∧ (∀ y0 y1 y2 y3 y4 y5, LeO (spec_ReadMaze.l1 k y0 y1 y2 y3 y4 y5) (spec_ReadMaze.l1 (k + 1) y0 y1 y2 y3 y4 y5))
 | 0 => ⟨fun _ _ _ _ _ r h => by simp [spec_ReadMaze.l0] at h, fun _ _ _ _ _ _ _ _ r h => by simp [spec_ReadMaze.j1] at h, fun _ _ _ _ _ _ r h => by simp [spec_ReadMaze.l1] at h⟩
 | k + 1 => by
  obtain ⟨ih0, ih1, ih2⟩ := spec_ReadMaze.mono_l k
  refine ⟨?_, ?_, ?_⟩
  ·intro y0 y1 y2 y3 y4
   unfold spec_ReadMaze.l0
   repeat' first
   | (with_reducible exact ih0 _ _ _ _ _)
   | (with_reducible exact ih1 _ _ _ _ _ _ _ _)
   | (with_reducible exact ih2 _ _ _ _ _ _)
   | (with_reducible exact spec_MazeLines.mono _ _ _ _)
   | (with_reducible exact LeO.refl _)
   | (with_reducible exact LeO.none _)
   | (with_reducible refine LeO.ite ?_ ?_)
   | (with_reducible refine LeO.bind ?_ (fun _ => ?_))
   | exact ih0 _ _ _ _ _
   | exact ih1 _ _ _ _ _ _ _ _
   | exact ih2 _ _ _ _ _ _
   | exact spec_MazeLines.mono _ _ _ _
   | exact LeO.none _
   | refine LeO.ite ?_ ?_
   | refine LeO.bind ?_ (fun _ => ?_)
  ·intro y0 y1 y2 y3 y4 y5 y6 y7
   unfold spec_ReadMaze.j1
   repeat' first
   | (with_reducible exact ih0 _ _ _ _ _)
   | (with_reducible exact ih1 _ _ _ _ _ _ _ _)
   | (with_reducible exact ih2 _ _ _ _ _ _)
   | (with_reducible exact spec_MazeLines.mono _ _ _ _)
   | (with_reducible exact LeO.refl _)
   | (with_reducible exact LeO.none _)
   | (with_reducible refine LeO.ite ?_ ?_)
   | (with_reducible refine LeO.bind ?_ (fun _ => ?_))
   | exact ih0 _ _ _ _ _
   | exact ih1 _ _ _ _ _ _ _ _
   | exact ih2 _ _ _ _ _ _
   | exact spec_MazeLines.mono _ _ _ _
   | exact LeO.none _
   | refine LeO.ite ?_ ?_
   | refine LeO.bind ?_ (fun _ => ?_)
  ·intro y0 y1 y2 y3 y4 y5
   unfold spec_ReadMaze.l1
   repeat' first
   | (with_reducible exact ih0 _ _ _ _ _)
   | (with_reducible exact ih1 _ _ _ _ _ _ _ _)
   | (with_reducible exact ih2 _ _ _ _ _ _)
   | (with_reducible exact spec_MazeLines.mono _ _ _ _)
   | (with_reducible exact LeO.refl _)
   | (with_reducible exact LeO.none _)
   | (with_reducible refine LeO.ite ?_ ?_)
   | (with_reducible refine LeO.bind ?_ (fun _ => ?_))
   | exact ih0 _ _ _ _ _
   | exact ih1 _ _ _ _ _ _ _ _
   | exact ih2 _ _ _ _ _ _
   | exact spec_MazeLines.mono _ _ _ _
   | exact LeO.none _
   | refine LeO.ite ?_ ?_
   | refine LeO.bind ?_ (fun _ => ?_)
theorem spec_ReadMaze.mono : ∀ a0 k, LeO (spec_ReadMaze.f k a0) (spec_ReadMaze.f (k + 1) a0) := by
 intro a0 k
 obtain ⟨ih0, ih1, ih2⟩ := spec_ReadMaze.mono_l k
 unfold spec_ReadMaze.f
 repeat' first
   | (with_reducible exact ih0 _ _ _ _ _)
   | (with_reducible exact ih1 _ _ _ _ _ _ _ _)
   | (with_reducible exact ih2 _ _ _ _ _ _)
   | (with_reducible exact spec_MazeLines.mono _ _ _ _)
   | (with_reducible exact LeO.refl _)
   | (with_reducible exact LeO.none _)
   | (with_reducible refine LeO.ite ?_ ?_)
   | (with_reducible refine LeO.bind ?_ (fun _ => ?_))
   | exact ih0 _ _ _ _ _
   | exact ih1 _ _ _ _ _ _ _ _
   | exact ih2 _ _ _ _ _ _
   | exact spec_MazeLines.mono _ _ _ _
   | exact LeO.none _
   | refine LeO.ite ?_ ?_
   | refine LeO.bind ?_ (fun _ => ?_)
def spec_ReadMaze.T21 : Bool × List (List Nat × List Nat) := (true, [([], []), ([], []), ([0, 1], [0, 1]), ([2], [2]), ([], []), ([], []), ([4, 5], [4, 5]), ([6], [6]), ([3, 7], [3, 7])])
def spec_ReadMaze.B21 : List Nat := [0, 0, 3, 7, 0, 0, 48, 112, 255]
theorem spec_ReadMaze.tab21 : rtab .any (opsOf Try.f12 21) = spec_ReadMaze.T21 := by kernel_rfl
theorem spec_ReadMaze.bits21 : waitsOk spec_ReadMaze.T21.2 spec_ReadMaze.B21 = true := by kernel_rfl
set_option maxHeartbeats 8000000 in
set_option maxRecDepth 100000 in
theorem spec_ReadMaze.calls (k : Nat) (A0 : Option Addr) (c0 : Nat) (l0 : List ByteArray) (r1 : Int) (r2 : Int) (r3 : Int) (r4 : Bool) (w : World) (hr0 : Kd.C Kd.string w A0 l0.length l0) (hc0 : l0.length ≤ c0) (h : spec_ReadMaze.f k l0 = some (r1, r2, r3, r4)) :
  Calls Try.prog 12 #[.slice A0 l0.length c0] w fun e w' => e = .returned (.tuple #[.agg #[.int .i64 r1, .int .i64 r2, .int .i64 r3], .bool r4]) ∧ Below w.heap.size w w' := by
 have hu30 := Try.underlying30
 have hu28 := Try.underlying28
 have HR0 := Aside0.mk hr0
 have HC0 := Aside0.mk hc0
 clear hr0 hc0
 have HB := Aside0.mk (Below.refl w.heap.size w)
 have H : (if (l0.length : Int) = 0 then (some (0, 0, 0, false)) else (if 0 < (l0.length : Int) then (spec_ReadMaze.l0 k l0 0 (wrap64 (((rdOf ByteArray.empty l0 0).size : Int) / 2)) (wrap64 ((l0.length : Int) / 2)) 0) else (none))) = some (r1, r2, r3, r4) := h
 clear h
 by_cases c2 : (l0.length : Int) = 0
 ·rw [if_pos c2] at H
  have c2b0 : ((l0.length : Int) == 0) = true := beq_iff_eq.mpr c2
  have c2b1 : ((l0.length : Int) != 0) = false := bne_eq_false_iff_eq.mpr c2
  clear c2
  simp only [Option.some.injEq, Prod.mk.injEq] at H
  obtain ⟨rfl, rfl, rfl, rfl⟩ := H
  go_enter Try.func12, Try.ntmps12
  go_wp2_with (first | ((with_reducible refine gate_dst (N := 2) rfl ?_); (try (refine gate_guard (by rfl) ?_; dsimp only)); refine box_event ?hg (N := 2) ?hd (cs := #[.int .i64 0, .int .i64 0, .int .i64 0]) (t := 30) ?hr ?_; (case hd => rfl); (case hg => rfl); (case hr => first | (go_simp; done) | (go_simp; rfl)); intro gb245 hg w3 hbox hb; have n0_ := Aside0.mk (below_step hb_ hb); have n1_ := Aside0.mk (hbox); have n2_ := Aside0.mk ((by rw [hg]; exact (below_size hb_) : w.heap.size ≤ gb245)); have n3_ := Aside0.mk ((by rw [hg]; exact (below_size hb_) : w.heap.size ≤ gb245)); clear HB; have HB := n0_; have BK245 := n1_; have GW245 := n2_; have GE245 := n3_; clear n0_ n1_ n2_ n3_; clear hb hbox hg; have hcz4_0 := cz_ (.int .i64 0) BK245.out 0; have hcz4_1 := cz_ (.int .i64 0) BK245.out 1; have hcz4_2 := cz_ (.int .i64 0) BK245.out 2; have hfz4_0 := blk_frozen BK245.out 0; have hfz4_1 := blk_frozen BK245.out 1; have hfz4_2 := blk_frozen BK245.out 2))
  try (have hq245_0 : _ = some (.int .i64 0) := (blk_cell BK245.out 0).trans rfl; have hqf245_0 := blk_frozen BK245.out 0; have hq245_1 : _ = some (.int .i64 0) := (blk_cell BK245.out 1).trans rfl; have hqf245_1 := blk_frozen BK245.out 1; have hq245_2 : _ = some (.int .i64 0) := (blk_cell BK245.out 2).trans rfl; have hqf245_2 := blk_frozen BK245.out 2; go_wp2)
  refine bodyPost_ret (results_ct rfl _ _ gb245 30 #[.int .i64 0, .int .i64 0, .int .i64 0] (0, 0) _ rfl (by (with_reducible repeat (first | refine blk_drewN ?_ _ | refine blk_drew ?_ | refine blk_alloc ?_ _)); refine blk_put (cs := #[.int .i64 0, .int .i64 0, .int .i64 0]) ?_ 2 _ rfl; (with_reducible repeat (first | refine blk_drewN ?_ _ | refine blk_drew ?_ | refine blk_alloc ?_ _)); refine blk_put (cs := #[.int .i64 0, .int .i64 0, .int .i64 0]) ?_ 1 _ rfl; (with_reducible repeat (first | refine blk_drewN ?_ _ | refine blk_drew ?_ | refine blk_alloc ?_ _)); refine blk_put (cs := #[.int .i64 0, .int .i64 0, .int .i64 0]) ?_ 0 _ rfl; (with_reducible repeat (first | refine blk_drewN ?_ _ | refine blk_drew ?_ | refine blk_alloc ?_ _)); exact BK245.out) Try.underlying30 rfl (by kernel_rfl)) rfl ?_
  exact ⟨er_, hb_⟩
 ·rw [if_neg c2] at H
  have c2b0 : ((l0.length : Int) == 0) = false := beq_eq_false_iff_ne.mpr c2
  have c2b1 : ((l0.length : Int) != 0) = true := bne_iff_ne.mpr c2
  have c2b2 : ¬ (l0 = []) := fun h_ => c2 (by rw [h_]; rfl)
  by_cases c5 : 0 < (l0.length : Int)
  ·rw [if_pos c5] at H
   have c5b0 : decide (0 < (l0.length : Int)) = true := decide_eq_true c5
   have c5b1 : decide (0 < l0.length) = true := decide_eq_true (by omega)
   clear c5
   have H' := Aside0.mk H
   clear H
   go_enter Try.func12, Try.ntmps12
   go_wp2_with (first | ((with_reducible refine gate_dst (N := 2) rfl ?_); (try (refine gate_guard (by rfl) ?_; dsimp only)); refine box_event ?hg (N := 2) ?hd (cs := #[.int .i64 0, .int .i64 0, .int .i64 0]) (t := 30) ?hr ?_; (case hd => rfl); (case hg => rfl); (case hr => first | (go_simp; done) | (go_simp; rfl)); intro gb245 hg w6 hbox hb; have n0_ := Aside0.mk (below_step hb_ hb); have n1_ := Aside0.mk (hbox); have n2_ := Aside0.mk ((by rw [hg]; exact (below_size hb_) : w.heap.size ≤ gb245)); have n3_ := Aside0.mk ((by rw [hg]; exact (below_size hb_) : w.heap.size ≤ gb245)); clear HB; have HB := n0_; have BK245 := n1_; have GW245 := n2_; have GE245 := n3_; clear n0_ n1_ n2_ n3_; clear hb hbox hg; have p246 : 0 ≤ (0 : Int) := (by omega); have q246 : 0 < (l0.length : Int) := of_decide_eq_true (by first | (with_reducible assumption) | assumption); obtain ⟨ad246, e246, hx246_0⟩ := Kd.at_string HR0.out 0 p246 q246; cases e246; have qi246 : (0 < l0.length) = True := eq_true (by omega); (try rw [show ((0 : Int)).toNat = 0 from rfl] at hx246_0); (try rw [Addr.add_zero'] at hx246_0); replace hx246_0 := (HB.out.cell (World.block_lt_of_cell? w _ hx246_0)).trans hx246_0; replace p246 := eq_true p246; replace q246 := eq_true q246) | ((with_reducible refine gate_dst (N := 4) rfl ?_); (try (refine gate_guard (by rfl) ?_; dsimp only)); refine box_event ?hg (N := 4) ?hd (cs := #[.int .i64 0, .int .i64 0, .int .i64 0]) (t := 30) ?hr ?_; (case hd => rfl); (case hg => rfl); (case hr => first | (go_simp; done) | (go_simp; rfl)); intro gb247 hg w7 hbox hb; have n0_ := Aside0.mk (blk_below (g := gb245) (o := .cells #[.int .i64 0, .int .i64 0, .int .i64 0] 30 (0, 0)) (kb_ BK245.out) hb); have n1_ := Aside0.mk (below_step hb_ hb); have n2_ := Aside0.mk (hbox); have n3_ := Aside0.mk ((by rw [hg]; exact (below_size hb_) : w.heap.size ≤ gb247)); have n4_ := Aside0.mk ((by rw [hg]; exact (below_size hb_) : w.heap.size ≤ gb247)); have n5_ := Aside0.mk ((by rw [hg]; exact Nat.ne_of_lt (blk_lt (g := gb245) (o := .cells #[.int .i64 0, .int .i64 0, .int .i64 0] 30 (0, 0)) (kb_ BK245.out)) : gb245 ≠ gb247)); have n6_ := Aside0.mk ((by rw [hg]; exact Nat.ne_of_gt (blk_lt (g := gb245) (o := .cells #[.int .i64 0, .int .i64 0, .int .i64 0] 30 (0, 0)) (kb_ BK245.out)) : gb247 ≠ gb245)); clear BK245; clear HB; have BK245 := n0_; have HB := n1_; have BK247 := n2_; have GW247 := n3_; have GE247 := n4_; have NB245_247 := n5_; have NB247_245 := n6_; clear n0_ n1_ n2_ n3_ n4_ n5_ n6_; clear hb hbox hg; have hnb8 := NB247_245.out; have hnc8 := NB245_247.out; have hcz9_0 := cz_ (.int .i64 0) BK247.out 0; have hcz9_1 := cz_ (.int .i64 0) BK247.out 1; have hcz9_2 := cz_ (.int .i64 0) BK247.out 2; have hfz9_0 := blk_frozen BK247.out 0; have hfz9_1 := blk_frozen BK247.out 1; have hfz9_2 := blk_frozen BK247.out 2))
   go_loopg [5] k (fun kq v5 w' => ∃ (x5_1 : Int) (x248002_1 : Int), v5 = .int .i64 x5_1 ∧ Aside0 (spec_ReadMaze.l0 kq l0 x5_1 (wrap64 (((rdOf ByteArray.empty l0 0).size : Int) / 2)) (wrap64 ((l0.length : Int) / 2)) x248002_1 = some (r1, r2, r3, r4)) ∧ Aside0 (kq ≤ k) ∧ Aside0 (w'.heap[gb245]? = some (.cells #[.int .i64 0, .int .i64 0, .int .i64 0] 30 (0, 0))) ∧ Aside0 (w'.heap[gb247]? = some (.cells #[.int .i64 (wrap64 (((rdOf ByteArray.empty l0 0).size : Int) / 2)), .int .i64 (wrap64 ((l0.length : Int) / 2)), .int .i64 x248002_1] 30 (0, 0))) ∧ Aside0 (Below w.heap.size w w'))
   case atStart => exact ⟨(0), (0), (by first | rfl | (simp; done) | (simp [*]; done)), H', ⟨Nat.le_refl _⟩, ⟨by (with_reducible repeat (first | refine blk_drewN ?_ _ | refine blk_drew ?_ | refine blk_alloc ?_ _)); refine blk_far ?_ NB245_247.out _; (with_reducible repeat (first | refine blk_drewN ?_ _ | refine blk_drew ?_ | refine blk_alloc ?_ _)); refine blk_far ?_ NB245_247.out _; (with_reducible repeat (first | refine blk_drewN ?_ _ | refine blk_drew ?_ | refine blk_alloc ?_ _)); refine blk_far ?_ NB245_247.out _; (with_reducible repeat (first | refine blk_drewN ?_ _ | refine blk_drew ?_ | refine blk_alloc ?_ _)); exact BK245.out⟩, ⟨by (with_reducible repeat (first | refine blk_drewN ?_ _ | refine blk_drew ?_ | refine blk_alloc ?_ _)); refine blk_put (cs := #[.int .i64 (wrap64 (((rdOf ByteArray.empty l0 0).size : Int) / 2)), .int .i64 (wrap64 ((l0.length : Int) / 2)), .int .i64 0]) ?_ 2 _ rfl; (with_reducible repeat (first | refine blk_drewN ?_ _ | refine blk_drew ?_ | refine blk_alloc ?_ _)); refine blk_put (cs := #[.int .i64 (wrap64 (((rdOf ByteArray.empty l0 0).size : Int) / 2)), .int .i64 0, .int .i64 0]) ?_ 1 _ rfl; (with_reducible repeat (first | refine blk_drewN ?_ _ | refine blk_drew ?_ | refine blk_alloc ?_ _)); refine blk_put (cs := #[.int .i64 0, .int .i64 0, .int .i64 0]) ?_ 0 _ rfl; (with_reducible repeat (first | refine blk_drewN ?_ _ | refine blk_drew ?_ | refine blk_alloc ?_ _)); exact BK247.out⟩, ⟨hb_⟩⟩
   case round =>
    clear H'
    try clear c1
    try clear c2
    try clear c2b0
    try clear c2b1
    try clear c2b2
    try clear p2
    try clear q2
    try clear hx2
    try clear qi2
    try clear c5
    try clear c5b0
    try clear c5b1
    try clear p6
    try clear c8
    try clear hcz4_0
    try clear hcz4_1
    try clear hcz4_2
    try clear hcz9_0
    try clear hcz9_1
    try clear hcz9_2
    try clear hfz4_0
    try clear hfz4_1
    try clear hfz4_2
    try clear hfz9_0
    try clear hfz9_1
    try clear hfz9_2
    try clear hx246_0
    try clear p246
    try clear q246
    obtain ⟨x5_1, x248002_1, rfl, HA, HK1, BK245, BK247, HB⟩ := hrel
    cases gk with
    | zero => exact absurd HA.out (by simp [spec_ReadMaze.l0])
    | succ k1 =>
     have H := HA.out
     clear HA
     simp only [spec_ReadMaze.l0] at H
     replace H := Option.bind_eq_some_iff.mp H
     obtain ⟨t248, A100, H⟩ := H
     replace H : (if x5_1 < t248 then ((spec_EndsOf.f (wrap64 (((rdOf ByteArray.empty l0 0).size : Int) / 2)) (wrap64 ((l0.length : Int) / 2)) x5_1).bind fun bt249 => (if (wrap64 (((rdOf ByteArray.empty l0 0).size : Int) / 2)) = 0 then (none) else (if bt249.2 = (wrap64 (bt249.1 + 1)) then ((spec_l02East.f (wrap64 (((rdOf ByteArray.empty l0 0).size : Int) / 2)) (wrap64 ((l0.length : Int) / 2))).bind fun t251 => (spec_ReadMaze.j1 k1 l0 x5_1 (wrap64 ((wrap64 (2 * (wrap64 (Int.tdiv bt249.1 (wrap64 (((rdOf ByteArray.empty l0 0).size : Int) / 2)))))) + 1)) (wrap64 ((wrap64 (2 * (Int.tmod bt249.1 (wrap64 (((rdOf ByteArray.empty l0 0).size : Int) / 2))))) + 1)) (decide (x5_1 < t251)) (wrap64 (((rdOf ByteArray.empty l0 0).size : Int) / 2)) (wrap64 ((l0.length : Int) / 2)) x248002_1)) else (spec_ReadMaze.j1 k1 l0 x5_1 (wrap64 ((wrap64 (2 * (wrap64 (Int.tdiv bt249.1 (wrap64 (((rdOf ByteArray.empty l0 0).size : Int) / 2)))))) + 1)) (wrap64 ((wrap64 (2 * (Int.tmod bt249.1 (wrap64 (((rdOf ByteArray.empty l0 0).size : Int) / 2))))) + 1)) false (wrap64 (((rdOf ByteArray.empty l0 0).size : Int) / 2)) (wrap64 ((l0.length : Int) / 2)) x248002_1)))) else ((spec_MazeLines.f k1 (wrap64 (((rdOf ByteArray.empty l0 0).size : Int) / 2)) (wrap64 ((l0.length : Int) / 2)) x248002_1).bind fun t256 => (if (t256.length : Int) = (l0.length : Int) then (spec_ReadMaze.l1 k1 l0 t256 0 (wrap64 (((rdOf ByteArray.empty l0 0).size : Int) / 2)) (wrap64 ((l0.length : Int) / 2)) x248002_1) else (some (0, 0, 0, false))))) = some (r1, r2, r3, r4) := H
     have A10 := Aside0.mk A100
     clear A100
     by_cases c11 : x5_1 < t248
     ·rw [if_pos c11] at H
      have c11b0 : decide (x5_1 < t248) = true := decide_eq_true c11
      clear c11
      replace H := Option.bind_eq_some_iff.mp H
      obtain ⟨⟨t249, t250⟩, A120, H⟩ := H
      replace H : (if (wrap64 (((rdOf ByteArray.empty l0 0).size : Int) / 2)) = 0 then (none) else (if t250 = (wrap64 (t249 + 1)) then ((spec_l02East.f (wrap64 (((rdOf ByteArray.empty l0 0).size : Int) / 2)) (wrap64 ((l0.length : Int) / 2))).bind fun t251 => (spec_ReadMaze.j1 k1 l0 x5_1 (wrap64 ((wrap64 (2 * (wrap64 (Int.tdiv t249 (wrap64 (((rdOf ByteArray.empty l0 0).size : Int) / 2)))))) + 1)) (wrap64 ((wrap64 (2 * (Int.tmod t249 (wrap64 (((rdOf ByteArray.empty l0 0).size : Int) / 2))))) + 1)) (decide (x5_1 < t251)) (wrap64 (((rdOf ByteArray.empty l0 0).size : Int) / 2)) (wrap64 ((l0.length : Int) / 2)) x248002_1)) else (spec_ReadMaze.j1 k1 l0 x5_1 (wrap64 ((wrap64 (2 * (wrap64 (Int.tdiv t249 (wrap64 (((rdOf ByteArray.empty l0 0).size : Int) / 2)))))) + 1)) (wrap64 ((wrap64 (2 * (Int.tmod t249 (wrap64 (((rdOf ByteArray.empty l0 0).size : Int) / 2))))) + 1)) false (wrap64 (((rdOf ByteArray.empty l0 0).size : Int) / 2)) (wrap64 ((l0.length : Int) / 2)) x248002_1))) = some (r1, r2, r3, r4) := H
      have A12 := Aside0.mk A120
      clear A120
      by_cases c13 : (wrap64 (((rdOf ByteArray.empty l0 0).size : Int) / 2)) = 0
      ·rw [if_pos c13] at H
       exact absurd H (by simp)
      ·rw [if_neg c13] at H
       have c13b0 : ((wrap64 (((rdOf ByteArray.empty l0 0).size : Int) / 2)) == 0) = false := beq_eq_false_iff_ne.mpr c13
       have c13b1 : ((wrap64 (((rdOf ByteArray.empty l0 0).size : Int) / 2)) != 0) = true := bne_iff_ne.mpr c13
       have HC14 := Aside0.mk H
       clear H
       have hnb15 := NB247_245.out
       have hnc15 := NB245_247.out
       have hcz16_0 : wr.cell? ⟨gb247, 0, none⟩ = some (.int .i64 (wrap64 (((rdOf ByteArray.empty l0 0).size : Int) / 2))) := (blk_cell BK247.out 0).trans rfl
       have hcz16_1 : wr.cell? ⟨gb247, 1, none⟩ = some (.int .i64 (wrap64 ((l0.length : Int) / 2))) := (blk_cell BK247.out 1).trans rfl
       have hcz16_2 : wr.cell? ⟨gb247, 2, none⟩ = some (.int .i64 x248002_1) := (blk_cell BK247.out 2).trans rfl
       have hfz16_0 := blk_frozen BK247.out 0
       have hfz16_1 := blk_frozen BK247.out 1
       have hfz16_2 := blk_frozen BK247.out 2
       go_upto_region 10 with (first | ((with_reducible refine gate_callee (f := 26) rfl ?_); refine goesL_ (some 29) rfl rfl Try.func26 (by kernel_rfl) rfl #[.agg #[.int .i64 (wrap64 (((rdOf ByteArray.empty l0 0).size : Int) / 2)), .int .i64 (wrap64 ((l0.length : Int) / 2))]] rfl mp_ ?_; (with_reducible refine (spec_CountGaps.calls (wrap64 (((rdOf ByteArray.empty l0 0).size : Int) / 2)) (wrap64 ((l0.length : Int) / 2)) t248 _ A10.out).mono ?_); rintro e w17 ⟨rfl, hb⟩; refine ⟨_, rfl, ?_⟩; have n0_ := Aside0.mk (blk_below (g := gb245) (o := .cells #[.int .i64 0, .int .i64 0, .int .i64 0] 30 (0, 0)) (kb_ BK245.out) hb); have n1_ := Aside0.mk (blk_below (g := gb247) (o := .cells #[.int .i64 (wrap64 (((rdOf ByteArray.empty l0 0).size : Int) / 2)), .int .i64 (wrap64 ((l0.length : Int) / 2)), .int .i64 x248002_1] 30 (0, 0)) (kb_ BK247.out) hb); have n2_ := Aside0.mk (below_step hb_ hb); clear BK245; clear BK247; clear HB; have BK245 := n0_; have BK247 := n1_; have HB := n2_; clear n0_ n1_ n2_; (try clear hb); (try clear hb2); (try clear hk); (try clear hi); have hcz18_0 : w17.cell? ⟨gb247, 0, none⟩ = some (.int .i64 (wrap64 (((rdOf ByteArray.empty l0 0).size : Int) / 2))) := (blk_cell BK247.out 0).trans rfl; have hcz18_1 : w17.cell? ⟨gb247, 1, none⟩ = some (.int .i64 (wrap64 ((l0.length : Int) / 2))) := (blk_cell BK247.out 1).trans rfl; have hcz18_2 := cz_ (.int .i64 x248002_1) BK247.out 2; have hfz18_0 := blk_frozen BK247.out 0; have hfz18_1 := blk_frozen BK247.out 1; have hfz18_2 := blk_frozen BK247.out 2) | ((with_reducible refine gate_callee (f := 27) rfl ?_); refine goesL_ (some 37) rfl rfl Try.func27 (by kernel_rfl) rfl #[.agg #[.int .i64 (wrap64 (((rdOf ByteArray.empty l0 0).size : Int) / 2)), .int .i64 (wrap64 ((l0.length : Int) / 2))], .int .i64 x5_1] rfl mp_ ?_; (with_reducible refine (spec_EndsOf.calls (wrap64 (((rdOf ByteArray.empty l0 0).size : Int) / 2)) (wrap64 ((l0.length : Int) / 2)) x5_1 t249 t250 _ A12.out).mono ?_); rintro e w19 ⟨rfl, hb⟩; refine ⟨_, rfl, ?_⟩; have n0_ := Aside0.mk (blk_below (g := gb245) (o := .cells #[.int .i64 0, .int .i64 0, .int .i64 0] 30 (0, 0)) (kb_ BK245.out) hb); have n1_ := Aside0.mk (blk_below (g := gb247) (o := .cells #[.int .i64 (wrap64 (((rdOf ByteArray.empty l0 0).size : Int) / 2)), .int .i64 (wrap64 ((l0.length : Int) / 2)), .int .i64 x248002_1] 30 (0, 0)) (kb_ BK247.out) hb); have n2_ := Aside0.mk (below_step hb_ hb); clear BK245; clear BK247; clear HB; have BK245 := n0_; have BK247 := n1_; have HB := n2_; clear n0_ n1_ n2_; (try clear hb); (try clear hb2); (try clear hk); (try clear hi); have hcz20_0 : w19.cell? ⟨gb247, 0, none⟩ = some (.int .i64 (wrap64 (((rdOf ByteArray.empty l0 0).size : Int) / 2))) := (blk_cell BK247.out 0).trans rfl; have hcz20_1 : w19.cell? ⟨gb247, 1, none⟩ = some (.int .i64 (wrap64 ((l0.length : Int) / 2))) := (blk_cell BK247.out 1).trans rfl; have hcz20_2 := cz_ (.int .i64 x248002_1) BK247.out 2; have hfz20_0 := blk_frozen BK247.out 0; have hfz20_1 := blk_frozen BK247.out 1; have hfz20_2 := blk_frozen BK247.out 2))
       (try simp only [Act.put, List.setIfInBounds_toArray, List.set_cons_zero, List.set_cons_succ])
       go_cut [64] (fun v64 wc => ∃ (kq : Nat) (x64_13 : Bool), v64 = .bool x64_13 ∧ Aside0 (spec_ReadMaze.j1 kq l0 x5_1 (wrap64 ((wrap64 (2 * (wrap64 (Int.tdiv t249 (wrap64 (((rdOf ByteArray.empty l0 0).size : Int) / 2)))))) + 1)) (wrap64 ((wrap64 (2 * (Int.tmod t249 (wrap64 (((rdOf ByteArray.empty l0 0).size : Int) / 2))))) + 1)) x64_13 (wrap64 (((rdOf ByteArray.empty l0 0).size : Int) / 2)) (wrap64 ((l0.length : Int) / 2)) x248002_1 = some (r1, r2, r3, r4)) ∧ Aside0 (kq ≤ k1) ∧ Aside0 (wc.heap[gb245]? = some (.cells #[.int .i64 0, .int .i64 0, .int .i64 0] 30 (0, 0))) ∧ Aside0 (wc.heap[gb247]? = some (.cells #[.int .i64 (wrap64 (((rdOf ByteArray.empty l0 0).size : Int) / 2)), .int .i64 (wrap64 ((l0.length : Int) / 2)), .int .i64 x248002_1] 30 (0, 0))) ∧ Aside0 (Below w.heap.size w wc))
       case first =>
        have H := HC14.out
        clear HC14
        by_cases c21 : t250 = (wrap64 (t249 + 1))
        ·rw [if_pos c21] at H
         have c21b0 : (t250 == (wrap64 (t249 + 1))) = true := beq_iff_eq.mpr c21
         have c21b1 : (t250 != (wrap64 (t249 + 1))) = false := bne_eq_false_iff_eq.mpr c21
         clear c21
         (first | rw [c21b0] | (simp only [i64_w, i32_w]; rw [c21b0]) | skip)
         replace H := Option.bind_eq_some_iff.mp H
         obtain ⟨t251, A220, H⟩ := H
         replace H : (spec_ReadMaze.j1 k1 l0 x5_1 (wrap64 ((wrap64 (2 * (wrap64 (Int.tdiv t249 (wrap64 (((rdOf ByteArray.empty l0 0).size : Int) / 2)))))) + 1)) (wrap64 ((wrap64 (2 * (Int.tmod t249 (wrap64 (((rdOf ByteArray.empty l0 0).size : Int) / 2))))) + 1)) (decide (x5_1 < t251)) (wrap64 (((rdOf ByteArray.empty l0 0).size : Int) / 2)) (wrap64 ((l0.length : Int) / 2)) x248002_1) = some (r1, r2, r3, r4) := H
         have A22 := Aside0.mk A220
         clear A220
         have H' := Aside0.mk H
         clear H
         have hnb23 := NB247_245.out
         have hnc23 := NB245_247.out
         have hcz24_0 : w19.cell? ⟨gb247, 0, none⟩ = some (.int .i64 (wrap64 (((rdOf ByteArray.empty l0 0).size : Int) / 2))) := (blk_cell BK247.out 0).trans rfl
         have hcz24_1 : w19.cell? ⟨gb247, 1, none⟩ = some (.int .i64 (wrap64 ((l0.length : Int) / 2))) := (blk_cell BK247.out 1).trans rfl
         have hcz24_2 := cz_ (.int .i64 x248002_1) BK247.out 2
         have hfz24_0 := blk_frozen BK247.out 0
         have hfz24_1 := blk_frozen BK247.out 1
         have hfz24_2 := blk_frozen BK247.out 2
         go_wp2_with (first | (go_at_call 28; (with_reducible refine (spec_l02East.calls (wrap64 (((rdOf ByteArray.empty l0 0).size : Int) / 2)) (wrap64 ((l0.length : Int) / 2)) t251 _ A22.out).mono ?_); rintro e w25 ⟨rfl, hb⟩; have n0_ := Aside0.mk (blk_below (g := gb245) (o := .cells #[.int .i64 0, .int .i64 0, .int .i64 0] 30 (0, 0)) (kb_ BK245.out) hb); have n1_ := Aside0.mk (blk_below (g := gb247) (o := .cells #[.int .i64 (wrap64 (((rdOf ByteArray.empty l0 0).size : Int) / 2)), .int .i64 (wrap64 ((l0.length : Int) / 2)), .int .i64 x248002_1] 30 (0, 0)) (kb_ BK247.out) hb); have n2_ := Aside0.mk (below_step hb_ hb); clear BK245; clear BK247; clear HB; have BK245 := n0_; have BK247 := n1_; have HB := n2_; clear n0_ n1_ n2_; (try clear hb); (try clear hb2); (try clear hk); (try clear hi)))
         go_meet
         case rel => exact ⟨_, (decide (x5_1 < t251)), (by first | rfl | (simp; done) | (simp [*]; done)), H', ⟨by have := HK1.out; first | omega | exact Nat.le_refl _⟩, ⟨kb_ BK245.out⟩, ⟨kb_ BK247.out⟩, ⟨hb_⟩⟩
        ·rw [if_neg c21] at H
         have c21b0 : (t250 == (wrap64 (t249 + 1))) = false := beq_eq_false_iff_ne.mpr c21
         have c21b1 : (t250 != (wrap64 (t249 + 1))) = true := bne_iff_ne.mpr c21
         (first | rw [c21b0] | (simp only [i64_w, i32_w]; rw [c21b0]) | skip)
         have H' := Aside0.mk H
         clear H
         go_wp2
         go_meet
         case rel => exact ⟨_, (false), (by first | rfl | (simp; done) | (simp [*]; done)), H', ⟨by have := HK1.out; first | omega | exact Nat.le_refl _⟩, ⟨kb_ BK245.out⟩, ⟨kb_ BK247.out⟩, ⟨hb_⟩⟩
       case rest =>
        clear HC14
        try clear c1
        try clear c2
        try clear c2b0
        try clear c2b1
        try clear c2b2
        try clear p2
        try clear q2
        try clear hx2
        try clear qi2
        try clear c5
        try clear c5b0
        try clear c5b1
        try clear p6
        try clear c8
        try clear c11
        try clear c11b0
        try clear c12
        try clear c13
        try clear c13b0
        try clear c13b1
        try clear c15
        try clear c21
        try clear c21b0
        try clear c21b1
        try clear c23
        try clear p24
        try clear q24
        try clear hx24
        try clear qi24
        try clear hcz16_0
        try clear hcz16_1
        try clear hcz16_2
        try clear hcz18_0
        try clear hcz18_1
        try clear hcz18_2
        try clear hcz20_0
        try clear hcz20_1
        try clear hcz20_2
        try clear hcz24_0
        try clear hcz24_1
        try clear hcz24_2
        try clear hcz4_0
        try clear hcz4_1
        try clear hcz4_2
        try clear hcz9_0
        try clear hcz9_1
        try clear hcz9_2
        try clear hfz16_0
        try clear hfz16_1
        try clear hfz16_2
        try clear hfz18_0
        try clear hfz18_1
        try clear hfz18_2
        try clear hfz20_0
        try clear hfz20_1
        try clear hfz20_2
        try clear hfz24_0
        try clear hfz24_1
        try clear hfz24_2
        try clear hfz4_0
        try clear hfz4_1
        try clear hfz4_2
        try clear hfz9_0
        try clear hfz9_1
        try clear hfz9_2
        try clear hx246_0
        try clear p2
        try clear p246
        try clear p6
        try clear q2
        try clear q246
        obtain ⟨kq, x64_13, rfl, HA, HJ13, BK245, BK247, HB⟩ := hcut
        cases kq with
        | zero => exact absurd HA.out (by simp [spec_ReadMaze.j1])
        | succ kj13 =>
         have H := HA.out
         clear HA
         simp only [spec_ReadMaze.j1] at H
         by_cases c26 : x64_13 = true
         ·subst c26
          have H1 : (if (wrap64 ((wrap64 (2 * (wrap64 (Int.tdiv t249 (wrap64 (((rdOf ByteArray.empty l0 0).size : Int) / 2)))))) + 1)) < (l0.length : Int) then (if 0 ≤ (wrap64 ((wrap64 (2 * (wrap64 (Int.tdiv t249 (wrap64 (((rdOf ByteArray.empty l0 0).size : Int) / 2)))))) + 1)) then (if (wrap64 ((wrap64 ((wrap64 (2 * (Int.tmod t249 (wrap64 (((rdOf ByteArray.empty l0 0).size : Int) / 2))))) + 1)) + 1)) < ((rdOf ByteArray.empty l0 (wrap64 ((wrap64 (2 * (wrap64 (Int.tdiv t249 (wrap64 (((rdOf ByteArray.empty l0 0).size : Int) / 2)))))) + 1))).size : Int) then (if 0 ≤ (wrap64 ((wrap64 ((wrap64 (2 * (Int.tmod t249 (wrap64 (((rdOf ByteArray.empty l0 0).size : Int) / 2))))) + 1)) + 1)) then (if (bt (rdOf ByteArray.empty l0 (wrap64 ((wrap64 (2 * (wrap64 (Int.tdiv t249 (wrap64 (((rdOf ByteArray.empty l0 0).size : Int) / 2)))))) + 1))) (wrap64 ((wrap64 ((wrap64 (2 * (Int.tmod t249 (wrap64 (((rdOf ByteArray.empty l0 0).size : Int) / 2))))) + 1)) + 1))) = 32 then (if 0 ≤ x5_1 then (spec_ReadMaze.l0 kj13 l0 (wrap64 (x5_1 + 1)) (wrap64 (((rdOf ByteArray.empty l0 0).size : Int) / 2)) (wrap64 ((l0.length : Int) / 2)) (Go.bits .or .i64 x248002_1 (shl .i64 1 x5_1))) else (none)) else (spec_ReadMaze.l0 kj13 l0 (wrap64 (x5_1 + 1)) (wrap64 (((rdOf ByteArray.empty l0 0).size : Int) / 2)) (wrap64 ((l0.length : Int) / 2)) x248002_1)) else (none)) else (spec_ReadMaze.l0 kj13 l0 (wrap64 (x5_1 + 1)) (wrap64 (((rdOf ByteArray.empty l0 0).size : Int) / 2)) (wrap64 ((l0.length : Int) / 2)) x248002_1)) else (none)) else (spec_ReadMaze.l0 kj13 l0 (wrap64 (x5_1 + 1)) (wrap64 (((rdOf ByteArray.empty l0 0).size : Int) / 2)) (wrap64 ((l0.length : Int) / 2)) x248002_1)) = some (r1, r2, r3, r4) := by rw [if_pos rfl] at H; exact H
          clear H
          have H := H1
          clear H1
          by_cases c27 : (wrap64 ((wrap64 (2 * (wrap64 (Int.tdiv t249 (wrap64 (((rdOf ByteArray.empty l0 0).size : Int) / 2)))))) + 1)) < (l0.length : Int)
          ·rw [if_pos c27] at H
           have c27b0 : decide ((wrap64 ((wrap64 (2 * (wrap64 (Int.tdiv t249 (wrap64 (((rdOf ByteArray.empty l0 0).size : Int) / 2)))))) + 1)) < (l0.length : Int)) = true := decide_eq_true c27
           clear c27
           obtain ⟨ji28, hji28⟩ : ∃ j_ : Int, (wrap64 ((wrap64 (2 * (wrap64 (Int.tdiv t249 (wrap64 (((rdOf ByteArray.empty l0 0).size : Int) / 2)))))) + 1)) = j_ := ⟨_, rfl⟩
           replace H : (if 0 ≤ (ji28) then (if (wrap64 ((wrap64 ((wrap64 (2 * (Int.tmod t249 (wrap64 (((rdOf ByteArray.empty l0 0).size : Int) / 2))))) + 1)) + 1)) < ((rdOf ByteArray.empty l0 (ji28)).size : Int) then (if 0 ≤ (wrap64 ((wrap64 ((wrap64 (2 * (Int.tmod t249 (wrap64 (((rdOf ByteArray.empty l0 0).size : Int) / 2))))) + 1)) + 1)) then (if (bt (rdOf ByteArray.empty l0 (ji28)) (wrap64 ((wrap64 ((wrap64 (2 * (Int.tmod t249 (wrap64 (((rdOf ByteArray.empty l0 0).size : Int) / 2))))) + 1)) + 1))) = 32 then (if 0 ≤ x5_1 then (spec_ReadMaze.l0 kj13 l0 (wrap64 (x5_1 + 1)) (wrap64 (((rdOf ByteArray.empty l0 0).size : Int) / 2)) (wrap64 ((l0.length : Int) / 2)) (Go.bits .or .i64 x248002_1 (shl .i64 1 x5_1))) else (none)) else (spec_ReadMaze.l0 kj13 l0 (wrap64 (x5_1 + 1)) (wrap64 (((rdOf ByteArray.empty l0 0).size : Int) / 2)) (wrap64 ((l0.length : Int) / 2)) x248002_1)) else (none)) else (spec_ReadMaze.l0 kj13 l0 (wrap64 (x5_1 + 1)) (wrap64 (((rdOf ByteArray.empty l0 0).size : Int) / 2)) (wrap64 ((l0.length : Int) / 2)) x248002_1)) else (none)) = some (r1, r2, r3, r4) := by first | (rw [hji28] at H; exact H) | (simp only [hji28] at H ⊢; exact H)
           (try rw [hji28] at c27b0)
           have hji28w : (IntKind.i64.wrap ((wrap64 (2 * (wrap64 (Int.tdiv t249 (wrap64 (((rdOf ByteArray.empty l0 0).size : Int) / 2)))))) + 1)) = ji28 := (i64_w _).trans hji28
           by_cases c29 : 0 ≤ (ji28)
           ·rw [if_pos c29] at H
            have c29b0 : decide (0 ≤ (ji28)) = true := decide_eq_true c29
            clear c29
            by_cases c30 : (wrap64 ((wrap64 ((wrap64 (2 * (Int.tmod t249 (wrap64 (((rdOf ByteArray.empty l0 0).size : Int) / 2))))) + 1)) + 1)) < ((rdOf ByteArray.empty l0 (ji28)).size : Int)
            ·rw [if_pos c30] at H
             have c30b0 : decide ((wrap64 ((wrap64 ((wrap64 (2 * (Int.tmod t249 (wrap64 (((rdOf ByteArray.empty l0 0).size : Int) / 2))))) + 1)) + 1)) < ((rdOf ByteArray.empty l0 (ji28)).size : Int)) = true := decide_eq_true c30
             clear c30
             obtain ⟨ji31, hji31⟩ : ∃ j_ : Int, (wrap64 ((wrap64 ((wrap64 (2 * (Int.tmod t249 (wrap64 (((rdOf ByteArray.empty l0 0).size : Int) / 2))))) + 1)) + 1)) = j_ := ⟨_, rfl⟩
             replace H : (if 0 ≤ (ji31) then (if (bt (rdOf ByteArray.empty l0 (ji28)) (ji31)) = 32 then (if 0 ≤ x5_1 then (spec_ReadMaze.l0 kj13 l0 (wrap64 (x5_1 + 1)) (wrap64 (((rdOf ByteArray.empty l0 0).size : Int) / 2)) (wrap64 ((l0.length : Int) / 2)) (Go.bits .or .i64 x248002_1 (shl .i64 1 x5_1))) else (none)) else (spec_ReadMaze.l0 kj13 l0 (wrap64 (x5_1 + 1)) (wrap64 (((rdOf ByteArray.empty l0 0).size : Int) / 2)) (wrap64 ((l0.length : Int) / 2)) x248002_1)) else (none)) = some (r1, r2, r3, r4) := by first | (rw [hji31] at H; exact H) | (simp only [hji31] at H ⊢; exact H)
             (try rw [hji31] at c30b0)
             have hji31w : (IntKind.i64.wrap ((wrap64 ((wrap64 (2 * (Int.tmod t249 (wrap64 (((rdOf ByteArray.empty l0 0).size : Int) / 2))))) + 1)) + 1)) = ji31 := (i64_w _).trans hji31
             by_cases c32 : 0 ≤ (ji31)
             ·rw [if_pos c32] at H
              have c32b0 : decide (0 ≤ (ji31)) = true := decide_eq_true c32
              clear c32
              by_cases c34 : (bt (rdOf ByteArray.empty l0 (ji28)) (ji31)) = 32
              ·rw [if_pos c34] at H
               have c34b0 : ((bt (rdOf ByteArray.empty l0 (ji28)) (ji31)) == 32) = true := beq_iff_eq.mpr c34
               have c34b1 : ((bt (rdOf ByteArray.empty l0 (ji28)) (ji31)) != 32) = false := bne_eq_false_iff_eq.mpr c34
               clear c34
               by_cases c35 : 0 ≤ x5_1
               ·rw [if_pos c35] at H
                have c35b0 := eq_true c35
                have c35b1 : decide (0 ≤ x5_1) = true := decide_eq_true c35
                clear c35
                obtain ⟨ji36, hji36⟩ : ∃ j_ : Int, (shl .i64 1 x5_1) = j_ := ⟨_, rfl⟩
                replace H : (spec_ReadMaze.l0 kj13 l0 (wrap64 (x5_1 + 1)) (wrap64 (((rdOf ByteArray.empty l0 0).size : Int) / 2)) (wrap64 ((l0.length : Int) / 2)) (Go.bits .or .i64 x248002_1 (ji36))) = some (r1, r2, r3, r4) := by first | (rw [hji36] at H; exact H) | (simp only [hji36] at H ⊢; exact H)
                have hji36_ : (IntKind.i64.wrap (1 * 2 ^ min x5_1.toNat 64)) = ji36 := hji36
                have hji36z : x5_1 ≤ 64 → (IntKind.i64.wrap (1 * 2 ^ x5_1.toNat)) = ji36 := shl_small hji36
                have hji36u : (IntKind.i64.wrap (2 ^ min x5_1.toNat 64)) = ji36 := by have h_ := hji36_; rw [Int.one_mul] at h_; exact h_
                have hji36v : x5_1 ≤ 64 → (IntKind.i64.wrap (2 ^ x5_1.toNat)) = ji36 := fun hle_ => by have h_ := hji36z hle_; rw [Int.one_mul] at h_; exact h_
                have hji36y : (wrap64 (1 * 2 ^ min x5_1.toNat 64)) = ji36 := (i64_w _).symm.trans hji36_
                have hji36x : x5_1 ≤ 64 → (wrap64 (1 * 2 ^ x5_1.toNat)) = ji36 := fun h_ => (i64_w _).symm.trans (hji36z h_)
                have H' := Aside0.mk H
                clear H
                have p252 : 0 ≤ ((ji28) : Int) := of_decide_eq_true (by first | (with_reducible assumption) | assumption)
                have q252 : (ji28) < (l0.length : Int) := of_decide_eq_true (by first | (with_reducible assumption) | assumption)
                obtain ⟨ad252, e252, hx252_0⟩ := Kd.at_string HR0.out (ji28) p252 q252
                obtain rfl : ad246 = ad252 := (by injection e252)
                replace hx252_0 := (HB.out.cell (World.block_lt_of_cell? w _ hx252_0)).trans hx252_0
                replace p252 := eq_true p252
                replace q252 := eq_true q252
                have p253 : 0 ≤ ((ji28) : Int) := of_decide_eq_true (by first | (with_reducible assumption) | assumption)
                have q253 : (ji28) < (l0.length : Int) := of_decide_eq_true (by first | (with_reducible assumption) | assumption)
                obtain ⟨ad253, e253, hx253_0⟩ := Kd.at_string HR0.out (ji28) p253 q253
                obtain rfl : ad246 = ad253 := (by injection e253)
                replace hx253_0 := (HB.out.cell (World.block_lt_of_cell? w _ hx253_0)).trans hx253_0
                replace p253 := eq_true p253
                replace q253 := eq_true q253
                have p33 : 0 ≤ ((ji31) : Int) := of_decide_eq_true (by first | (with_reducible assumption) | assumption)
                have q33 : (ji31) < ((rdOf ByteArray.empty l0 (ji28)).size : Int) := of_decide_eq_true (by first | (with_reducible assumption) | assumption)
                have hx33 := bt_at (rdOf ByteArray.empty l0 (ji28)) (ji31)
                replace p33 := eq_true p33
                replace q33 := eq_true q33
                try go_wp2
                have n0_ := Aside0.mk (blk_drew BK245.out)
                have n1_ := Aside0.mk (blk_drew BK247.out)
                have n2_ := Aside0.mk (below_drew1 HB.out)
                clear BK245
                clear BK247
                clear HB
                have BK245 := n0_
                have BK247 := n1_
                have HB := n2_
                clear n0_ n1_ n2_
                refine start_ (n := 7) (S := fun w' => w'.cell? ⟨gb247, 0, none⟩ = some (.int .i64 (wrap64 (((rdOf ByteArray.empty l0 0).size : Int) / 2))) ∧ w'.cell? ⟨gb247, 1, none⟩ = some (.int .i64 (wrap64 ((l0.length : Int) / 2))) ∧ w'.cell? ⟨gb247, 2, none⟩ = some (.int .i64 x248002_1)) (ds := [6]) #[false, false, false, false, false, false, false] (by kernel_rfl) rfl rfl ⟨(blk_cell BK247.out 0).trans rfl, (blk_cell BK247.out 1).trans rfl, (blk_cell BK247.out 2).trans rfl⟩ (fun hHeld => ?_)
                generalize wc.drew = w37 at BK245 BK247 HB hHeld ⊢
                refine pure_ (i := 0) (N := some 91) (v := ?_) (a' := ?_) #[true, false, false, false, false, false, false] rfl rfl (by kernel_rfl) (fun _ _ _ h => h) (Or.inl ⟨by rfl, ?_⟩) ?_ ?_
                rotate_left
                ·intro w'
                 go_simp
                 with_reducible rfl
                rotate_left
                ·simp only [Act.put, List.setIfInBounds_toArray, List.set_cons_zero, List.set_cons_succ, i64_w, i32_w]
                 rfl
                refine pure_ (i := 2) (N := some 93) (v := ?_) (a' := ?_) #[true, false, true, false, false, false, false] rfl rfl (by kernel_rfl) (fun _ _ _ h => h) (Or.inl ⟨by rfl, ?_⟩) ?_ ?_
                rotate_left
                ·intro w'
                 go_simp
                 with_reducible rfl
                rotate_left
                ·simp only [Act.put, List.setIfInBounds_toArray, List.set_cons_zero, List.set_cons_succ, i64_w, i32_w]
                 rfl
                refine pure_ (i := 3) (N := some 94) (v := ?_) (a' := ?_) #[true, false, true, true, false, false, false] rfl rfl (by kernel_rfl) (fun _ _ _ h => h) (Or.inl ⟨by rfl, ?_⟩) ?_ ?_
                rotate_left
                ·intro w'
                 go_simp
                 with_reducible rfl
                rotate_left
                ·simp only [Act.put, List.setIfInBounds_toArray, List.set_cons_zero, List.set_cons_succ, i64_w, i32_w]
                 rfl
                refine take_ (i := 1) (N := some 92) (v := ?_) (a' := ?_) #[true, true, true, true, false, false, false] rfl rfl (by kernel_rfl) (fun _ _ _ h => h) (Or.inl ⟨by rfl, ?_⟩) hHeld ?_ ?_
                rotate_left
                ·rintro w' ⟨s0, s1, s2⟩
                 go_simp
                 with_reducible rfl
                rotate_left
                ·simp only [Act.put, List.setIfInBounds_toArray, List.set_cons_zero, List.set_cons_succ, i64_w, i32_w]
                 rfl
                refine pure_ (i := 4) (N := some 95) (v := ?_) (a' := ?_) #[true, true, true, true, true, false, false] rfl rfl (by kernel_rfl) (fun _ _ _ h => h) (Or.inl ⟨by rfl, ?_⟩) ?_ ?_
                rotate_left
                ·intro w'
                 go_simp
                 with_reducible rfl
                rotate_left
                ·simp only [Act.put, List.setIfInBounds_toArray, List.set_cons_zero, List.set_cons_succ, i64_w, i32_w]
                 rfl
                refine pure_ (i := 5) (N := some 96) (v := ?_) (a' := ?_) #[true, true, true, true, true, true, false] rfl rfl (by kernel_rfl) (fun _ _ _ h => h) (Or.inl ⟨by rfl, ?_⟩) ?_ ?_
                rotate_left
                ·intro w'
                 go_simp
                 with_reducible rfl
                rotate_left
                ·simp only [Act.put, List.setIfInBounds_toArray, List.set_cons_zero, List.set_cons_succ, i64_w, i32_w]
                 rfl
                refine last_ (i := 6) (N := none) #[true, true, true, true, true, true, true] rfl rfl (by kernel_rfl) (by decide) (fun K hK => ?_)
                have hs38 : w37.cell? ⟨gb247, 2, none⟩ = some (.int .i64 x248002_1) := (blk_cell BK247.out 2).trans rfl
                have hfs38 := blk_frozen BK247.out 2
                have hns38_0 := NB245_247.out
                have hms38_0 := NB247_245.out
                refine skip_ (w1 := ?_) (by rfl) rfl ?_ ?_
                rotate_left
                ·go_simp
                 rfl
                refine hK.out _ _ ?_
                clear hK K
                refine done_ (by kernel_rfl) ?_
                try go_wp2
                go_roundg kj13
                case measure => have := HK1.out; have := HJ13.out; omega
                case rel => exact ⟨(wrap64 (x5_1 + 1)), (Go.bits .or .i64 x248002_1 (ji36)), (by first | rfl | (simp; done) | (simp [*]; done)), H', ⟨by have := HK1.out; have := HJ13.out; omega⟩, ⟨by (with_reducible repeat (first | refine blk_drewN ?_ _ | refine blk_drew ?_ | refine blk_alloc ?_ _)); refine blk_far ?_ NB245_247.out _; (with_reducible repeat (first | refine blk_drewN ?_ _ | refine blk_drew ?_ | refine blk_alloc ?_ _)); exact BK245.out⟩, ⟨by (with_reducible repeat (first | refine blk_drewN ?_ _ | refine blk_drew ?_ | refine blk_alloc ?_ _)); refine blk_put (cs := #[.int .i64 (wrap64 (((rdOf ByteArray.empty l0 0).size : Int) / 2)), .int .i64 (wrap64 ((l0.length : Int) / 2)), .int .i64 x248002_1]) ?_ 2 _ rfl; (with_reducible repeat (first | refine blk_drewN ?_ _ | refine blk_drew ?_ | refine blk_alloc ?_ _)); exact BK247.out⟩, ⟨hb_⟩⟩
               ·rw [if_neg c35] at H
                exact absurd H (by simp)
              ·rw [if_neg c34] at H
               have c34b0 : ((bt (rdOf ByteArray.empty l0 (ji28)) (ji31)) == 32) = false := beq_eq_false_iff_ne.mpr c34
               have c34b1 : ((bt (rdOf ByteArray.empty l0 (ji28)) (ji31)) != 32) = true := bne_iff_ne.mpr c34
               have H' := Aside0.mk H
               clear H
               have p252 : 0 ≤ ((ji28) : Int) := of_decide_eq_true (by first | (with_reducible assumption) | assumption)
               have q252 : (ji28) < (l0.length : Int) := of_decide_eq_true (by first | (with_reducible assumption) | assumption)
               obtain ⟨ad252, e252, hx252_0⟩ := Kd.at_string HR0.out (ji28) p252 q252
               obtain rfl : ad246 = ad252 := (by injection e252)
               replace hx252_0 := (HB.out.cell (World.block_lt_of_cell? w _ hx252_0)).trans hx252_0
               replace p252 := eq_true p252
               replace q252 := eq_true q252
               have p253 : 0 ≤ ((ji28) : Int) := of_decide_eq_true (by first | (with_reducible assumption) | assumption)
               have q253 : (ji28) < (l0.length : Int) := of_decide_eq_true (by first | (with_reducible assumption) | assumption)
               obtain ⟨ad253, e253, hx253_0⟩ := Kd.at_string HR0.out (ji28) p253 q253
               obtain rfl : ad246 = ad253 := (by injection e253)
               replace hx253_0 := (HB.out.cell (World.block_lt_of_cell? w _ hx253_0)).trans hx253_0
               replace p253 := eq_true p253
               replace q253 := eq_true q253
               have p33 : 0 ≤ ((ji31) : Int) := of_decide_eq_true (by first | (with_reducible assumption) | assumption)
               have q33 : (ji31) < ((rdOf ByteArray.empty l0 (ji28)).size : Int) := of_decide_eq_true (by first | (with_reducible assumption) | assumption)
               have hx33 := bt_at (rdOf ByteArray.empty l0 (ji28)) (ji31)
               replace p33 := eq_true p33
               replace q33 := eq_true q33
               go_wp2
               go_roundg kj13
               case measure => have := HK1.out; have := HJ13.out; omega
               case rel => exact ⟨(wrap64 (x5_1 + 1)), (x248002_1), (by first | rfl | (simp; done) | (simp [*]; done)), H', ⟨by have := HK1.out; have := HJ13.out; omega⟩, ⟨kb_ BK245.out⟩, ⟨kb_ BK247.out⟩, ⟨hb_⟩⟩
             ·rw [if_neg c32] at H
              exact absurd H (by simp)
            ·rw [if_neg c30] at H
             have c30b0 : decide ((wrap64 ((wrap64 ((wrap64 (2 * (Int.tmod t249 (wrap64 (((rdOf ByteArray.empty l0 0).size : Int) / 2))))) + 1)) + 1)) < ((rdOf ByteArray.empty l0 (ji28)).size : Int)) = false := decide_eq_false c30
             clear c30
             have H' := Aside0.mk H
             clear H
             have p252 : 0 ≤ ((ji28) : Int) := of_decide_eq_true (by first | (with_reducible assumption) | assumption)
             have q252 : (ji28) < (l0.length : Int) := of_decide_eq_true (by first | (with_reducible assumption) | assumption)
             obtain ⟨ad252, e252, hx252_0⟩ := Kd.at_string HR0.out (ji28) p252 q252
             obtain rfl : ad246 = ad252 := (by injection e252)
             replace hx252_0 := (HB.out.cell (World.block_lt_of_cell? w _ hx252_0)).trans hx252_0
             replace p252 := eq_true p252
             replace q252 := eq_true q252
             go_wp2
             go_roundg kj13
             case measure => have := HK1.out; have := HJ13.out; omega
             case rel => exact ⟨(wrap64 (x5_1 + 1)), (x248002_1), (by first | rfl | (simp; done) | (simp [*]; done)), H', ⟨by have := HK1.out; have := HJ13.out; omega⟩, ⟨kb_ BK245.out⟩, ⟨kb_ BK247.out⟩, ⟨hb_⟩⟩
           ·rw [if_neg c29] at H
            exact absurd H (by simp)
          ·rw [if_neg c27] at H
           have c27b0 : decide ((wrap64 ((wrap64 (2 * (wrap64 (Int.tdiv t249 (wrap64 (((rdOf ByteArray.empty l0 0).size : Int) / 2)))))) + 1)) < (l0.length : Int)) = false := decide_eq_false c27
           clear c27
           have H' := Aside0.mk H
           clear H
           go_wp2
           go_roundg kj13
           case measure => have := HK1.out; have := HJ13.out; omega
           case rel => exact ⟨(wrap64 (x5_1 + 1)), (x248002_1), (by first | rfl | (simp; done) | (simp [*]; done)), H', ⟨by have := HK1.out; have := HJ13.out; omega⟩, ⟨kb_ BK245.out⟩, ⟨kb_ BK247.out⟩, ⟨hb_⟩⟩
         ·replace c26 := Bool.eq_false_iff.mpr c26
          subst c26
          have H1 : (if (wrap64 ((wrap64 ((wrap64 (2 * (wrap64 (Int.tdiv t249 (wrap64 (((rdOf ByteArray.empty l0 0).size : Int) / 2)))))) + 1)) + 1)) < (l0.length : Int) then (if 0 ≤ (wrap64 ((wrap64 ((wrap64 (2 * (wrap64 (Int.tdiv t249 (wrap64 (((rdOf ByteArray.empty l0 0).size : Int) / 2)))))) + 1)) + 1)) then (if (wrap64 ((wrap64 (2 * (Int.tmod t249 (wrap64 (((rdOf ByteArray.empty l0 0).size : Int) / 2))))) + 1)) < ((rdOf ByteArray.empty l0 (wrap64 ((wrap64 ((wrap64 (2 * (wrap64 (Int.tdiv t249 (wrap64 (((rdOf ByteArray.empty l0 0).size : Int) / 2)))))) + 1)) + 1))).size : Int) then (if 0 ≤ (wrap64 ((wrap64 (2 * (Int.tmod t249 (wrap64 (((rdOf ByteArray.empty l0 0).size : Int) / 2))))) + 1)) then (if (bt (rdOf ByteArray.empty l0 (wrap64 ((wrap64 ((wrap64 (2 * (wrap64 (Int.tdiv t249 (wrap64 (((rdOf ByteArray.empty l0 0).size : Int) / 2)))))) + 1)) + 1))) (wrap64 ((wrap64 (2 * (Int.tmod t249 (wrap64 (((rdOf ByteArray.empty l0 0).size : Int) / 2))))) + 1))) = 32 then (if 0 ≤ x5_1 then (spec_ReadMaze.l0 kj13 l0 (wrap64 (x5_1 + 1)) (wrap64 (((rdOf ByteArray.empty l0 0).size : Int) / 2)) (wrap64 ((l0.length : Int) / 2)) (Go.bits .or .i64 x248002_1 (shl .i64 1 x5_1))) else (none)) else (spec_ReadMaze.l0 kj13 l0 (wrap64 (x5_1 + 1)) (wrap64 (((rdOf ByteArray.empty l0 0).size : Int) / 2)) (wrap64 ((l0.length : Int) / 2)) x248002_1)) else (none)) else (spec_ReadMaze.l0 kj13 l0 (wrap64 (x5_1 + 1)) (wrap64 (((rdOf ByteArray.empty l0 0).size : Int) / 2)) (wrap64 ((l0.length : Int) / 2)) x248002_1)) else (none)) else (spec_ReadMaze.l0 kj13 l0 (wrap64 (x5_1 + 1)) (wrap64 (((rdOf ByteArray.empty l0 0).size : Int) / 2)) (wrap64 ((l0.length : Int) / 2)) x248002_1)) = some (r1, r2, r3, r4) := by rw [if_neg (show ¬ (false = true) by decide)] at H; exact H
          clear H
          have H := H1
          clear H1
          by_cases c39 : (wrap64 ((wrap64 ((wrap64 (2 * (wrap64 (Int.tdiv t249 (wrap64 (((rdOf ByteArray.empty l0 0).size : Int) / 2)))))) + 1)) + 1)) < (l0.length : Int)
          ·rw [if_pos c39] at H
           have c39b0 : decide ((wrap64 ((wrap64 ((wrap64 (2 * (wrap64 (Int.tdiv t249 (wrap64 (((rdOf ByteArray.empty l0 0).size : Int) / 2)))))) + 1)) + 1)) < (l0.length : Int)) = true := decide_eq_true c39
           clear c39
           obtain ⟨ji40, hji40⟩ : ∃ j_ : Int, (wrap64 ((wrap64 ((wrap64 (2 * (wrap64 (Int.tdiv t249 (wrap64 (((rdOf ByteArray.empty l0 0).size : Int) / 2)))))) + 1)) + 1)) = j_ := ⟨_, rfl⟩
           replace H : (if 0 ≤ (ji40) then (if (wrap64 ((wrap64 (2 * (Int.tmod t249 (wrap64 (((rdOf ByteArray.empty l0 0).size : Int) / 2))))) + 1)) < ((rdOf ByteArray.empty l0 (ji40)).size : Int) then (if 0 ≤ (wrap64 ((wrap64 (2 * (Int.tmod t249 (wrap64 (((rdOf ByteArray.empty l0 0).size : Int) / 2))))) + 1)) then (if (bt (rdOf ByteArray.empty l0 (ji40)) (wrap64 ((wrap64 (2 * (Int.tmod t249 (wrap64 (((rdOf ByteArray.empty l0 0).size : Int) / 2))))) + 1))) = 32 then (if 0 ≤ x5_1 then (spec_ReadMaze.l0 kj13 l0 (wrap64 (x5_1 + 1)) (wrap64 (((rdOf ByteArray.empty l0 0).size : Int) / 2)) (wrap64 ((l0.length : Int) / 2)) (Go.bits .or .i64 x248002_1 (shl .i64 1 x5_1))) else (none)) else (spec_ReadMaze.l0 kj13 l0 (wrap64 (x5_1 + 1)) (wrap64 (((rdOf ByteArray.empty l0 0).size : Int) / 2)) (wrap64 ((l0.length : Int) / 2)) x248002_1)) else (none)) else (spec_ReadMaze.l0 kj13 l0 (wrap64 (x5_1 + 1)) (wrap64 (((rdOf ByteArray.empty l0 0).size : Int) / 2)) (wrap64 ((l0.length : Int) / 2)) x248002_1)) else (none)) = some (r1, r2, r3, r4) := by first | (rw [hji40] at H; exact H) | (simp only [hji40] at H ⊢; exact H)
           (try rw [hji40] at c39b0)
           have hji40w : (IntKind.i64.wrap ((wrap64 ((wrap64 (2 * (wrap64 (Int.tdiv t249 (wrap64 (((rdOf ByteArray.empty l0 0).size : Int) / 2)))))) + 1)) + 1)) = ji40 := (i64_w _).trans hji40
           by_cases c41 : 0 ≤ (ji40)
           ·rw [if_pos c41] at H
            have c41b0 : decide (0 ≤ (ji40)) = true := decide_eq_true c41
            clear c41
            by_cases c42 : (wrap64 ((wrap64 (2 * (Int.tmod t249 (wrap64 (((rdOf ByteArray.empty l0 0).size : Int) / 2))))) + 1)) < ((rdOf ByteArray.empty l0 (ji40)).size : Int)
            ·rw [if_pos c42] at H
             have c42b0 : decide ((wrap64 ((wrap64 (2 * (Int.tmod t249 (wrap64 (((rdOf ByteArray.empty l0 0).size : Int) / 2))))) + 1)) < ((rdOf ByteArray.empty l0 (ji40)).size : Int)) = true := decide_eq_true c42
             clear c42
             obtain ⟨ji43, hji43⟩ : ∃ j_ : Int, (wrap64 ((wrap64 (2 * (Int.tmod t249 (wrap64 (((rdOf ByteArray.empty l0 0).size : Int) / 2))))) + 1)) = j_ := ⟨_, rfl⟩
             replace H : (if 0 ≤ (ji43) then (if (bt (rdOf ByteArray.empty l0 (ji40)) (ji43)) = 32 then (if 0 ≤ x5_1 then (spec_ReadMaze.l0 kj13 l0 (wrap64 (x5_1 + 1)) (wrap64 (((rdOf ByteArray.empty l0 0).size : Int) / 2)) (wrap64 ((l0.length : Int) / 2)) (Go.bits .or .i64 x248002_1 (shl .i64 1 x5_1))) else (none)) else (spec_ReadMaze.l0 kj13 l0 (wrap64 (x5_1 + 1)) (wrap64 (((rdOf ByteArray.empty l0 0).size : Int) / 2)) (wrap64 ((l0.length : Int) / 2)) x248002_1)) else (none)) = some (r1, r2, r3, r4) := by first | (rw [hji43] at H; exact H) | (simp only [hji43] at H ⊢; exact H)
             (try rw [hji43] at c42b0)
             have hji43w : (IntKind.i64.wrap ((wrap64 (2 * (Int.tmod t249 (wrap64 (((rdOf ByteArray.empty l0 0).size : Int) / 2))))) + 1)) = ji43 := (i64_w _).trans hji43
             by_cases c44 : 0 ≤ (ji43)
             ·rw [if_pos c44] at H
              have c44b0 : decide (0 ≤ (ji43)) = true := decide_eq_true c44
              clear c44
              by_cases c46 : (bt (rdOf ByteArray.empty l0 (ji40)) (ji43)) = 32
              ·rw [if_pos c46] at H
               have c46b0 : ((bt (rdOf ByteArray.empty l0 (ji40)) (ji43)) == 32) = true := beq_iff_eq.mpr c46
               have c46b1 : ((bt (rdOf ByteArray.empty l0 (ji40)) (ji43)) != 32) = false := bne_eq_false_iff_eq.mpr c46
               clear c46
               by_cases c47 : 0 ≤ x5_1
               ·rw [if_pos c47] at H
                have c47b0 := eq_true c47
                have c47b1 : decide (0 ≤ x5_1) = true := decide_eq_true c47
                clear c47
                obtain ⟨ji48, hji48⟩ : ∃ j_ : Int, (shl .i64 1 x5_1) = j_ := ⟨_, rfl⟩
                replace H : (spec_ReadMaze.l0 kj13 l0 (wrap64 (x5_1 + 1)) (wrap64 (((rdOf ByteArray.empty l0 0).size : Int) / 2)) (wrap64 ((l0.length : Int) / 2)) (Go.bits .or .i64 x248002_1 (ji48))) = some (r1, r2, r3, r4) := by first | (rw [hji48] at H; exact H) | (simp only [hji48] at H ⊢; exact H)
                have hji48_ : (IntKind.i64.wrap (1 * 2 ^ min x5_1.toNat 64)) = ji48 := hji48
                have hji48z : x5_1 ≤ 64 → (IntKind.i64.wrap (1 * 2 ^ x5_1.toNat)) = ji48 := shl_small hji48
                have hji48u : (IntKind.i64.wrap (2 ^ min x5_1.toNat 64)) = ji48 := by have h_ := hji48_; rw [Int.one_mul] at h_; exact h_
                have hji48v : x5_1 ≤ 64 → (IntKind.i64.wrap (2 ^ x5_1.toNat)) = ji48 := fun hle_ => by have h_ := hji48z hle_; rw [Int.one_mul] at h_; exact h_
                have hji48y : (wrap64 (1 * 2 ^ min x5_1.toNat 64)) = ji48 := (i64_w _).symm.trans hji48_
                have hji48x : x5_1 ≤ 64 → (wrap64 (1 * 2 ^ x5_1.toNat)) = ji48 := fun h_ => (i64_w _).symm.trans (hji48z h_)
                have H' := Aside0.mk H
                clear H
                have p254 : 0 ≤ ((ji40) : Int) := of_decide_eq_true (by first | (with_reducible assumption) | assumption)
                have q254 : (ji40) < (l0.length : Int) := of_decide_eq_true (by first | (with_reducible assumption) | assumption)
                obtain ⟨ad254, e254, hx254_0⟩ := Kd.at_string HR0.out (ji40) p254 q254
                obtain rfl : ad246 = ad254 := (by injection e254)
                replace hx254_0 := (HB.out.cell (World.block_lt_of_cell? w _ hx254_0)).trans hx254_0
                replace p254 := eq_true p254
                replace q254 := eq_true q254
                have p255 : 0 ≤ ((ji40) : Int) := of_decide_eq_true (by first | (with_reducible assumption) | assumption)
                have q255 : (ji40) < (l0.length : Int) := of_decide_eq_true (by first | (with_reducible assumption) | assumption)
                obtain ⟨ad255, e255, hx255_0⟩ := Kd.at_string HR0.out (ji40) p255 q255
                obtain rfl : ad246 = ad255 := (by injection e255)
                replace hx255_0 := (HB.out.cell (World.block_lt_of_cell? w _ hx255_0)).trans hx255_0
                replace p255 := eq_true p255
                replace q255 := eq_true q255
                have p45 : 0 ≤ ((ji43) : Int) := of_decide_eq_true (by first | (with_reducible assumption) | assumption)
                have q45 : (ji43) < ((rdOf ByteArray.empty l0 (ji40)).size : Int) := of_decide_eq_true (by first | (with_reducible assumption) | assumption)
                have hx45 := bt_at (rdOf ByteArray.empty l0 (ji40)) (ji43)
                replace p45 := eq_true p45
                replace q45 := eq_true q45
                try go_wp2
                have n0_ := Aside0.mk (blk_drew BK245.out)
                have n1_ := Aside0.mk (blk_drew BK247.out)
                have n2_ := Aside0.mk (below_drew1 HB.out)
                clear BK245
                clear BK247
                clear HB
                have BK245 := n0_
                have BK247 := n1_
                have HB := n2_
                clear n0_ n1_ n2_
                refine start_ (n := 7) (S := fun w' => w'.cell? ⟨gb247, 0, none⟩ = some (.int .i64 (wrap64 (((rdOf ByteArray.empty l0 0).size : Int) / 2))) ∧ w'.cell? ⟨gb247, 1, none⟩ = some (.int .i64 (wrap64 ((l0.length : Int) / 2))) ∧ w'.cell? ⟨gb247, 2, none⟩ = some (.int .i64 x248002_1)) (ds := [6]) #[false, false, false, false, false, false, false] (by kernel_rfl) rfl rfl ⟨(blk_cell BK247.out 0).trans rfl, (blk_cell BK247.out 1).trans rfl, (blk_cell BK247.out 2).trans rfl⟩ (fun hHeld => ?_)
                generalize wc.drew = w49 at BK245 BK247 HB hHeld ⊢
                refine pure_ (i := 0) (N := some 91) (v := ?_) (a' := ?_) #[true, false, false, false, false, false, false] rfl rfl (by kernel_rfl) (fun _ _ _ h => h) (Or.inl ⟨by rfl, ?_⟩) ?_ ?_
                rotate_left
                ·intro w'
                 go_simp
                 with_reducible rfl
                rotate_left
                ·simp only [Act.put, List.setIfInBounds_toArray, List.set_cons_zero, List.set_cons_succ, i64_w, i32_w]
                 rfl
                refine pure_ (i := 2) (N := some 93) (v := ?_) (a' := ?_) #[true, false, true, false, false, false, false] rfl rfl (by kernel_rfl) (fun _ _ _ h => h) (Or.inl ⟨by rfl, ?_⟩) ?_ ?_
                rotate_left
                ·intro w'
                 go_simp
                 with_reducible rfl
                rotate_left
                ·simp only [Act.put, List.setIfInBounds_toArray, List.set_cons_zero, List.set_cons_succ, i64_w, i32_w]
                 rfl
                refine pure_ (i := 3) (N := some 94) (v := ?_) (a' := ?_) #[true, false, true, true, false, false, false] rfl rfl (by kernel_rfl) (fun _ _ _ h => h) (Or.inl ⟨by rfl, ?_⟩) ?_ ?_
                rotate_left
                ·intro w'
                 go_simp
                 with_reducible rfl
                rotate_left
                ·simp only [Act.put, List.setIfInBounds_toArray, List.set_cons_zero, List.set_cons_succ, i64_w, i32_w]
                 rfl
                refine take_ (i := 1) (N := some 92) (v := ?_) (a' := ?_) #[true, true, true, true, false, false, false] rfl rfl (by kernel_rfl) (fun _ _ _ h => h) (Or.inl ⟨by rfl, ?_⟩) hHeld ?_ ?_
                rotate_left
                ·rintro w' ⟨s0, s1, s2⟩
                 go_simp
                 with_reducible rfl
                rotate_left
                ·simp only [Act.put, List.setIfInBounds_toArray, List.set_cons_zero, List.set_cons_succ, i64_w, i32_w]
                 rfl
                refine pure_ (i := 4) (N := some 95) (v := ?_) (a' := ?_) #[true, true, true, true, true, false, false] rfl rfl (by kernel_rfl) (fun _ _ _ h => h) (Or.inl ⟨by rfl, ?_⟩) ?_ ?_
                rotate_left
                ·intro w'
                 go_simp
                 with_reducible rfl
                rotate_left
                ·simp only [Act.put, List.setIfInBounds_toArray, List.set_cons_zero, List.set_cons_succ, i64_w, i32_w]
                 rfl
                refine pure_ (i := 5) (N := some 96) (v := ?_) (a' := ?_) #[true, true, true, true, true, true, false] rfl rfl (by kernel_rfl) (fun _ _ _ h => h) (Or.inl ⟨by rfl, ?_⟩) ?_ ?_
                rotate_left
                ·intro w'
                 go_simp
                 with_reducible rfl
                rotate_left
                ·simp only [Act.put, List.setIfInBounds_toArray, List.set_cons_zero, List.set_cons_succ, i64_w, i32_w]
                 rfl
                refine last_ (i := 6) (N := none) #[true, true, true, true, true, true, true] rfl rfl (by kernel_rfl) (by decide) (fun K hK => ?_)
                have hs50 : w49.cell? ⟨gb247, 2, none⟩ = some (.int .i64 x248002_1) := (blk_cell BK247.out 2).trans rfl
                have hfs50 := blk_frozen BK247.out 2
                have hns50_0 := NB245_247.out
                have hms50_0 := NB247_245.out
                refine skip_ (w1 := ?_) (by rfl) rfl ?_ ?_
                rotate_left
                ·go_simp
                 rfl
                refine hK.out _ _ ?_
                clear hK K
                refine done_ (by kernel_rfl) ?_
                try go_wp2
                go_roundg kj13
                case measure => have := HK1.out; have := HJ13.out; omega
                case rel => exact ⟨(wrap64 (x5_1 + 1)), (Go.bits .or .i64 x248002_1 (ji48)), (by first | rfl | (simp; done) | (simp [*]; done)), H', ⟨by have := HK1.out; have := HJ13.out; omega⟩, ⟨by (with_reducible repeat (first | refine blk_drewN ?_ _ | refine blk_drew ?_ | refine blk_alloc ?_ _)); refine blk_far ?_ NB245_247.out _; (with_reducible repeat (first | refine blk_drewN ?_ _ | refine blk_drew ?_ | refine blk_alloc ?_ _)); exact BK245.out⟩, ⟨by (with_reducible repeat (first | refine blk_drewN ?_ _ | refine blk_drew ?_ | refine blk_alloc ?_ _)); refine blk_put (cs := #[.int .i64 (wrap64 (((rdOf ByteArray.empty l0 0).size : Int) / 2)), .int .i64 (wrap64 ((l0.length : Int) / 2)), .int .i64 x248002_1]) ?_ 2 _ rfl; (with_reducible repeat (first | refine blk_drewN ?_ _ | refine blk_drew ?_ | refine blk_alloc ?_ _)); exact BK247.out⟩, ⟨hb_⟩⟩
               ·rw [if_neg c47] at H
                exact absurd H (by simp)
              ·rw [if_neg c46] at H
               have c46b0 : ((bt (rdOf ByteArray.empty l0 (ji40)) (ji43)) == 32) = false := beq_eq_false_iff_ne.mpr c46
               have c46b1 : ((bt (rdOf ByteArray.empty l0 (ji40)) (ji43)) != 32) = true := bne_iff_ne.mpr c46
               have H' := Aside0.mk H
               clear H
               have p254 : 0 ≤ ((ji40) : Int) := of_decide_eq_true (by first | (with_reducible assumption) | assumption)
               have q254 : (ji40) < (l0.length : Int) := of_decide_eq_true (by first | (with_reducible assumption) | assumption)
               obtain ⟨ad254, e254, hx254_0⟩ := Kd.at_string HR0.out (ji40) p254 q254
               obtain rfl : ad246 = ad254 := (by injection e254)
               replace hx254_0 := (HB.out.cell (World.block_lt_of_cell? w _ hx254_0)).trans hx254_0
               replace p254 := eq_true p254
               replace q254 := eq_true q254
               have p255 : 0 ≤ ((ji40) : Int) := of_decide_eq_true (by first | (with_reducible assumption) | assumption)
               have q255 : (ji40) < (l0.length : Int) := of_decide_eq_true (by first | (with_reducible assumption) | assumption)
               obtain ⟨ad255, e255, hx255_0⟩ := Kd.at_string HR0.out (ji40) p255 q255
               obtain rfl : ad246 = ad255 := (by injection e255)
               replace hx255_0 := (HB.out.cell (World.block_lt_of_cell? w _ hx255_0)).trans hx255_0
               replace p255 := eq_true p255
               replace q255 := eq_true q255
               have p45 : 0 ≤ ((ji43) : Int) := of_decide_eq_true (by first | (with_reducible assumption) | assumption)
               have q45 : (ji43) < ((rdOf ByteArray.empty l0 (ji40)).size : Int) := of_decide_eq_true (by first | (with_reducible assumption) | assumption)
               have hx45 := bt_at (rdOf ByteArray.empty l0 (ji40)) (ji43)
               replace p45 := eq_true p45
               replace q45 := eq_true q45
               go_wp2
               go_roundg kj13
               case measure => have := HK1.out; have := HJ13.out; omega
               case rel => exact ⟨(wrap64 (x5_1 + 1)), (x248002_1), (by first | rfl | (simp; done) | (simp [*]; done)), H', ⟨by have := HK1.out; have := HJ13.out; omega⟩, ⟨kb_ BK245.out⟩, ⟨kb_ BK247.out⟩, ⟨hb_⟩⟩
             ·rw [if_neg c44] at H
              exact absurd H (by simp)
            ·rw [if_neg c42] at H
             have c42b0 : decide ((wrap64 ((wrap64 (2 * (Int.tmod t249 (wrap64 (((rdOf ByteArray.empty l0 0).size : Int) / 2))))) + 1)) < ((rdOf ByteArray.empty l0 (ji40)).size : Int)) = false := decide_eq_false c42
             clear c42
             have H' := Aside0.mk H
             clear H
             have p254 : 0 ≤ ((ji40) : Int) := of_decide_eq_true (by first | (with_reducible assumption) | assumption)
             have q254 : (ji40) < (l0.length : Int) := of_decide_eq_true (by first | (with_reducible assumption) | assumption)
             obtain ⟨ad254, e254, hx254_0⟩ := Kd.at_string HR0.out (ji40) p254 q254
             obtain rfl : ad246 = ad254 := (by injection e254)
             replace hx254_0 := (HB.out.cell (World.block_lt_of_cell? w _ hx254_0)).trans hx254_0
             replace p254 := eq_true p254
             replace q254 := eq_true q254
             go_wp2
             go_roundg kj13
             case measure => have := HK1.out; have := HJ13.out; omega
             case rel => exact ⟨(wrap64 (x5_1 + 1)), (x248002_1), (by first | rfl | (simp; done) | (simp [*]; done)), H', ⟨by have := HK1.out; have := HJ13.out; omega⟩, ⟨kb_ BK245.out⟩, ⟨kb_ BK247.out⟩, ⟨hb_⟩⟩
           ·rw [if_neg c41] at H
            exact absurd H (by simp)
          ·rw [if_neg c39] at H
           have c39b0 : decide ((wrap64 ((wrap64 ((wrap64 (2 * (wrap64 (Int.tdiv t249 (wrap64 (((rdOf ByteArray.empty l0 0).size : Int) / 2)))))) + 1)) + 1)) < (l0.length : Int)) = false := decide_eq_false c39
           clear c39
           have H' := Aside0.mk H
           clear H
           go_wp2
           go_roundg kj13
           case measure => have := HK1.out; have := HJ13.out; omega
           case rel => exact ⟨(wrap64 (x5_1 + 1)), (x248002_1), (by first | rfl | (simp; done) | (simp [*]; done)), H', ⟨by have := HK1.out; have := HJ13.out; omega⟩, ⟨kb_ BK245.out⟩, ⟨kb_ BK247.out⟩, ⟨hb_⟩⟩
     ·rw [if_neg c11] at H
      have c11b0 : decide (x5_1 < t248) = false := decide_eq_false c11
      clear c11
      replace H := Option.bind_eq_some_iff.mp H
      obtain ⟨t256, A510, H⟩ := H
      replace H : (if (t256.length : Int) = (l0.length : Int) then (spec_ReadMaze.l1 k1 l0 t256 0 (wrap64 (((rdOf ByteArray.empty l0 0).size : Int) / 2)) (wrap64 ((l0.length : Int) / 2)) x248002_1) else (some (0, 0, 0, false))) = some (r1, r2, r3, r4) := H
      have A51 := Aside0.mk A510
      clear A510
      by_cases c52 : (t256.length : Int) = (l0.length : Int)
      ·rw [if_pos c52] at H
       have c52b0 : ((t256.length : Int) == (l0.length : Int)) = true := beq_iff_eq.mpr c52
       have c52b1 : ((t256.length : Int) != (l0.length : Int)) = false := bne_eq_false_iff_eq.mpr c52
       have c52b2 : (t256.length == l0.length) = true := by first | simpa using c52 | (simp at c52 ⊢; omega)
       clear c52
       have H' := Aside0.mk H
       clear H
       have hnb53 := NB247_245.out
       have hnc53 := NB245_247.out
       have hcz54_0 : wr.cell? ⟨gb247, 0, none⟩ = some (.int .i64 (wrap64 (((rdOf ByteArray.empty l0 0).size : Int) / 2))) := (blk_cell BK247.out 0).trans rfl
       have hcz54_1 : wr.cell? ⟨gb247, 1, none⟩ = some (.int .i64 (wrap64 ((l0.length : Int) / 2))) := (blk_cell BK247.out 1).trans rfl
       have hcz54_2 : wr.cell? ⟨gb247, 2, none⟩ = some (.int .i64 x248002_1) := (blk_cell BK247.out 2).trans rfl
       have hfz54_0 := blk_frozen BK247.out 0
       have hfz54_1 := blk_frozen BK247.out 1
       have hfz54_2 := blk_frozen BK247.out 2
       go_wp2_with (first | ((with_reducible refine gate_callee (f := 26) rfl ?_); refine goesL_ (some 29) rfl rfl Try.func26 (by kernel_rfl) rfl #[.agg #[.int .i64 (wrap64 (((rdOf ByteArray.empty l0 0).size : Int) / 2)), .int .i64 (wrap64 ((l0.length : Int) / 2))]] rfl mp_ ?_; (with_reducible refine (spec_CountGaps.calls (wrap64 (((rdOf ByteArray.empty l0 0).size : Int) / 2)) (wrap64 ((l0.length : Int) / 2)) t248 _ A10.out).mono ?_); rintro e w55 ⟨rfl, hb⟩; refine ⟨_, rfl, ?_⟩; have n0_ := Aside0.mk (blk_below (g := gb245) (o := .cells #[.int .i64 0, .int .i64 0, .int .i64 0] 30 (0, 0)) (kb_ BK245.out) hb); have n1_ := Aside0.mk (blk_below (g := gb247) (o := .cells #[.int .i64 (wrap64 (((rdOf ByteArray.empty l0 0).size : Int) / 2)), .int .i64 (wrap64 ((l0.length : Int) / 2)), .int .i64 x248002_1] 30 (0, 0)) (kb_ BK247.out) hb); have n2_ := Aside0.mk (below_step hb_ hb); clear BK245; clear BK247; clear HB; have BK245 := n0_; have BK247 := n1_; have HB := n2_; clear n0_ n1_ n2_; (try clear hb); (try clear hb2); (try clear hk); (try clear hi); have hcz56_0 : w55.cell? ⟨gb247, 0, none⟩ = some (.int .i64 (wrap64 (((rdOf ByteArray.empty l0 0).size : Int) / 2))) := (blk_cell BK247.out 0).trans rfl; have hcz56_1 : w55.cell? ⟨gb247, 1, none⟩ = some (.int .i64 (wrap64 ((l0.length : Int) / 2))) := (blk_cell BK247.out 1).trans rfl; have hcz56_2 := cz_ (.int .i64 x248002_1) BK247.out 2; have hfz56_0 := blk_frozen BK247.out 0; have hfz56_1 := blk_frozen BK247.out 1; have hfz56_2 := blk_frozen BK247.out 2) | ((with_reducible refine gate_callee (f := 5) rfl ?_); refine goesL_ (some 98) rfl rfl Try.func5 (by kernel_rfl) rfl #[.agg #[.int .i64 (wrap64 (((rdOf ByteArray.empty l0 0).size : Int) / 2)), .int .i64 (wrap64 ((l0.length : Int) / 2)), .int .i64 x248002_1]] rfl mp_ ?_; (with_reducible refine (spec_MazeLines.calls k1 (wrap64 (((rdOf ByteArray.empty l0 0).size : Int) / 2)) (wrap64 ((l0.length : Int) / 2)) x248002_1 t256 _ A51.out).mono ?_); rintro e w57 ⟨v257, rfl, ho0, hb⟩; refine ⟨_, rfl, ?_⟩; have n0_ := Aside0.mk (Kd.R_lower ho0 (below_size hb_)); have n1_ := Aside0.mk (blk_below (g := gb245) (o := .cells #[.int .i64 0, .int .i64 0, .int .i64 0] 30 (0, 0)) (kb_ BK245.out) hb); have n2_ := Aside0.mk (blk_below (g := gb247) (o := .cells #[.int .i64 (wrap64 (((rdOf ByteArray.empty l0 0).size : Int) / 2)), .int .i64 (wrap64 ((l0.length : Int) / 2)), .int .i64 x248002_1] 30 (0, 0)) (kb_ BK247.out) hb); have n3_ := Aside0.mk (below_step hb_ hb); clear BK245; clear BK247; clear HB; have HO258 := n0_; have BK245 := n1_; have BK247 := n2_; have HB := n3_; clear n0_ n1_ n2_ n3_; (try clear hb); (try clear hb2); (try clear hk); (try clear hi); (try clear ho0); obtain ⟨Ao58, co58, eo58⟩ := Kd.R_slice HO258.out; subst eo58))
       go_loopg [11] k1 (fun kq v11 w' => ∃ (x11_2 : Int) (x246000_2 : Int) (x246001_2 : Int) (x246002_2 : Int), v11 = .int .i64 x11_2 ∧ Aside0 (spec_ReadMaze.l1 kq l0 t256 x11_2 (wrap64 (((rdOf ByteArray.empty l0 0).size : Int) / 2)) (wrap64 ((l0.length : Int) / 2)) x248002_1 = some (r1, r2, r3, r4)) ∧ Aside0 (kq ≤ k1) ∧ Aside0 (Kd.R Kd.string 9 w' w.heap.size (fun _ => True) (.slice Ao58 t256.length co58) t256) ∧ Aside0 (w'.heap[gb245]? = some (.cells #[.int .i64 x246000_2, .int .i64 x246001_2, .int .i64 x246002_2] 30 (0, 0))) ∧ Aside0 (w'.heap[gb247]? = some (.cells #[.int .i64 (wrap64 (((rdOf ByteArray.empty l0 0).size : Int) / 2)), .int .i64 (wrap64 ((l0.length : Int) / 2)), .int .i64 x248002_1] 30 (0, 0))) ∧ Aside0 (Below w.heap.size w w'))
       case atStart => exact ⟨(0), (0), (0), (0), (by first | rfl | (simp; done) | (simp [*]; done)), H', ⟨Nat.le_refl _⟩, ⟨kr_ HO258.out⟩, ⟨kb_ BK245.out⟩, ⟨kb_ BK247.out⟩, ⟨hb_⟩⟩
       case round =>
        clear H'
        try clear c1
        try clear c2
        try clear c2b0
        try clear c2b1
        try clear c2b2
        try clear p2
        try clear q2
        try clear hx2
        try clear qi2
        try clear c3
        try clear p3
        try clear q3
        try clear hx3
        try clear c4
        try clear p4
        try clear q4
        try clear hx4
        try clear c5
        try clear c5b0
        try clear c5b1
        try clear p6
        try clear c8
        try clear c11
        try clear c11b0
        try clear c12
        try clear c13
        try clear c13b0
        try clear c13b1
        try clear c15
        try clear c21
        try clear c21b0
        try clear c21b1
        try clear c23
        try clear p24
        try clear q24
        try clear hx24
        try clear qi24
        try clear p25
        try clear q25
        try clear hx25
        try clear c26
        try clear c27
        try clear c27b0
        try clear c29
        try clear c29b0
        try clear c30
        try clear c30b0
        try clear c32
        try clear c32b0
        try clear p33
        try clear q33
        try clear hx33
        try clear c34
        try clear c34b0
        try clear c34b1
        try clear c35
        try clear c35b0
        try clear c35b1
        try clear c39
        try clear c39b0
        try clear c41
        try clear c41b0
        try clear c42
        try clear c42b0
        try clear c44
        try clear c44b0
        try clear p45
        try clear q45
        try clear hx45
        try clear c46
        try clear c46b0
        try clear c46b1
        try clear c47
        try clear c47b0
        try clear c47b1
        try clear c52
        try clear c52b0
        try clear c52b1
        try clear c52b2
        try clear c53
        try clear hcz16_0
        try clear hcz16_1
        try clear hcz16_2
        try clear hcz18_0
        try clear hcz18_1
        try clear hcz18_2
        try clear hcz20_0
        try clear hcz20_1
        try clear hcz20_2
        try clear hcz24_0
        try clear hcz24_1
        try clear hcz24_2
        try clear hcz4_0
        try clear hcz4_1
        try clear hcz4_2
        try clear hcz54_0
        try clear hcz54_1
        try clear hcz54_2
        try clear hcz56_0
        try clear hcz56_1
        try clear hcz56_2
        try clear hcz9_0
        try clear hcz9_1
        try clear hcz9_2
        try clear hfz16_0
        try clear hfz16_1
        try clear hfz16_2
        try clear hfz18_0
        try clear hfz18_1
        try clear hfz18_2
        try clear hfz20_0
        try clear hfz20_1
        try clear hfz20_2
        try clear hfz24_0
        try clear hfz24_1
        try clear hfz24_2
        try clear hfz4_0
        try clear hfz4_1
        try clear hfz4_2
        try clear hfz54_0
        try clear hfz54_1
        try clear hfz54_2
        try clear hfz56_0
        try clear hfz56_1
        try clear hfz56_2
        try clear hfz9_0
        try clear hfz9_1
        try clear hfz9_2
        try clear hx246_0
        try clear hx252_0
        try clear hx253_0
        try clear hx254_0
        try clear hx255_0
        try clear p2
        try clear p24
        try clear p246
        try clear p252
        try clear p253
        try clear p254
        try clear p255
        try clear p33
        try clear p45
        try clear p6
        try clear q2
        try clear q24
        try clear q246
        try clear q252
        try clear q253
        try clear q254
        try clear q255
        try clear q33
        try clear q45
        obtain ⟨x11_2, x246000_2, x246001_2, x246002_2, rfl, HA, HK2, HO_10, BK245, BK247, HB⟩ := hrel
        cases gk with
        | zero => exact absurd HA.out (by simp [spec_ReadMaze.l1])
        | succ k2 =>
         have H := HA.out
         clear HA
         simp only [spec_ReadMaze.l1] at H
         by_cases c59 : x11_2 < (t256.length : Int)
         ·rw [if_pos c59] at H
          have c59b0 : decide (x11_2 < (t256.length : Int)) = true := decide_eq_true c59
          clear c59
          by_cases c60 : 0 ≤ x11_2
          ·rw [if_pos c60] at H
           have c60b0 : decide (0 ≤ x11_2) = true := decide_eq_true c60
           clear c60
           by_cases c61 : x11_2 < (l0.length : Int)
           ·rw [if_pos c61] at H
            have c61b0 : decide (x11_2 < (l0.length : Int)) = true := decide_eq_true c61
            clear c61
            by_cases c62 : (rdOf ByteArray.empty t256 x11_2).toList = (rdOf ByteArray.empty l0 x11_2).toList
            ·rw [if_pos c62] at H
             have c62b0 : ((rdOf ByteArray.empty t256 x11_2).toList == (rdOf ByteArray.empty l0 x11_2).toList) = true := beq_iff_eq.mpr c62
             have c62b1 : ((rdOf ByteArray.empty t256 x11_2).toList != (rdOf ByteArray.empty l0 x11_2).toList) = false := bne_eq_false_iff_eq.mpr c62
             clear c62
             have H' := Aside0.mk H
             clear H
             try go_wp2
             have n0_ := Aside0.mk (Kd.R_drew HO_10.out)
             have n1_ := Aside0.mk (blk_drew BK245.out)
             have n2_ := Aside0.mk (blk_drew BK247.out)
             have n3_ := Aside0.mk (below_drew1 HB.out)
             clear HO_10
             clear BK245
             clear BK247
             clear HB
             have HO_10 := n0_
             have BK245 := n1_
             have BK247 := n2_
             have HB := n3_
             clear n0_ n1_ n2_ n3_
             have p259 : 0 ≤ (x11_2 : Int) := of_decide_eq_true (by first | (with_reducible assumption) | assumption)
             have q259 : x11_2 < (t256.length : Int) := of_decide_eq_true (by first | (with_reducible assumption) | assumption)
             obtain ⟨ad259, e259, hx259_0⟩ := Kd.at_string (Kd.R_reads' HO_10.out).2.2 x11_2 p259 q259
             cases e259
             replace p259 := eq_true p259
             replace q259 := eq_true q259
             have p260 : 0 ≤ (x11_2 : Int) := of_decide_eq_true (by first | (with_reducible assumption) | assumption)
             have q260 : x11_2 < (l0.length : Int) := of_decide_eq_true (by first | (with_reducible assumption) | assumption)
             obtain ⟨ad260, e260, hx260_0⟩ := Kd.at_string HR0.out x11_2 p260 q260
             have hw260_0 := hx260_0
             obtain rfl : ad246 = ad260 := (by injection e260)
             replace hx260_0 := (HB.out.cell (World.block_lt_of_cell? w _ hx260_0)).trans hx260_0
             replace p260 := eq_true p260
             replace q260 := eq_true q260
             refine start_ (n := 9) (S := fun w' => w'.cell? (ad259.add (x11_2).toNat) = some (.string (rdOf ByteArray.empty t256 x11_2)) ∧ w'.cell? (ad246.add (x11_2).toNat) = some (.string (rdOf ByteArray.empty l0 x11_2))) (ds := []) #[false, false, false, false, false, false, false, false, false] (by kernel_rfl) rfl rfl ⟨hx259_0, ((HB.out.cell (World.block_lt_of_cell? w _ hw260_0)).trans hw260_0)⟩ (fun hHeld => ?_); refine with_tabW spec_ReadMaze.tab21 spec_ReadMaze.bits21 (fun HT_ HW_ => ?_)
             generalize wr.drew = w63 at HO_10 BK245 BK247 HB hx259_0 hx260_0 hHeld ⊢
             refine pure_ (i := 0) (N := some 111) (v := ?_) (a' := ?_) #[true, false, false, false, false, false, false, false, false] rfl rfl (any_of HT_.out (by kernel_rfl)) (fun _ _ _ h => h) (Or.inl ⟨by rfl, ?_⟩) ?_ ?_
             rotate_left
             ·intro w'
              go_simp
              with_reducible rfl
             rotate_left
             ·simp only [Act.put, List.setIfInBounds_toArray, List.set_cons_zero, List.set_cons_succ, i64_w, i32_w]
              rfl
             refine pure_ (i := 1) (N := some 112) (v := ?_) (a' := ?_) #[true, true, false, false, false, false, false, false, false] rfl rfl (any_of HT_.out (by kernel_rfl)) (fun _ _ _ h => h) (Or.inl ⟨by rfl, ?_⟩) ?_ ?_
             rotate_left
             ·intro w'
              go_simp
              with_reducible rfl
             rotate_left
             ·simp only [Act.put, List.setIfInBounds_toArray, List.set_cons_zero, List.set_cons_succ, i64_w, i32_w]
              rfl
             refine pure_ (i := 2) (N := some 113) (v := ?_) (a' := ?_) #[true, true, true, false, false, false, false, false, false] rfl rfl (any_of HT_.out (by kernel_rfl)) (fun _ _ _ h => h) (Or.inl ⟨by rfl, ?_⟩) ?_ ?_
             rotate_left
             ·intro w'
              go_simp
              with_reducible rfl
             rotate_left
             ·simp only [Act.put, List.setIfInBounds_toArray, List.set_cons_zero, List.set_cons_succ, i64_w, i32_w]
              rfl
             refine pure_ (i := 4) (N := some 115) (v := ?_) (a' := ?_) #[true, true, true, false, true, false, false, false, false] rfl rfl (any_of HT_.out (by kernel_rfl)) (fun _ _ _ h => h) (Or.inl ⟨by rfl, ?_⟩) ?_ ?_
             rotate_left
             ·intro w'
              go_simp
              with_reducible rfl
             rotate_left
             ·simp only [Act.put, List.setIfInBounds_toArray, List.set_cons_zero, List.set_cons_succ, i64_w, i32_w]
              rfl
             refine pure_ (i := 5) (N := some 116) (v := ?_) (a' := ?_) #[true, true, true, false, true, true, false, false, false] rfl rfl (any_of HT_.out (by kernel_rfl)) (fun _ _ _ h => h) (Or.inl ⟨by rfl, ?_⟩) ?_ ?_
             rotate_left
             ·intro w'
              go_simp
              with_reducible rfl
             rotate_left
             ·simp only [Act.put, List.setIfInBounds_toArray, List.set_cons_zero, List.set_cons_succ, i64_w, i32_w]
              rfl
             refine pure_ (i := 6) (N := some 117) (v := ?_) (a' := ?_) #[true, true, true, false, true, true, true, false, false] rfl rfl (any_of HT_.out (by kernel_rfl)) (fun _ _ _ h => h) (Or.inl ⟨by rfl, ?_⟩) ?_ ?_
             rotate_left
             ·intro w'
              go_simp
              with_reducible rfl
             rotate_left
             ·simp only [Act.put, List.setIfInBounds_toArray, List.set_cons_zero, List.set_cons_succ, i64_w, i32_w]
              rfl
             refine take_ (i := 3) (N := some 114) (v := ?_) (a' := ?_) #[true, true, true, true, true, true, true, false, false] rfl rfl (take_ofW HT_.out HW_.out (by kernel_rfl)) (fun _ _ _ h => h) (Or.inl ⟨by rfl, ?_⟩) hHeld ?_ ?_
             rotate_left
             ·rintro w' ⟨s0, s1⟩
              go_simp
              with_reducible rfl
             rotate_left
             ·simp only [Act.put, List.setIfInBounds_toArray, List.set_cons_zero, List.set_cons_succ, i64_w, i32_w]
              rfl
             refine take_ (i := 7) (N := some 118) (v := ?_) (a' := ?_) #[true, true, true, true, true, true, true, true, false] rfl rfl (take_ofW HT_.out HW_.out (by kernel_rfl)) (fun _ _ _ h => h) (Or.inl ⟨by rfl, ?_⟩) hHeld ?_ ?_
             rotate_left
             ·rintro w' ⟨s0, s1⟩
              go_simp
              with_reducible rfl
             rotate_left
             ·simp only [Act.put, List.setIfInBounds_toArray, List.set_cons_zero, List.set_cons_succ, i64_w, i32_w]
              rfl
             refine pure_ (i := 8) (N := some 119) (v := ?_) (a' := ?_) #[true, true, true, true, true, true, true, true, true] rfl rfl (any_of HT_.out (by kernel_rfl)) (fun _ _ _ h => h) (Or.inl ⟨by rfl, ?_⟩) ?_ ?_
             rotate_left
             ·intro w'
              go_simp
              with_reducible rfl
             rotate_left
             ·simp only [Act.put, List.setIfInBounds_toArray, List.set_cons_zero, List.set_cons_succ, i64_w, i32_w]
              rfl
             refine done_ (done_of HT_.out (by kernel_rfl)) ?_
             try go_wp2
             go_roundg k2
             case measure => have := HK1.out; have := HK2.out; omega
             case rel => exact ⟨(wrap64 (x11_2 + 1)), (x246000_2), (x246001_2), (x246002_2), (by first | rfl | (simp; done) | (simp [*]; done)), H', ⟨by have := HK1.out; have := HK2.out; omega⟩, ⟨kr_ HO_10.out⟩, ⟨kb_ BK245.out⟩, ⟨kb_ BK247.out⟩, ⟨hb_⟩⟩
            ·rw [if_neg c62] at H
             have c62b0 : ((rdOf ByteArray.empty t256 x11_2).toList == (rdOf ByteArray.empty l0 x11_2).toList) = false := beq_eq_false_iff_ne.mpr c62
             have c62b1 : ((rdOf ByteArray.empty t256 x11_2).toList != (rdOf ByteArray.empty l0 x11_2).toList) = true := bne_iff_ne.mpr c62
             simp only [Option.some.injEq, Prod.mk.injEq] at H
             obtain ⟨rfl, rfl, rfl, rfl⟩ := H
             try go_wp2
             have n0_ := Aside0.mk (Kd.R_drew HO_10.out)
             have n1_ := Aside0.mk (blk_drew BK245.out)
             have n2_ := Aside0.mk (blk_drew BK247.out)
             have n3_ := Aside0.mk (below_drew1 HB.out)
             clear HO_10
             clear BK245
             clear BK247
             clear HB
             have HO_10 := n0_
             have BK245 := n1_
             have BK247 := n2_
             have HB := n3_
             clear n0_ n1_ n2_ n3_
             have p259 : 0 ≤ (x11_2 : Int) := of_decide_eq_true (by first | (with_reducible assumption) | assumption)
             have q259 : x11_2 < (t256.length : Int) := of_decide_eq_true (by first | (with_reducible assumption) | assumption)
             obtain ⟨ad259, e259, hx259_0⟩ := Kd.at_string (Kd.R_reads' HO_10.out).2.2 x11_2 p259 q259
             cases e259
             replace p259 := eq_true p259
             replace q259 := eq_true q259
             have p260 : 0 ≤ (x11_2 : Int) := of_decide_eq_true (by first | (with_reducible assumption) | assumption)
             have q260 : x11_2 < (l0.length : Int) := of_decide_eq_true (by first | (with_reducible assumption) | assumption)
             obtain ⟨ad260, e260, hx260_0⟩ := Kd.at_string HR0.out x11_2 p260 q260
             have hw260_0 := hx260_0
             obtain rfl : ad246 = ad260 := (by injection e260)
             replace hx260_0 := (HB.out.cell (World.block_lt_of_cell? w _ hx260_0)).trans hx260_0
             replace p260 := eq_true p260
             replace q260 := eq_true q260
             refine start_ (n := 9) (S := fun w' => w'.cell? (ad259.add (x11_2).toNat) = some (.string (rdOf ByteArray.empty t256 x11_2)) ∧ w'.cell? (ad246.add (x11_2).toNat) = some (.string (rdOf ByteArray.empty l0 x11_2))) (ds := []) #[false, false, false, false, false, false, false, false, false] (by kernel_rfl) rfl rfl ⟨hx259_0, ((HB.out.cell (World.block_lt_of_cell? w _ hw260_0)).trans hw260_0)⟩ (fun hHeld => ?_); refine with_tabW spec_ReadMaze.tab21 spec_ReadMaze.bits21 (fun HT_ HW_ => ?_)
             generalize wr.drew = w64 at HO_10 BK245 BK247 HB hx259_0 hx260_0 hHeld ⊢
             refine pure_ (i := 0) (N := some 111) (v := ?_) (a' := ?_) #[true, false, false, false, false, false, false, false, false] rfl rfl (any_of HT_.out (by kernel_rfl)) (fun _ _ _ h => h) (Or.inl ⟨by rfl, ?_⟩) ?_ ?_
             rotate_left
             ·intro w'
              go_simp
              with_reducible rfl
             rotate_left
             ·simp only [Act.put, List.setIfInBounds_toArray, List.set_cons_zero, List.set_cons_succ, i64_w, i32_w]
              rfl
             refine pure_ (i := 1) (N := some 112) (v := ?_) (a' := ?_) #[true, true, false, false, false, false, false, false, false] rfl rfl (any_of HT_.out (by kernel_rfl)) (fun _ _ _ h => h) (Or.inl ⟨by rfl, ?_⟩) ?_ ?_
             rotate_left
             ·intro w'
              go_simp
              with_reducible rfl
             rotate_left
             ·simp only [Act.put, List.setIfInBounds_toArray, List.set_cons_zero, List.set_cons_succ, i64_w, i32_w]
              rfl
             refine pure_ (i := 2) (N := some 113) (v := ?_) (a' := ?_) #[true, true, true, false, false, false, false, false, false] rfl rfl (any_of HT_.out (by kernel_rfl)) (fun _ _ _ h => h) (Or.inl ⟨by rfl, ?_⟩) ?_ ?_
             rotate_left
             ·intro w'
              go_simp
              with_reducible rfl
             rotate_left
             ·simp only [Act.put, List.setIfInBounds_toArray, List.set_cons_zero, List.set_cons_succ, i64_w, i32_w]
              rfl
             refine pure_ (i := 4) (N := some 115) (v := ?_) (a' := ?_) #[true, true, true, false, true, false, false, false, false] rfl rfl (any_of HT_.out (by kernel_rfl)) (fun _ _ _ h => h) (Or.inl ⟨by rfl, ?_⟩) ?_ ?_
             rotate_left
             ·intro w'
              go_simp
              with_reducible rfl
             rotate_left
             ·simp only [Act.put, List.setIfInBounds_toArray, List.set_cons_zero, List.set_cons_succ, i64_w, i32_w]
              rfl
             refine pure_ (i := 5) (N := some 116) (v := ?_) (a' := ?_) #[true, true, true, false, true, true, false, false, false] rfl rfl (any_of HT_.out (by kernel_rfl)) (fun _ _ _ h => h) (Or.inl ⟨by rfl, ?_⟩) ?_ ?_
             rotate_left
             ·intro w'
              go_simp
              with_reducible rfl
             rotate_left
             ·simp only [Act.put, List.setIfInBounds_toArray, List.set_cons_zero, List.set_cons_succ, i64_w, i32_w]
              rfl
             refine pure_ (i := 6) (N := some 117) (v := ?_) (a' := ?_) #[true, true, true, false, true, true, true, false, false] rfl rfl (any_of HT_.out (by kernel_rfl)) (fun _ _ _ h => h) (Or.inl ⟨by rfl, ?_⟩) ?_ ?_
             rotate_left
             ·intro w'
              go_simp
              with_reducible rfl
             rotate_left
             ·simp only [Act.put, List.setIfInBounds_toArray, List.set_cons_zero, List.set_cons_succ, i64_w, i32_w]
              rfl
             refine take_ (i := 3) (N := some 114) (v := ?_) (a' := ?_) #[true, true, true, true, true, true, true, false, false] rfl rfl (take_ofW HT_.out HW_.out (by kernel_rfl)) (fun _ _ _ h => h) (Or.inl ⟨by rfl, ?_⟩) hHeld ?_ ?_
             rotate_left
             ·rintro w' ⟨s0, s1⟩
              go_simp
              with_reducible rfl
             rotate_left
             ·simp only [Act.put, List.setIfInBounds_toArray, List.set_cons_zero, List.set_cons_succ, i64_w, i32_w]
              rfl
             refine take_ (i := 7) (N := some 118) (v := ?_) (a' := ?_) #[true, true, true, true, true, true, true, true, false] rfl rfl (take_ofW HT_.out HW_.out (by kernel_rfl)) (fun _ _ _ h => h) (Or.inl ⟨by rfl, ?_⟩) hHeld ?_ ?_
             rotate_left
             ·rintro w' ⟨s0, s1⟩
              go_simp
              with_reducible rfl
             rotate_left
             ·simp only [Act.put, List.setIfInBounds_toArray, List.set_cons_zero, List.set_cons_succ, i64_w, i32_w]
              rfl
             refine pure_ (i := 8) (N := some 119) (v := ?_) (a' := ?_) #[true, true, true, true, true, true, true, true, true] rfl rfl (any_of HT_.out (by kernel_rfl)) (fun _ _ _ h => h) (Or.inl ⟨by rfl, ?_⟩) ?_ ?_
             rotate_left
             ·intro w'
              go_simp
              with_reducible rfl
             rotate_left
             ·simp only [Act.put, List.setIfInBounds_toArray, List.set_cons_zero, List.set_cons_succ, i64_w, i32_w]
              rfl
             refine done_ (done_of HT_.out (by kernel_rfl)) ?_
             have hnb65 := NB245_247.out
             have hnc65 := NB247_245.out
             have hcz66_0 := cz_ (.int .i64 x246000_2) BK245.out 0
             have hcz66_1 := cz_ (.int .i64 x246001_2) BK245.out 1
             have hcz66_2 := cz_ (.int .i64 x246002_2) BK245.out 2
             have hfz66_0 := blk_frozen BK245.out 0
             have hfz66_1 := blk_frozen BK245.out 1
             have hfz66_2 := blk_frozen BK245.out 2
             try go_wp2
             try (have hq245_0 : _ = some (.int .i64 0) := (blk_cell BK245.out 0).trans rfl; have hqf245_0 := blk_frozen BK245.out 0; have hq245_1 : _ = some (.int .i64 0) := (blk_cell BK245.out 1).trans rfl; have hqf245_1 := blk_frozen BK245.out 1; have hq245_2 : _ = some (.int .i64 0) := (blk_cell BK245.out 2).trans rfl; have hqf245_2 := blk_frozen BK245.out 2; have hq247_0 : _ = some (.int .i64 (wrap64 (((rdOf ByteArray.empty l0 0).size : Int) / 2))) := (blk_cell BK247.out 0).trans rfl; have hqf247_0 := blk_frozen BK247.out 0; have hq247_1 : _ = some (.int .i64 (wrap64 ((l0.length : Int) / 2))) := (blk_cell BK247.out 1).trans rfl; have hqf247_1 := blk_frozen BK247.out 1; have hq247_2 : _ = some (.int .i64 x248002_1) := (blk_cell BK247.out 2).trans rfl; have hqf247_2 := blk_frozen BK247.out 2; go_wp2)
             refine bodyPost_ret (results_ct rfl _ _ gb245 30 #[.int .i64 0, .int .i64 0, .int .i64 0] (0, 0) _ rfl (by (with_reducible repeat (first | refine blk_drewN ?_ _ | refine blk_drew ?_ | refine blk_alloc ?_ _)); refine blk_put (cs := #[.int .i64 0, .int .i64 0, .int .i64 x246002_2]) ?_ 2 _ rfl; (with_reducible repeat (first | refine blk_drewN ?_ _ | refine blk_drew ?_ | refine blk_alloc ?_ _)); refine blk_put (cs := #[.int .i64 0, .int .i64 x246001_2, .int .i64 x246002_2]) ?_ 1 _ rfl; (with_reducible repeat (first | refine blk_drewN ?_ _ | refine blk_drew ?_ | refine blk_alloc ?_ _)); refine blk_put (cs := #[.int .i64 x246000_2, .int .i64 x246001_2, .int .i64 x246002_2]) ?_ 0 _ rfl; (with_reducible repeat (first | refine blk_drewN ?_ _ | refine blk_drew ?_ | refine blk_alloc ?_ _)); exact BK245.out) Try.underlying30 rfl (by kernel_rfl)) rfl ?_
             exact ⟨er_, hb_⟩
           ·rw [if_neg c61] at H
            exact absurd H (by simp)
          ·rw [if_neg c60] at H
           exact absurd H (by simp)
         ·rw [if_neg c59] at H
          have c59b0 : decide (x11_2 < (t256.length : Int)) = false := decide_eq_false c59
          clear c59
          simp only [Option.some.injEq, Prod.mk.injEq] at H
          obtain ⟨rfl, rfl, rfl, rfl⟩ := H
          have hnb67 := NB247_245.out
          have hnc67 := NB245_247.out
          have hcz68_0 : wr.cell? ⟨gb247, 0, none⟩ = some (.int .i64 (wrap64 (((rdOf ByteArray.empty l0 0).size : Int) / 2))) := (blk_cell BK247.out 0).trans rfl
          have hcz68_1 : wr.cell? ⟨gb247, 1, none⟩ = some (.int .i64 (wrap64 ((l0.length : Int) / 2))) := (blk_cell BK247.out 1).trans rfl
          have hcz68_2 : wr.cell? ⟨gb247, 2, none⟩ = some (.int .i64 x248002_1) := (blk_cell BK247.out 2).trans rfl
          have hfz68_0 := blk_frozen BK247.out 0
          have hfz68_1 := blk_frozen BK247.out 1
          have hfz68_2 := blk_frozen BK247.out 2
          have hcz69_0 : wr.cell? ⟨gb245, 0, none⟩ = some (.int .i64 x246000_2) := (blk_cell BK245.out 0).trans rfl
          have hcz69_1 : wr.cell? ⟨gb245, 1, none⟩ = some (.int .i64 x246001_2) := (blk_cell BK245.out 1).trans rfl
          have hcz69_2 : wr.cell? ⟨gb245, 2, none⟩ = some (.int .i64 x246002_2) := (blk_cell BK245.out 2).trans rfl
          have hfz69_0 := blk_frozen BK245.out 0
          have hfz69_1 := blk_frozen BK245.out 1
          have hfz69_2 := blk_frozen BK245.out 2
          go_wp2
          try (have hq245_0 : _ = some (.int .i64 (wrap64 (((rdOf ByteArray.empty l0 0).size : Int) / 2))) := (blk_cell BK245.out 0).trans rfl; have hqf245_0 := blk_frozen BK245.out 0; have hq245_1 : _ = some (.int .i64 (wrap64 ((l0.length : Int) / 2))) := (blk_cell BK245.out 1).trans rfl; have hqf245_1 := blk_frozen BK245.out 1; have hq245_2 : _ = some (.int .i64 x248002_1) := (blk_cell BK245.out 2).trans rfl; have hqf245_2 := blk_frozen BK245.out 2; have hq247_0 : _ = some (.int .i64 (wrap64 (((rdOf ByteArray.empty l0 0).size : Int) / 2))) := (blk_cell BK247.out 0).trans rfl; have hqf247_0 := blk_frozen BK247.out 0; have hq247_1 : _ = some (.int .i64 (wrap64 ((l0.length : Int) / 2))) := (blk_cell BK247.out 1).trans rfl; have hqf247_1 := blk_frozen BK247.out 1; have hq247_2 : _ = some (.int .i64 x248002_1) := (blk_cell BK247.out 2).trans rfl; have hqf247_2 := blk_frozen BK247.out 2; go_wp2)
          refine bodyPost_ret (results_ct rfl _ _ gb245 30 #[.int .i64 (wrap64 (((rdOf ByteArray.empty l0 0).size : Int) / 2)), .int .i64 (wrap64 ((l0.length : Int) / 2)), .int .i64 x248002_1] (0, 0) _ rfl (by (with_reducible repeat (first | refine blk_drewN ?_ _ | refine blk_drew ?_ | refine blk_alloc ?_ _)); refine blk_put (cs := #[.int .i64 (wrap64 (((rdOf ByteArray.empty l0 0).size : Int) / 2)), .int .i64 (wrap64 ((l0.length : Int) / 2)), .int .i64 x246002_2]) ?_ 2 _ rfl; (with_reducible repeat (first | refine blk_drewN ?_ _ | refine blk_drew ?_ | refine blk_alloc ?_ _)); refine blk_put (cs := #[.int .i64 (wrap64 (((rdOf ByteArray.empty l0 0).size : Int) / 2)), .int .i64 x246001_2, .int .i64 x246002_2]) ?_ 1 _ rfl; (with_reducible repeat (first | refine blk_drewN ?_ _ | refine blk_drew ?_ | refine blk_alloc ?_ _)); refine blk_put (cs := #[.int .i64 x246000_2, .int .i64 x246001_2, .int .i64 x246002_2]) ?_ 0 _ rfl; (with_reducible repeat (first | refine blk_drewN ?_ _ | refine blk_drew ?_ | refine blk_alloc ?_ _)); exact BK245.out) Try.underlying30 rfl (by kernel_rfl)) rfl ?_
          exact ⟨er_, hb_⟩
      ·rw [if_neg c52] at H
       have c52b0 : ((t256.length : Int) == (l0.length : Int)) = false := beq_eq_false_iff_ne.mpr c52
       have c52b1 : ((t256.length : Int) != (l0.length : Int)) = true := bne_iff_ne.mpr c52
       have c52b2 : (t256.length == l0.length) = false := by first | simpa using c52 | (simp at c52 ⊢; omega)
       simp only [Option.some.injEq, Prod.mk.injEq] at H
       obtain ⟨rfl, rfl, rfl, rfl⟩ := H
       have hnb70 := NB247_245.out
       have hnc70 := NB245_247.out
       have hcz71_0 : wr.cell? ⟨gb247, 0, none⟩ = some (.int .i64 (wrap64 (((rdOf ByteArray.empty l0 0).size : Int) / 2))) := (blk_cell BK247.out 0).trans rfl
       have hcz71_1 : wr.cell? ⟨gb247, 1, none⟩ = some (.int .i64 (wrap64 ((l0.length : Int) / 2))) := (blk_cell BK247.out 1).trans rfl
       have hcz71_2 : wr.cell? ⟨gb247, 2, none⟩ = some (.int .i64 x248002_1) := (blk_cell BK247.out 2).trans rfl
       have hfz71_0 := blk_frozen BK247.out 0
       have hfz71_1 := blk_frozen BK247.out 1
       have hfz71_2 := blk_frozen BK247.out 2
       go_wp2_with (first | ((with_reducible refine gate_callee (f := 26) rfl ?_); refine goesL_ (some 29) rfl rfl Try.func26 (by kernel_rfl) rfl #[.agg #[.int .i64 (wrap64 (((rdOf ByteArray.empty l0 0).size : Int) / 2)), .int .i64 (wrap64 ((l0.length : Int) / 2))]] rfl mp_ ?_; (with_reducible refine (spec_CountGaps.calls (wrap64 (((rdOf ByteArray.empty l0 0).size : Int) / 2)) (wrap64 ((l0.length : Int) / 2)) t248 _ A10.out).mono ?_); rintro e w72 ⟨rfl, hb⟩; refine ⟨_, rfl, ?_⟩; have n0_ := Aside0.mk (blk_below (g := gb245) (o := .cells #[.int .i64 0, .int .i64 0, .int .i64 0] 30 (0, 0)) (kb_ BK245.out) hb); have n1_ := Aside0.mk (blk_below (g := gb247) (o := .cells #[.int .i64 (wrap64 (((rdOf ByteArray.empty l0 0).size : Int) / 2)), .int .i64 (wrap64 ((l0.length : Int) / 2)), .int .i64 x248002_1] 30 (0, 0)) (kb_ BK247.out) hb); have n2_ := Aside0.mk (below_step hb_ hb); clear BK245; clear BK247; clear HB; have BK245 := n0_; have BK247 := n1_; have HB := n2_; clear n0_ n1_ n2_; (try clear hb); (try clear hb2); (try clear hk); (try clear hi); have hcz73_0 : w72.cell? ⟨gb247, 0, none⟩ = some (.int .i64 (wrap64 (((rdOf ByteArray.empty l0 0).size : Int) / 2))) := (blk_cell BK247.out 0).trans rfl; have hcz73_1 : w72.cell? ⟨gb247, 1, none⟩ = some (.int .i64 (wrap64 ((l0.length : Int) / 2))) := (blk_cell BK247.out 1).trans rfl; have hcz73_2 := cz_ (.int .i64 x248002_1) BK247.out 2; have hfz73_0 := blk_frozen BK247.out 0; have hfz73_1 := blk_frozen BK247.out 1; have hfz73_2 := blk_frozen BK247.out 2) | ((with_reducible refine gate_callee (f := 5) rfl ?_); refine goesL_ (some 98) rfl rfl Try.func5 (by kernel_rfl) rfl #[.agg #[.int .i64 (wrap64 (((rdOf ByteArray.empty l0 0).size : Int) / 2)), .int .i64 (wrap64 ((l0.length : Int) / 2)), .int .i64 x248002_1]] rfl mp_ ?_; (with_reducible refine (spec_MazeLines.calls k1 (wrap64 (((rdOf ByteArray.empty l0 0).size : Int) / 2)) (wrap64 ((l0.length : Int) / 2)) x248002_1 t256 _ A51.out).mono ?_); rintro e w74 ⟨v257, rfl, ho0, hb⟩; refine ⟨_, rfl, ?_⟩; have n0_ := Aside0.mk (Kd.R_lower ho0 (below_size hb_)); have n1_ := Aside0.mk (blk_below (g := gb245) (o := .cells #[.int .i64 0, .int .i64 0, .int .i64 0] 30 (0, 0)) (kb_ BK245.out) hb); have n2_ := Aside0.mk (blk_below (g := gb247) (o := .cells #[.int .i64 (wrap64 (((rdOf ByteArray.empty l0 0).size : Int) / 2)), .int .i64 (wrap64 ((l0.length : Int) / 2)), .int .i64 x248002_1] 30 (0, 0)) (kb_ BK247.out) hb); have n3_ := Aside0.mk (below_step hb_ hb); clear BK245; clear BK247; clear HB; have HO258 := n0_; have BK245 := n1_; have BK247 := n2_; have HB := n3_; clear n0_ n1_ n2_ n3_; (try clear hb); (try clear hb2); (try clear hk); (try clear hi); (try clear ho0); obtain ⟨Ao75, co75, eo75⟩ := Kd.R_slice HO258.out; subst eo75; have hcz76_0 := cz_ (.int .i64 0) BK245.out 0; have hcz76_1 := cz_ (.int .i64 0) BK245.out 1; have hcz76_2 := cz_ (.int .i64 0) BK245.out 2; have hfz76_0 := blk_frozen BK245.out 0; have hfz76_1 := blk_frozen BK245.out 1; have hfz76_2 := blk_frozen BK245.out 2))
       try (have hq245_0 : _ = some (.int .i64 0) := (blk_cell BK245.out 0).trans rfl; have hqf245_0 := blk_frozen BK245.out 0; have hq245_1 : _ = some (.int .i64 0) := (blk_cell BK245.out 1).trans rfl; have hqf245_1 := blk_frozen BK245.out 1; have hq245_2 : _ = some (.int .i64 0) := (blk_cell BK245.out 2).trans rfl; have hqf245_2 := blk_frozen BK245.out 2; have hq247_0 : _ = some (.int .i64 (wrap64 (((rdOf ByteArray.empty l0 0).size : Int) / 2))) := (blk_cell BK247.out 0).trans rfl; have hqf247_0 := blk_frozen BK247.out 0; have hq247_1 : _ = some (.int .i64 (wrap64 ((l0.length : Int) / 2))) := (blk_cell BK247.out 1).trans rfl; have hqf247_1 := blk_frozen BK247.out 1; have hq247_2 : _ = some (.int .i64 x248002_1) := (blk_cell BK247.out 2).trans rfl; have hqf247_2 := blk_frozen BK247.out 2; go_wp2)
       refine bodyPost_ret (results_ct rfl _ _ gb245 30 #[.int .i64 0, .int .i64 0, .int .i64 0] (0, 0) _ rfl (by (with_reducible repeat (first | refine blk_drewN ?_ _ | refine blk_drew ?_ | refine blk_alloc ?_ _)); refine blk_put (cs := #[.int .i64 0, .int .i64 0, .int .i64 0]) ?_ 2 _ rfl; (with_reducible repeat (first | refine blk_drewN ?_ _ | refine blk_drew ?_ | refine blk_alloc ?_ _)); refine blk_put (cs := #[.int .i64 0, .int .i64 0, .int .i64 0]) ?_ 1 _ rfl; (with_reducible repeat (first | refine blk_drewN ?_ _ | refine blk_drew ?_ | refine blk_alloc ?_ _)); refine blk_put (cs := #[.int .i64 0, .int .i64 0, .int .i64 0]) ?_ 0 _ rfl; (with_reducible repeat (first | refine blk_drewN ?_ _ | refine blk_drew ?_ | refine blk_alloc ?_ _)); exact BK245.out) Try.underlying30 rfl (by kernel_rfl)) rfl ?_
       exact ⟨er_, hb_⟩
  ·rw [if_neg c5] at H
   exact absurd H (by simp)

end Go.Proofs.Ytcmdjbaehecicaa.Q
