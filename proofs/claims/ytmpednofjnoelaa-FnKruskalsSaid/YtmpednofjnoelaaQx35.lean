/- Plain Lean functions of Go functions, and for each the proof that its call comes to just that answer. Conditions: in each theorem's statement. -/
import Derived.Test.YtmpednofjnoelaaQx0
import Derived.Test.YtmpednofjnoelaaQx1
import Derived.Test.YtmpednofjnoelaaQx16
import Derived.Test.YtmpednofjnoelaaQx23
import Derived.Test.YtmpednofjnoelaaQx25
import Derived.Test.YtmpednofjnoelaaQx33
import Derived.Test.YtmpednofjnoelaaQx34
namespace Go.Proofs.Ytmpednofjnoelaa.Q
open Go.RowKit Go.Proofs.YtmpednofjnoelaaW.PrintWords Go.Proofs.YtmpednofjnoelaaW.PrintLast
attribute [local go_sem] max2_int min2_int max_two min_two   -- for this text's walks alone
set_option linter.unusedVariables false
set_option linter.unusedSimpArgs false

/-! ### impl_areGaps: function 54 -/
def gapB (w h c : Int) : Bool := (impl_isGap.f w h c).getD false
theorem isGap_some (w h c : Int) : impl_isGap.f w h c = some (gapB w h c) := by
 unfold gapB impl_isGap.f impl_CountGaps.f impl_GridOk.f
 generalize decide (h ≤ 4) = b
 by_cases h1 : c ≥ 0 <;> by_cases h2 : w ≥ 1 <;> by_cases h3 : w ≤ 4 <;> by_cases h4 : h ≥ 1 <;> cases b <;> simp [h1, h2, h3, h4]
set_option maxHeartbeats 4000000 in
set_option maxRecDepth 100000 in
theorem areGaps_fn (gb : Nat) (a0_0 a0_1 x : Int) (w : World) (hk : w.heap[gb]? = some (.cells #[.int .i64 a0_0, .int .i64 a0_1] 28 (0, 0))) :
  Calls Try.prog 81 #[.int .i64 x, .pointer (some ⟨gb, 0, none⟩)] w fun e w' => e = .returned (.bool (!gapB a0_0 a0_1 x)) ∧ Below w.heap.size w w' := by
 have hu29 := Try.underlying28
 have hc0 : w.cell? ⟨gb, 0, none⟩ = some (.int .i64 a0_0) := (blk_cell hk 0).trans rfl
 have hc1 : w.cell? ⟨gb, 1, none⟩ = some (.int .i64 a0_1) := (blk_cell hk 1).trans rfl
 have HS := Aside0.mk (isGap_some a0_0 a0_1 x)
 clear hk
 go_enter Try.func81, Try.ntmps81
 go_wp2_with (go_at_call 55; with_reducible refine (impl_isGap.calls a0_0 a0_1 x _ _ HS.out).mono ?_; rintro e w1 ⟨rfl, hb⟩)
 go_ret
 exact ⟨rfl, hb⟩
theorem areGaps_pred (gb : Nat) (a0_0 a0_1 : Int) (w : World) (hk : w.heap[gb]? = some (.cells #[.int .i64 a0_0, .int .i64 a0_1] 28 (0, 0))) :
  PredG 81 #[.pointer (some ⟨gb, 0, none⟩)] (fun c => !gapB a0_0 a0_1 c) w := fun W x hb => areGaps_fn gb a0_0 a0_1 x W (blk_below hk hb)
def impl_areGaps.f (a0_0 : Int) (a0_1 : Int) (l1 : List Int) : Option (Bool) := (impl_GridOk.f a0_0 a0_1).bind fun t => if t = true then (if (l1.length : Int) ≤ 100 then some (!(l1.any fun c => !gapB a0_0 a0_1 c)) else some false) else some false

set_option maxHeartbeats 4000000 in
set_option maxRecDepth 100000 in
theorem impl_areGaps.calls (a0_0 : Int) (a0_1 : Int) (A1 : Option Addr) (c1 : Nat) (l1 : List Int) (r : Bool) (w : World) (hr1 : Kd.C (Kd.int .i64) w A1 l1.length l1) (hc1 : l1.length ≤ c1) (h : impl_areGaps.f a0_0 a0_1 l1 = some r) :
  Calls Try.prog 54 #[.agg #[.int .i64 a0_0, .int .i64 a0_1], .slice A1 l1.length c1] w fun e w' => e = .returned (.bool r) ∧ Below w.heap.size w w' := by
 have hu29 := Try.underlying28
 have HR := Aside0.mk hr1
 have hl : l1.length ≤ 9223372036854775807 := hr1.2.1
 clear hr1
 unfold impl_areGaps.f at h
 obtain ⟨t, ht, h⟩ := Option.bind_eq_some_iff.1 h
 have HT := Aside0.mk ht
 clear ht
 have HB := Aside0.mk (Below.refl w.heap.size w)
 have EG := Aside0.mk (show ∀ args w, (callFunc 81 args).run Try.prog w = .ok (.enter 81 args) w from enters_of Try.func81 (by kernel_rfl) rfl)
 cases t with
 | false =>
  rw [if_neg (by decide)] at h
  obtain rfl := Option.some.inj h
  clear h
  go_enter Try.func54, Try.ntmps54
  go_wp2_with (first | ((with_reducible refine gate_dst (N := 2) rfl ?_); refine box_event ?hg (N := 2) ?hd (cs := #[.int .i64 a0_0, .int .i64 a0_1]) (t := 28) ?hr ?_; (case hd => rfl); (case hg => rfl); (case hr => first | (go_simp; done) | (go_simp; rfl)); intro gb hg w5 hbox hb; have BK := Aside0.mk hbox; have HB1 := Aside0.mk (below_step HB.out hb); clear HB; have HB := HB1; clear HB1 hb hbox hg; have hc0 : w5.cell? ⟨gb, 0, none⟩ = some (.int .i64 a0_0) := (blk_cell BK.out 0).trans rfl; have hc1_ : w5.cell? ⟨gb, 1, none⟩ = some (.int .i64 a0_1) := (blk_cell BK.out 1).trans rfl) | (go_at_call 76; with_reducible refine (impl_GridOk.calls a0_0 a0_1 false _ HT.out).mono ?_; rintro e w6 ⟨rfl, hb⟩; have HB1 := Aside0.mk (below_step HB.out hb); have BK1 := Aside0.mk (blk_below BK.out hb); clear HB BK; have HB := HB1; have BK := BK1; clear HB1 BK1 hb))
  go_ret
  exact ⟨rfl, HB.out⟩
 | true =>
  rw [if_pos rfl] at h
  by_cases h100 : (l1.length : Int) ≤ 100
  ·rw [if_pos h100] at h
   obtain rfl := Option.some.inj h
   clear h
   go_enter Try.func54, Try.ntmps54
   go_wp2_with (first | ((with_reducible refine gate_dst (N := 2) rfl ?_); refine box_event ?hg (N := 2) ?hd (cs := #[.int .i64 a0_0, .int .i64 a0_1]) (t := 28) ?hr ?_; (case hd => rfl); (case hg => rfl); (case hr => first | (go_simp; done) | (go_simp; rfl)); intro gb hg w5 hbox hb; have BK := Aside0.mk hbox; have HB1 := Aside0.mk (below_step HB.out hb); clear HB; have HB := HB1; clear HB1 hb hbox hg; have hc0 : w5.cell? ⟨gb, 0, none⟩ = some (.int .i64 a0_0) := (blk_cell BK.out 0).trans rfl; have hc1_ : w5.cell? ⟨gb, 1, none⟩ = some (.int .i64 a0_1) := (blk_cell BK.out 1).trans rfl) | (go_at_call 76; with_reducible refine (impl_GridOk.calls a0_0 a0_1 true _ HT.out).mono ?_; rintro e w6 ⟨rfl, hb⟩; have HB1 := Aside0.mk (below_step HB.out hb); have BK1 := Aside0.mk (blk_below BK.out hb); clear HB BK; have HB := HB1; have BK := BK1; clear HB1 BK1 hb) | (go_at_call 80; with_reducible refine (contains_any 81 #[.pointer (some ⟨gb, 0, none⟩)] (fun c => !gapB a0_0 a0_1 c) EG.out A1 c1 l1 _ (Kd.C_below HR.out HB.out) hc1 hl (areGaps_pred gb a0_0 a0_1 _ BK.out)).mono ?_; rintro e w7 ⟨rfl, hb⟩; have HB1 := Aside0.mk (below_step HB.out hb); clear HB; have HB := HB1; clear HB1 hb))
   go_ret
   exact ⟨rfl, HB.out⟩
  ·rw [if_neg h100] at h
   obtain rfl := Option.some.inj h
   clear h
   go_enter Try.func54, Try.ntmps54
   go_wp2_with (first | ((with_reducible refine gate_dst (N := 2) rfl ?_); refine box_event ?hg (N := 2) ?hd (cs := #[.int .i64 a0_0, .int .i64 a0_1]) (t := 28) ?hr ?_; (case hd => rfl); (case hg => rfl); (case hr => first | (go_simp; done) | (go_simp; rfl)); intro gb hg w5 hbox hb; have BK := Aside0.mk hbox; have HB1 := Aside0.mk (below_step HB.out hb); clear HB; have HB := HB1; clear HB1 hb hbox hg; have hc0 : w5.cell? ⟨gb, 0, none⟩ = some (.int .i64 a0_0) := (blk_cell BK.out 0).trans rfl; have hc1_ : w5.cell? ⟨gb, 1, none⟩ = some (.int .i64 a0_1) := (blk_cell BK.out 1).trans rfl) | (go_at_call 76; with_reducible refine (impl_GridOk.calls a0_0 a0_1 true _ HT.out).mono ?_; rintro e w6 ⟨rfl, hb⟩; have HB1 := Aside0.mk (below_step HB.out hb); have BK1 := Aside0.mk (blk_below BK.out hb); clear HB BK; have HB := HB1; have BK := BK1; clear HB1 BK1 hb))
   go_ret
   exact ⟨rfl, HB.out⟩

/-! ### impl_KruskalMaze: function 22 -/
def impl_KruskalMaze.l0 : Nat → List Int → Int → Int → Int → Int → Int → Option (Int × Int × Int × Bool)
 | 0, _, _, _, _, _, _ => none
 | k + 1, x16, x17, x18, x446000, x446001, x446002 => if x18 < x17 then (if 0 ≤ x18 then (if x18 < (x16.length : Int) then ((impl_WouldJoin.f k x446000 x446001 x446002 (rd x16 x18)).bind fun t448 => (if t448 = true then ((impl_with.f x446000 x446001 x446002 (rd x16 x18) true).bind fun bt449 => (impl_KruskalMaze.l0 k x16 x17 (wrap64 (x18 + 1)) bt449.1 bt449.2.1 bt449.2.2)) else (impl_KruskalMaze.l0 k x16 x17 (wrap64 (x18 + 1)) x446000 x446001 x446002))) else (none)) else (none)) else ((impl_IsPerfect.f k x446000 x446001 x446002).bind fun t446 => (some (x446000, x446001, x446002, t446)))
def impl_KruskalMaze.f (k : Nat) (a0_0 : Int) (a0_1 : Int) (l1 : List Int) : Option (Int × Int × Int × Bool) := (impl_areGaps.f a0_0 a0_1 l1).bind fun t444 => (if t444 = true then (impl_KruskalMaze.l0 k l1 (l1.length : Int) 0 a0_0 a0_1 0) else (some (0, 0, 0, false)))
theorem impl_KruskalMaze.mono_l : ∀ k, (∀ y0 y1 y2 y3 y4 y5, LeO (impl_KruskalMaze.l0 k y0 y1 y2 y3 y4 y5) (impl_KruskalMaze.l0 (k + 1) y0 y1 y2 y3 y4 y5))
 | 0 => fun _ _ _ _ _ _ r h => by simp [impl_KruskalMaze.l0] at h
 | k + 1 => by
  have ih0 := impl_KruskalMaze.mono_l k
  ·intro y0 y1 y2 y3 y4 y5
   unfold impl_KruskalMaze.l0
   repeat' first
   | (with_reducible exact ih0 _ _ _ _ _ _)
   | (with_reducible exact impl_IsPerfect.mono _ _ _ _)
   | (with_reducible exact impl_WouldJoin.mono _ _ _ _ _)
   | (with_reducible exact LeO.refl _)
   | (with_reducible exact LeO.none _)
   | (with_reducible refine LeO.ite ?_ ?_)
   | (with_reducible refine LeO.bind ?_ (fun _ => ?_))
   | exact ih0 _ _ _ _ _ _
   | exact impl_IsPerfect.mono _ _ _ _
   | exact impl_WouldJoin.mono _ _ _ _ _
   | exact LeO.none _
   | refine LeO.ite ?_ ?_
   | refine LeO.bind ?_ (fun _ => ?_)
theorem impl_KruskalMaze.mono : ∀ a0 a1 a2 k, LeO (impl_KruskalMaze.f k a0 a1 a2) (impl_KruskalMaze.f (k + 1) a0 a1 a2) := by
 intro a0 a1 a2 k
 have ih0 := impl_KruskalMaze.mono_l k
 unfold impl_KruskalMaze.f
 repeat' first
   | (with_reducible exact ih0 _ _ _ _ _ _)
   | (with_reducible exact impl_IsPerfect.mono _ _ _ _)
   | (with_reducible exact impl_WouldJoin.mono _ _ _ _ _)
   | (with_reducible exact LeO.refl _)
   | (with_reducible exact LeO.none _)
   | (with_reducible refine LeO.ite ?_ ?_)
   | (with_reducible refine LeO.bind ?_ (fun _ => ?_))
   | exact ih0 _ _ _ _ _ _
   | exact impl_IsPerfect.mono _ _ _ _
   | exact impl_WouldJoin.mono _ _ _ _ _
   | exact LeO.none _
   | refine LeO.ite ?_ ?_
   | refine LeO.bind ?_ (fun _ => ?_)
set_option maxHeartbeats 8000000 in
set_option maxRecDepth 100000 in
theorem impl_KruskalMaze.calls (k : Nat) (a0_0 : Int) (a0_1 : Int) (A1 : Option Addr) (c1 : Nat) (l1 : List Int) (r1 : Int) (r2 : Int) (r3 : Int) (r4 : Bool) (w : World) (hr1 : Kd.C (Kd.int .i64) w A1 l1.length l1) (hc1 : l1.length ≤ c1) (h : impl_KruskalMaze.f k a0_0 a0_1 l1 = some (r1, r2, r3, r4)) :
  Calls Try.prog 22 #[.agg #[.int .i64 a0_0, .int .i64 a0_1], .slice A1 l1.length c1] w fun e w' => e = .returned (.tuple #[.agg #[.int .i64 r1, .int .i64 r2, .int .i64 r3], .bool r4]) ∧ Below w.heap.size w w' := by
 have hu28 := Try.underlying28
 have hu30 := Try.underlying30
 have HR1 := Aside0.mk hr1
 have HC1 := Aside0.mk hc1
 clear hr1 hc1
 have HB := Aside0.mk (Below.refl w.heap.size w)
 have H : ((impl_areGaps.f a0_0 a0_1 l1).bind fun t444 => (if t444 = true then (impl_KruskalMaze.l0 k l1 (l1.length : Int) 0 a0_0 a0_1 0) else (some (0, 0, 0, false)))) = some (r1, r2, r3, r4) := h
 clear h
 replace H := Option.bind_eq_some_iff.mp H
 obtain ⟨t444, A30, H⟩ := H
 replace H : (if t444 = true then (impl_KruskalMaze.l0 k l1 (l1.length : Int) 0 a0_0 a0_1 0) else (some (0, 0, 0, false))) = some (r1, r2, r3, r4) := H
 have A3 := Aside0.mk A30
 clear A30
 by_cases c4 : t444 = true
 ·subst c4
  have H1 : (impl_KruskalMaze.l0 k l1 (l1.length : Int) 0 a0_0 a0_1 0) = some (r1, r2, r3, r4) := by rw [if_pos rfl] at H; exact H
  clear H
  have H := H1
  clear H1
  have H' := Aside0.mk H
  clear H
  go_enter Try.func22, Try.ntmps22
  go_wp2_with (first | ((with_reducible refine gate_dst (N := 2) rfl ?_); refine box_event ?hg (N := 2) ?hd (cs := #[.int .i64 a0_0, .int .i64 a0_1]) (t := 28) ?hr ?_; (case hd => rfl); (case hg => rfl); (case hr => first | (go_simp; done) | (go_simp; rfl)); intro gb442 hg w5 hbox hb; have n0_ := Aside0.mk (below_step hb_ hb); have n1_ := Aside0.mk (hbox); have n2_ := Aside0.mk ((by rw [hg]; exact (below_size hb_) : w.heap.size ≤ gb442)); have n3_ := Aside0.mk ((by rw [hg]; exact (below_size hb_) : w.heap.size ≤ gb442)); clear HB; have HB := n0_; have BK442 := n1_; have GW442 := n2_; have GE442 := n3_; clear n0_ n1_ n2_ n3_; clear hb hbox hg) | ((with_reducible refine gate_dst (N := 4) rfl ?_); refine box_event ?hg (N := 4) ?hd (cs := #[.int .i64 0, .int .i64 0, .int .i64 0]) (t := 30) ?hr ?_; (case hd => rfl); (case hg => rfl); (case hr => first | (go_simp; done) | (go_simp; rfl)); intro gb443 hg w6 hbox hb; have n0_ := Aside0.mk (blk_below (g := gb442) (o := .cells #[.int .i64 a0_0, .int .i64 a0_1] 28 (0, 0)) (kb_ BK442.out) hb); have n1_ := Aside0.mk (below_step hb_ hb); have n2_ := Aside0.mk (hbox); have n3_ := Aside0.mk ((by rw [hg]; exact (below_size hb_) : w.heap.size ≤ gb443)); have n4_ := Aside0.mk ((by rw [hg]; exact (below_size hb_) : w.heap.size ≤ gb443)); have n5_ := Aside0.mk ((by rw [hg]; exact Nat.ne_of_lt (blk_lt (g := gb442) (o := .cells #[.int .i64 a0_0, .int .i64 a0_1] 28 (0, 0)) (kb_ BK442.out)) : gb442 ≠ gb443)); have n6_ := Aside0.mk ((by rw [hg]; exact Nat.ne_of_gt (blk_lt (g := gb442) (o := .cells #[.int .i64 a0_0, .int .i64 a0_1] 28 (0, 0)) (kb_ BK442.out)) : gb443 ≠ gb442)); clear BK442; clear HB; have BK442 := n0_; have HB := n1_; have BK443 := n2_; have GW443 := n3_; have GE443 := n4_; have NB442_443 := n5_; have NB443_442 := n6_; clear n0_ n1_ n2_ n3_ n4_ n5_ n6_; clear hb hbox hg; have hnb7 := NB442_443.out; have hnc7 := NB443_442.out; have hcz8_0 := cz_ (.int .i64 a0_0) BK442.out 0; have hcz8_1 := cz_ (.int .i64 a0_1) BK442.out 1; have hfz8_0 := blk_frozen BK442.out 0; have hfz8_1 := blk_frozen BK442.out 1) | ((with_reducible refine gate_callee (f := 54) rfl ?_); refine goesL_ (some 11) rfl rfl Try.func54 (by kernel_rfl) rfl #[.agg #[.int .i64 a0_0, .int .i64 a0_1], .slice A1 l1.length c1] rfl mp_ ?_; (with_reducible refine (impl_areGaps.calls a0_0 a0_1 _ _ l1 true _ ?side1 ?side2 A3.out).mono ?_); (case side1 => repeat (first | exact (Kd.C_below HR1.out HB.out) | (with_reducible refine Kd.C_alloc ?_ _) | (with_reducible refine Kd.C_drewN ?_ _) | (with_reducible refine Kd.C_drew ?_))); (case side2 => exact HC1.out); rintro e w9 ⟨rfl, hb⟩; refine ⟨_, rfl, ?_⟩; have n0_ := Aside0.mk (blk_below (g := gb442) (o := .cells #[.int .i64 a0_0, .int .i64 a0_1] 28 (0, 0)) (kb_ BK442.out) hb); have n1_ := Aside0.mk (blk_below (g := gb443) (o := .cells #[.int .i64 0, .int .i64 0, .int .i64 0] 30 (0, 0)) (kb_ BK443.out) hb); have n2_ := Aside0.mk (below_step hb_ hb); clear BK442; clear BK443; clear HB; have BK442 := n0_; have BK443 := n1_; have HB := n2_; clear n0_ n1_ n2_; (try clear hb); (try clear hb2); (try clear hk); (try clear hi); have hcz10_0 := cz_ (.int .i64 a0_0) BK442.out 0; have hcz10_1 := cz_ (.int .i64 a0_1) BK442.out 1; have hfz10_0 := blk_frozen BK442.out 0; have hfz10_1 := blk_frozen BK442.out 1) | ((with_reducible refine gate_dst (N := 6) rfl ?_); refine box_event ?hg (N := 6) ?hd (cs := #[.int .i64 0, .int .i64 0, .int .i64 0]) (t := 30) ?hr ?_; (case hd => rfl); (case hg => rfl); (case hr => first | (go_simp; done) | (go_simp; rfl)); intro gb445 hg w11 hbox hb; have n0_ := Aside0.mk (blk_below (g := gb442) (o := .cells #[.int .i64 a0_0, .int .i64 a0_1] 28 (0, 0)) (kb_ BK442.out) hb); have n1_ := Aside0.mk (blk_below (g := gb443) (o := .cells #[.int .i64 0, .int .i64 0, .int .i64 0] 30 (0, 0)) (kb_ BK443.out) hb); have n2_ := Aside0.mk (below_step hb_ hb); have n3_ := Aside0.mk (hbox); have n4_ := Aside0.mk ((by rw [hg]; exact (below_size hb_) : w.heap.size ≤ gb445)); have n5_ := Aside0.mk ((by rw [hg]; exact (below_size hb_) : w.heap.size ≤ gb445)); have n6_ := Aside0.mk ((by rw [hg]; exact Nat.ne_of_lt (blk_lt (g := gb442) (o := .cells #[.int .i64 a0_0, .int .i64 a0_1] 28 (0, 0)) (kb_ BK442.out)) : gb442 ≠ gb445)); have n7_ := Aside0.mk ((by rw [hg]; exact Nat.ne_of_gt (blk_lt (g := gb442) (o := .cells #[.int .i64 a0_0, .int .i64 a0_1] 28 (0, 0)) (kb_ BK442.out)) : gb445 ≠ gb442)); have n8_ := Aside0.mk ((by rw [hg]; exact Nat.ne_of_lt (blk_lt (g := gb443) (o := .cells #[.int .i64 0, .int .i64 0, .int .i64 0] 30 (0, 0)) (kb_ BK443.out)) : gb443 ≠ gb445)); have n9_ := Aside0.mk ((by rw [hg]; exact Nat.ne_of_gt (blk_lt (g := gb443) (o := .cells #[.int .i64 0, .int .i64 0, .int .i64 0] 30 (0, 0)) (kb_ BK443.out)) : gb445 ≠ gb443)); clear BK442; clear BK443; clear HB; have BK442 := n0_; have BK443 := n1_; have HB := n2_; have BK445 := n3_; have GW445 := n4_; have GE445 := n5_; have NB442_445 := n6_; have NB445_442 := n7_; have NB443_445 := n8_; have NB445_443 := n9_; clear n0_ n1_ n2_ n3_ n4_ n5_ n6_ n7_ n8_ n9_; clear hb hbox hg; have hnb12 := NB445_442.out; have hnc12 := NB442_445.out; have hnb13 := NB445_443.out; have hnc13 := NB443_445.out; have hcz14_0 := cz_ (.int .i64 0) BK445.out 0; have hcz14_1 := cz_ (.int .i64 0) BK445.out 1; have hcz14_2 := cz_ (.int .i64 0) BK445.out 2; have hfz14_0 := blk_frozen BK445.out 0; have hfz14_1 := blk_frozen BK445.out 1; have hfz14_2 := blk_frozen BK445.out 2))
  go_loopg [18] k (fun kq v18 w' => ∃ (x18_1 : Int) (x446000_1 : Int) (x446001_1 : Int) (x446002_1 : Int), v18 = .int .i64 x18_1 ∧ Aside0 (impl_KruskalMaze.l0 kq l1 (l1.length : Int) x18_1 x446000_1 x446001_1 x446002_1 = some (r1, r2, r3, r4)) ∧ Aside0 (kq ≤ k) ∧ Aside0 (w'.heap[gb442]? = some (.cells #[.int .i64 a0_0, .int .i64 a0_1] 28 (0, 0))) ∧ Aside0 (w'.heap[gb443]? = some (.cells #[.int .i64 0, .int .i64 0, .int .i64 0] 30 (0, 0))) ∧ Aside0 (w'.heap[gb445]? = some (.cells #[.int .i64 x446000_1, .int .i64 x446001_1, .int .i64 x446002_1] 30 (0, 0))) ∧ Aside0 (Below w.heap.size w w'))
  case atStart => exact ⟨(0), (a0_0), (a0_1), (0), (by first | rfl | (simp; done) | (simp [*]; done)), H', ⟨Nat.le_refl _⟩, ⟨by (with_reducible repeat (first | refine blk_drewN ?_ _ | refine blk_drew ?_ | refine blk_alloc ?_ _)); refine blk_far ?_ NB442_445.out _; (with_reducible repeat (first | refine blk_drewN ?_ _ | refine blk_drew ?_ | refine blk_alloc ?_ _)); refine blk_far ?_ NB442_445.out _; (with_reducible repeat (first | refine blk_drewN ?_ _ | refine blk_drew ?_ | refine blk_alloc ?_ _)); refine blk_far ?_ NB442_445.out _; (with_reducible repeat (first | refine blk_drewN ?_ _ | refine blk_drew ?_ | refine blk_alloc ?_ _)); exact BK442.out⟩, ⟨by (with_reducible repeat (first | refine blk_drewN ?_ _ | refine blk_drew ?_ | refine blk_alloc ?_ _)); refine blk_far ?_ NB443_445.out _; (with_reducible repeat (first | refine blk_drewN ?_ _ | refine blk_drew ?_ | refine blk_alloc ?_ _)); refine blk_far ?_ NB443_445.out _; (with_reducible repeat (first | refine blk_drewN ?_ _ | refine blk_drew ?_ | refine blk_alloc ?_ _)); refine blk_far ?_ NB443_445.out _; (with_reducible repeat (first | refine blk_drewN ?_ _ | refine blk_drew ?_ | refine blk_alloc ?_ _)); exact BK443.out⟩, ⟨by (with_reducible repeat (first | refine blk_drewN ?_ _ | refine blk_drew ?_ | refine blk_alloc ?_ _)); refine blk_put (cs := #[.int .i64 a0_0, .int .i64 a0_1, .int .i64 0]) ?_ 2 _ rfl; (with_reducible repeat (first | refine blk_drewN ?_ _ | refine blk_drew ?_ | refine blk_alloc ?_ _)); refine blk_put (cs := #[.int .i64 a0_0, .int .i64 0, .int .i64 0]) ?_ 1 _ rfl; (with_reducible repeat (first | refine blk_drewN ?_ _ | refine blk_drew ?_ | refine blk_alloc ?_ _)); refine blk_put (cs := #[.int .i64 0, .int .i64 0, .int .i64 0]) ?_ 0 _ rfl; (with_reducible repeat (first | refine blk_drewN ?_ _ | refine blk_drew ?_ | refine blk_alloc ?_ _)); exact BK445.out⟩, ⟨hb_⟩⟩
  case round =>
   clear H'
   try clear c1
   try clear c2
   try clear p2
   try clear c4
   try clear c5
   try clear c7
   try clear c12
   try clear c13
   try clear hcz10_0
   try clear hcz10_1
   try clear hcz14_0
   try clear hcz14_1
   try clear hcz14_2
   try clear hcz8_0
   try clear hcz8_1
   try clear hfz10_0
   try clear hfz10_1
   try clear hfz14_0
   try clear hfz14_1
   try clear hfz14_2
   try clear hfz8_0
   try clear hfz8_1
   obtain ⟨x18_1, x446000_1, x446001_1, x446002_1, rfl, HA, HK1, BK442, BK443, BK445, HB⟩ := hrel
   cases gk with
   | zero => exact absurd HA.out (by simp [impl_KruskalMaze.l0])
   | succ k1 =>
    have H := HA.out
    clear HA
    simp only [impl_KruskalMaze.l0] at H
    by_cases c15 : x18_1 < (l1.length : Int)
    ·rw [if_pos c15] at H
     have c15b0 : decide (x18_1 < (l1.length : Int)) = true := decide_eq_true c15
     clear c15
     by_cases c16 : 0 ≤ x18_1
     ·rw [if_pos c16] at H
      have c16b0 : decide (0 ≤ x18_1) = true := decide_eq_true c16
      clear c16
      by_cases c17 : x18_1 < (l1.length : Int)
      ·rw [if_pos c17] at H
       have c17b0 : decide (x18_1 < (l1.length : Int)) = true := decide_eq_true c17
       clear c17
       replace H := Option.bind_eq_some_iff.mp H
       obtain ⟨t448, A180, H⟩ := H
       replace H : (if t448 = true then ((impl_with.f x446000_1 x446001_1 x446002_1 (rd l1 x18_1) true).bind fun bt449 => (impl_KruskalMaze.l0 k1 l1 (l1.length : Int) (wrap64 (x18_1 + 1)) bt449.1 bt449.2.1 bt449.2.2)) else (impl_KruskalMaze.l0 k1 l1 (l1.length : Int) (wrap64 (x18_1 + 1)) x446000_1 x446001_1 x446002_1)) = some (r1, r2, r3, r4) := H
       have A18 := Aside0.mk A180
       clear A180
       by_cases c19 : t448 = true
       ·subst c19
        have H1 : ((impl_with.f x446000_1 x446001_1 x446002_1 (rd l1 x18_1) true).bind fun bt449 => (impl_KruskalMaze.l0 k1 l1 (l1.length : Int) (wrap64 (x18_1 + 1)) bt449.1 bt449.2.1 bt449.2.2)) = some (r1, r2, r3, r4) := by rw [if_pos rfl] at H; exact H
        clear H
        have H := H1
        clear H1
        replace H := Option.bind_eq_some_iff.mp H
        obtain ⟨⟨t449, t450, t451⟩, A200, H⟩ := H
        replace H : (impl_KruskalMaze.l0 k1 l1 (l1.length : Int) (wrap64 (x18_1 + 1)) t449 t450 t451) = some (r1, r2, r3, r4) := H
        have A20 := Aside0.mk A200
        clear A200
        have H' := Aside0.mk H
        clear H
        have p447 : 0 ≤ (x18_1 : Int) := of_decide_eq_true (by first | (with_reducible assumption) | assumption)
        have q447 : x18_1 < (l1.length : Int) := of_decide_eq_true (by first | (with_reducible assumption) | assumption)
        obtain ⟨ad447, e447, hx447_0⟩ := Kd.at_int HR1.out x18_1 p447 q447
        cases e447
        replace hx447_0 := (HB.out.cell (World.block_lt_of_cell? w _ hx447_0)).trans hx447_0
        replace p447 := eq_true p447
        replace q447 := eq_true q447
        have hnb21 := NB445_442.out
        have hnc21 := NB442_445.out
        have hnb22 := NB445_443.out
        have hnc22 := NB443_445.out
        have hcz23_0 : wr.cell? ⟨gb445, 0, none⟩ = some (.int .i64 x446000_1) := (blk_cell BK445.out 0).trans rfl
        have hcz23_1 : wr.cell? ⟨gb445, 1, none⟩ = some (.int .i64 x446001_1) := (blk_cell BK445.out 1).trans rfl
        have hcz23_2 : wr.cell? ⟨gb445, 2, none⟩ = some (.int .i64 x446002_1) := (blk_cell BK445.out 2).trans rfl
        have hfz23_0 := blk_frozen BK445.out 0
        have hfz23_1 := blk_frozen BK445.out 1
        have hfz23_2 := blk_frozen BK445.out 2
        go_wp2_with (first | ((with_reducible refine gate_callee (f := 23) rfl ?_); refine goesL_ (some 24) rfl rfl Try.func23 (by kernel_rfl) rfl #[.agg #[.int .i64 x446000_1, .int .i64 x446001_1, .int .i64 x446002_1], .int .i64 (rd l1 x18_1)] rfl mp_ ?_; (with_reducible refine (impl_WouldJoin.calls k1 x446000_1 x446001_1 x446002_1 (rd l1 x18_1) true _ A18.out).mono ?_); rintro e w24 ⟨rfl, hb⟩; refine ⟨_, rfl, ?_⟩; have n0_ := Aside0.mk (blk_below (g := gb442) (o := .cells #[.int .i64 a0_0, .int .i64 a0_1] 28 (0, 0)) (kb_ BK442.out) hb); have n1_ := Aside0.mk (blk_below (g := gb443) (o := .cells #[.int .i64 0, .int .i64 0, .int .i64 0] 30 (0, 0)) (kb_ BK443.out) hb); have n2_ := Aside0.mk (blk_below (g := gb445) (o := .cells #[.int .i64 x446000_1, .int .i64 x446001_1, .int .i64 x446002_1] 30 (0, 0)) (kb_ BK445.out) hb); have n3_ := Aside0.mk (below_step hb_ hb); clear BK442; clear BK443; clear BK445; clear HB; have BK442 := n0_; have BK443 := n1_; have BK445 := n2_; have HB := n3_; clear n0_ n1_ n2_ n3_; (try clear hb); (try clear hb2); (try clear hk); (try clear hi); have hcz25_0 := cz_ (.int .i64 x446000_1) BK445.out 0; have hcz25_1 := cz_ (.int .i64 x446001_1) BK445.out 1; have hcz25_2 := cz_ (.int .i64 x446002_1) BK445.out 2; have hfz25_0 := blk_frozen BK445.out 0; have hfz25_1 := blk_frozen BK445.out 1; have hfz25_2 := blk_frozen BK445.out 2) | ((with_reducible refine gate_callee (f := 48) rfl ?_); refine goesL_ (some 27) rfl rfl Try.func48 (by kernel_rfl) rfl #[.agg #[.int .i64 x446000_1, .int .i64 x446001_1, .int .i64 x446002_1], .int .i64 (rd l1 x18_1), .bool true] rfl mp_ ?_; (with_reducible refine (impl_with.calls x446000_1 x446001_1 x446002_1 (rd l1 x18_1) true t449 t450 t451 _ A20.out).mono ?_); rintro e w26 ⟨rfl, hb⟩; refine ⟨_, rfl, ?_⟩; have n0_ := Aside0.mk (blk_below (g := gb442) (o := .cells #[.int .i64 a0_0, .int .i64 a0_1] 28 (0, 0)) (kb_ BK442.out) hb); have n1_ := Aside0.mk (blk_below (g := gb443) (o := .cells #[.int .i64 0, .int .i64 0, .int .i64 0] 30 (0, 0)) (kb_ BK443.out) hb); have n2_ := Aside0.mk (blk_below (g := gb445) (o := .cells #[.int .i64 x446000_1, .int .i64 x446001_1, .int .i64 x446002_1] 30 (0, 0)) (kb_ BK445.out) hb); have n3_ := Aside0.mk (below_step hb_ hb); clear BK442; clear BK443; clear BK445; clear HB; have BK442 := n0_; have BK443 := n1_; have BK445 := n2_; have HB := n3_; clear n0_ n1_ n2_ n3_; (try clear hb); (try clear hb2); (try clear hk); (try clear hi); have hcz27_0 := cz_ (.int .i64 x446000_1) BK445.out 0; have hcz27_1 := cz_ (.int .i64 x446001_1) BK445.out 1; have hcz27_2 := cz_ (.int .i64 x446002_1) BK445.out 2; have hfz27_0 := blk_frozen BK445.out 0; have hfz27_1 := blk_frozen BK445.out 1; have hfz27_2 := blk_frozen BK445.out 2))
        go_roundg k1
        case measure => have := HK1.out; omega
        case rel => exact ⟨(wrap64 (x18_1 + 1)), (t449), (t450), (t451), (by first | rfl | (simp; done) | (simp [*]; done)), H', ⟨by have := HK1.out; omega⟩, ⟨by (with_reducible repeat (first | refine blk_drewN ?_ _ | refine blk_drew ?_ | refine blk_alloc ?_ _)); refine blk_far ?_ NB442_445.out _; (with_reducible repeat (first | refine blk_drewN ?_ _ | refine blk_drew ?_ | refine blk_alloc ?_ _)); refine blk_far ?_ NB442_445.out _; (with_reducible repeat (first | refine blk_drewN ?_ _ | refine blk_drew ?_ | refine blk_alloc ?_ _)); refine blk_far ?_ NB442_445.out _; (with_reducible repeat (first | refine blk_drewN ?_ _ | refine blk_drew ?_ | refine blk_alloc ?_ _)); exact BK442.out⟩, ⟨by (with_reducible repeat (first | refine blk_drewN ?_ _ | refine blk_drew ?_ | refine blk_alloc ?_ _)); refine blk_far ?_ NB443_445.out _; (with_reducible repeat (first | refine blk_drewN ?_ _ | refine blk_drew ?_ | refine blk_alloc ?_ _)); refine blk_far ?_ NB443_445.out _; (with_reducible repeat (first | refine blk_drewN ?_ _ | refine blk_drew ?_ | refine blk_alloc ?_ _)); refine blk_far ?_ NB443_445.out _; (with_reducible repeat (first | refine blk_drewN ?_ _ | refine blk_drew ?_ | refine blk_alloc ?_ _)); exact BK443.out⟩, ⟨by (with_reducible repeat (first | refine blk_drewN ?_ _ | refine blk_drew ?_ | refine blk_alloc ?_ _)); refine blk_put (cs := #[.int .i64 t449, .int .i64 t450, .int .i64 x446002_1]) ?_ 2 _ rfl; (with_reducible repeat (first | refine blk_drewN ?_ _ | refine blk_drew ?_ | refine blk_alloc ?_ _)); refine blk_put (cs := #[.int .i64 t449, .int .i64 x446001_1, .int .i64 x446002_1]) ?_ 1 _ rfl; (with_reducible repeat (first | refine blk_drewN ?_ _ | refine blk_drew ?_ | refine blk_alloc ?_ _)); refine blk_put (cs := #[.int .i64 x446000_1, .int .i64 x446001_1, .int .i64 x446002_1]) ?_ 0 _ rfl; (with_reducible repeat (first | refine blk_drewN ?_ _ | refine blk_drew ?_ | refine blk_alloc ?_ _)); exact BK445.out⟩, ⟨hb_⟩⟩
       ·replace c19 := Bool.eq_false_iff.mpr c19
        subst c19
        have H1 : (impl_KruskalMaze.l0 k1 l1 (l1.length : Int) (wrap64 (x18_1 + 1)) x446000_1 x446001_1 x446002_1) = some (r1, r2, r3, r4) := by rw [if_neg (show ¬ (false = true) by decide)] at H; exact H
        clear H
        have H := H1
        clear H1
        have H' := Aside0.mk H
        clear H
        have p447 : 0 ≤ (x18_1 : Int) := of_decide_eq_true (by first | (with_reducible assumption) | assumption)
        have q447 : x18_1 < (l1.length : Int) := of_decide_eq_true (by first | (with_reducible assumption) | assumption)
        obtain ⟨ad447, e447, hx447_0⟩ := Kd.at_int HR1.out x18_1 p447 q447
        cases e447
        replace hx447_0 := (HB.out.cell (World.block_lt_of_cell? w _ hx447_0)).trans hx447_0
        replace p447 := eq_true p447
        replace q447 := eq_true q447
        have hnb28 := NB445_442.out
        have hnc28 := NB442_445.out
        have hnb29 := NB445_443.out
        have hnc29 := NB443_445.out
        have hcz30_0 : wr.cell? ⟨gb445, 0, none⟩ = some (.int .i64 x446000_1) := (blk_cell BK445.out 0).trans rfl
        have hcz30_1 : wr.cell? ⟨gb445, 1, none⟩ = some (.int .i64 x446001_1) := (blk_cell BK445.out 1).trans rfl
        have hcz30_2 : wr.cell? ⟨gb445, 2, none⟩ = some (.int .i64 x446002_1) := (blk_cell BK445.out 2).trans rfl
        have hfz30_0 := blk_frozen BK445.out 0
        have hfz30_1 := blk_frozen BK445.out 1
        have hfz30_2 := blk_frozen BK445.out 2
        go_wp2_with (first | ((with_reducible refine gate_callee (f := 23) rfl ?_); refine goesL_ (some 24) rfl rfl Try.func23 (by kernel_rfl) rfl #[.agg #[.int .i64 x446000_1, .int .i64 x446001_1, .int .i64 x446002_1], .int .i64 (rd l1 x18_1)] rfl mp_ ?_; (with_reducible refine (impl_WouldJoin.calls k1 x446000_1 x446001_1 x446002_1 (rd l1 x18_1) false _ A18.out).mono ?_); rintro e w31 ⟨rfl, hb⟩; refine ⟨_, rfl, ?_⟩; have n0_ := Aside0.mk (blk_below (g := gb442) (o := .cells #[.int .i64 a0_0, .int .i64 a0_1] 28 (0, 0)) (kb_ BK442.out) hb); have n1_ := Aside0.mk (blk_below (g := gb443) (o := .cells #[.int .i64 0, .int .i64 0, .int .i64 0] 30 (0, 0)) (kb_ BK443.out) hb); have n2_ := Aside0.mk (blk_below (g := gb445) (o := .cells #[.int .i64 x446000_1, .int .i64 x446001_1, .int .i64 x446002_1] 30 (0, 0)) (kb_ BK445.out) hb); have n3_ := Aside0.mk (below_step hb_ hb); clear BK442; clear BK443; clear BK445; clear HB; have BK442 := n0_; have BK443 := n1_; have BK445 := n2_; have HB := n3_; clear n0_ n1_ n2_ n3_; (try clear hb); (try clear hb2); (try clear hk); (try clear hi)))
        go_roundg k1
        case measure => have := HK1.out; omega
        case rel => exact ⟨(wrap64 (x18_1 + 1)), (x446000_1), (x446001_1), (x446002_1), (by first | rfl | (simp; done) | (simp [*]; done)), H', ⟨by have := HK1.out; omega⟩, ⟨kb_ BK442.out⟩, ⟨kb_ BK443.out⟩, ⟨kb_ BK445.out⟩, ⟨hb_⟩⟩
      ·rw [if_neg c17] at H
       exact absurd H (by simp)
     ·rw [if_neg c16] at H
      exact absurd H (by simp)
    ·rw [if_neg c15] at H
     have c15b0 : decide (x18_1 < (l1.length : Int)) = false := decide_eq_false c15
     clear c15
     replace H := Option.bind_eq_some_iff.mp H
     obtain ⟨t446, A320, H⟩ := H
     replace H : (some (x446000_1, x446001_1, x446002_1, t446)) = some (r1, r2, r3, r4) := H
     have A32 := Aside0.mk A320
     clear A320
     simp only [Option.some.injEq, Prod.mk.injEq] at H
     obtain ⟨rfl, rfl, rfl, rfl⟩ := H
     try go_wp2
     have n0_ := Aside0.mk (blk_drew BK442.out)
     have n1_ := Aside0.mk (blk_drew BK443.out)
     have n2_ := Aside0.mk (blk_drew BK445.out)
     have n3_ := Aside0.mk (below_drew1 HB.out)
     clear BK442
     clear BK443
     clear BK445
     clear HB
     have BK442 := n0_
     have BK443 := n1_
     have BK445 := n2_
     have HB := n3_
     clear n0_ n1_ n2_ n3_
     refine start_ (n := 5) (S := fun w' => w'.cell? ⟨gb445, 0, none⟩ = some (.int .i64 x446000_1) ∧ w'.cell? ⟨gb445, 1, none⟩ = some (.int .i64 x446001_1) ∧ w'.cell? ⟨gb445, 2, none⟩ = some (.int .i64 x446002_1)) (ds := []) #[false, false, false, false, false] (by kernel_rfl) rfl rfl ⟨(blk_cell BK445.out 0).trans rfl, (blk_cell BK445.out 1).trans rfl, (blk_cell BK445.out 2).trans rfl⟩ (fun hHeld => ?_)
     generalize wr.drew = w33 at BK442 BK443 BK445 HB hHeld ⊢
     refine take_ (i := 0) (N := some 29) (v := ?_) (a' := ?_) #[true, false, false, false, false] rfl rfl (by kernel_rfl) (fun _ _ _ h => h) (Or.inl ⟨by rfl, ?_⟩) hHeld ?_ ?_
     rotate_left
     ·rintro w' ⟨s0, s1, s2⟩
      go_simp
      with_reducible rfl
     rotate_left
     ·simp only [Act.put, List.setIfInBounds_toArray, List.set_cons_zero, List.set_cons_succ, i64_w, i32_w]
      rfl
     refine take_ (i := 1) (N := some 30) (v := ?_) (a' := ?_) #[true, true, false, false, false] rfl rfl (by kernel_rfl) (fun _ _ _ h => h) (Or.inl ⟨by rfl, ?_⟩) hHeld ?_ ?_
     rotate_left
     ·rintro w' ⟨s0, s1, s2⟩
      go_simp
      with_reducible rfl
     rotate_left
     ·simp only [Act.put, List.setIfInBounds_toArray, List.set_cons_zero, List.set_cons_succ, i64_w, i32_w]
      rfl
     refine one_ (i := 2) (N := some 31) #[true, true, true, false, false] rfl rfl (by kernel_rfl) (by decide) (fun K hK => ?_)
     refine goes_ Try.func24 (by kernel_rfl) rfl #[.agg #[.int .i64 x446000_1, .int .i64 x446001_1, .int .i64 x446002_1]] (by rfl) rfl rfl mp_ ?_
     with_reducible refine (impl_IsPerfect.calls k1 x446000_1 x446001_1 x446002_1 t446 _ A32.out).mono ?_
     rintro e w34 ⟨rfl, hb⟩
     refine ⟨_, rfl, ?_⟩
     have n0_ := Aside0.mk (blk_below (g := gb442) (o := .cells #[.int .i64 a0_0, .int .i64 a0_1] 28 (0, 0)) (kb_ BK442.out) hb)
     have n1_ := Aside0.mk (blk_below (g := gb443) (o := .cells #[.int .i64 0, .int .i64 0, .int .i64 0] 30 (0, 0)) (kb_ BK443.out) hb)
     have n2_ := Aside0.mk (blk_below (g := gb445) (o := .cells #[.int .i64 x446000_1, .int .i64 x446001_1, .int .i64 x446002_1] 30 (0, 0)) (kb_ BK445.out) hb)
     have n3_ := Aside0.mk (below_step hb_ hb)
     clear BK442
     clear BK443
     clear BK445
     clear HB
     have BK442 := n0_
     have BK443 := n1_
     have BK445 := n2_
     have HB := n3_
     clear n0_ n1_ n2_ n3_
     (try clear hb)
     (try clear hb2)
     (try clear hk)
     (try clear hi)
     refine hK.out _ _ ⟨(blk_cell BK445.out 0).trans rfl, (blk_cell BK445.out 1).trans rfl, (blk_cell BK445.out 2).trans rfl⟩ (fun hHeld => ?_)
     clear hK K
     refine norm_ (a' := ?_) ?_ ?_
     rotate_left
     ·show Act.put _ (some 31) _ = _
      simp only [Act.put, List.setIfInBounds_toArray, List.set_cons_zero, List.set_cons_succ, i64_w, i32_w]
      rfl
     refine one_ (i := 3) (N := none) #[true, true, true, true, false] rfl rfl (by kernel_rfl) (by decide) (fun K hK => ?_)
     have hs35 : w34.cell? ⟨gb443, 0, none⟩ = some (.int .i64 0) := (blk_cell BK443.out 0).trans rfl
     have hfs35 := blk_frozen BK443.out 0
     have hns35_0 := NB442_443.out
     have hns35_2 := NB445_443.out
     have hms35_0 := NB443_442.out
     have hms35_2 := NB443_445.out
     have hs36 : w34.cell? ⟨gb443, 1, none⟩ = some (.int .i64 0) := (blk_cell BK443.out 1).trans rfl
     have hfs36 := blk_frozen BK443.out 1
     have hns36_0 := NB442_443.out
     have hns36_2 := NB445_443.out
     have hms36_0 := NB443_442.out
     have hms36_2 := NB443_445.out
     have hs37 : w34.cell? ⟨gb443, 2, none⟩ = some (.int .i64 0) := (blk_cell BK443.out 2).trans rfl
     have hfs37 := blk_frozen BK443.out 2
     have hns37_0 := NB442_443.out
     have hns37_2 := NB445_443.out
     have hms37_0 := NB443_442.out
     have hms37_2 := NB443_445.out
     refine skip_ (w1 := ?_) (by rfl) rfl ?_ ?_
     rotate_left
     ·go_simp
      rfl
     refine hK.out _ _ ⟨((cell_far (p := ⟨gb443, _, none⟩) NB445_443.out _).trans (((cell_far (p := ⟨gb443, _, none⟩) NB445_443.out _).trans (((cell_far (p := ⟨gb443, _, none⟩) NB445_443.out _).trans (hHeld.1)))))), ((cell_far (p := ⟨gb443, _, none⟩) NB445_443.out _).trans (((cell_far (p := ⟨gb443, _, none⟩) NB445_443.out _).trans (((cell_far (p := ⟨gb443, _, none⟩) NB445_443.out _).trans (hHeld.2.1)))))), ((cell_far (p := ⟨gb443, _, none⟩) NB445_443.out _).trans (((cell_far (p := ⟨gb443, _, none⟩) NB445_443.out _).trans (((cell_far (p := ⟨gb443, _, none⟩) NB445_443.out _).trans (hHeld.2.2))))))⟩ (fun hHeld => ?_)
     clear hK K
     refine pure_ (i := 4) (N := some 5) (v := ?_) (a' := ?_) #[true, true, true, true, true] rfl rfl (by kernel_rfl) (fun _ _ _ h => h) (Or.inl ⟨by rfl, ?_⟩) ?_ ?_
     rotate_left
     ·intro w'
      go_simp
      with_reducible rfl
     rotate_left
     ·simp only [Act.put, List.setIfInBounds_toArray, List.set_cons_zero, List.set_cons_succ, i64_w, i32_w]
      rfl
     refine done_ (by kernel_rfl) ?_
     try go_wp2
     try (have hq442_0 : _ = some (.int .i64 a0_0) := (blk_cell BK442.out 0).trans rfl; have hqf442_0 := blk_frozen BK442.out 0; have hq442_1 : _ = some (.int .i64 a0_1) := (blk_cell BK442.out 1).trans rfl; have hqf442_1 := blk_frozen BK442.out 1; have hq443_0 : _ = some (.int .i64 x446000_1) := (blk_cell BK443.out 0).trans rfl; have hqf443_0 := blk_frozen BK443.out 0; have hq443_1 : _ = some (.int .i64 x446001_1) := (blk_cell BK443.out 1).trans rfl; have hqf443_1 := blk_frozen BK443.out 1; have hq443_2 : _ = some (.int .i64 x446002_1) := (blk_cell BK443.out 2).trans rfl; have hqf443_2 := blk_frozen BK443.out 2; have hq445_0 : _ = some (.int .i64 x446000_1) := (blk_cell BK445.out 0).trans rfl; have hqf445_0 := blk_frozen BK445.out 0; have hq445_1 : _ = some (.int .i64 x446001_1) := (blk_cell BK445.out 1).trans rfl; have hqf445_1 := blk_frozen BK445.out 1; have hq445_2 : _ = some (.int .i64 x446002_1) := (blk_cell BK445.out 2).trans rfl; have hqf445_2 := blk_frozen BK445.out 2; go_wp2)
     refine bodyPost_ret (results_ct rfl _ _ gb443 30 #[.int .i64 x446000_1, .int .i64 x446001_1, .int .i64 x446002_1] (0, 0) _ rfl (by (with_reducible repeat (first | refine blk_drewN ?_ _ | refine blk_drew ?_ | refine blk_alloc ?_ _)); refine blk_put (cs := #[.int .i64 x446000_1, .int .i64 x446001_1, .int .i64 0]) ?_ 2 _ rfl; (with_reducible repeat (first | refine blk_drewN ?_ _ | refine blk_drew ?_ | refine blk_alloc ?_ _)); refine blk_put (cs := #[.int .i64 x446000_1, .int .i64 0, .int .i64 0]) ?_ 1 _ rfl; (with_reducible repeat (first | refine blk_drewN ?_ _ | refine blk_drew ?_ | refine blk_alloc ?_ _)); refine blk_put (cs := #[.int .i64 0, .int .i64 0, .int .i64 0]) ?_ 0 _ rfl; (with_reducible repeat (first | refine blk_drewN ?_ _ | refine blk_drew ?_ | refine blk_alloc ?_ _)); exact BK443.out) Try.underlying30 rfl (by kernel_rfl)) rfl ?_
     exact ⟨er_, hb_⟩
 ·replace c4 := Bool.eq_false_iff.mpr c4
  subst c4
  have H1 : (some (0, 0, 0, false)) = some (r1, r2, r3, r4) := by rw [if_neg (show ¬ (false = true) by decide)] at H; exact H
  clear H
  have H := H1
  clear H1
  simp only [Option.some.injEq, Prod.mk.injEq] at H
  obtain ⟨rfl, rfl, rfl, rfl⟩ := H
  go_enter Try.func22, Try.ntmps22
  go_wp2_with (first | ((with_reducible refine gate_dst (N := 2) rfl ?_); refine box_event ?hg (N := 2) ?hd (cs := #[.int .i64 a0_0, .int .i64 a0_1]) (t := 28) ?hr ?_; (case hd => rfl); (case hg => rfl); (case hr => first | (go_simp; done) | (go_simp; rfl)); intro gb442 hg w38 hbox hb; have n0_ := Aside0.mk (below_step hb_ hb); have n1_ := Aside0.mk (hbox); have n2_ := Aside0.mk ((by rw [hg]; exact (below_size hb_) : w.heap.size ≤ gb442)); have n3_ := Aside0.mk ((by rw [hg]; exact (below_size hb_) : w.heap.size ≤ gb442)); clear HB; have HB := n0_; have BK442 := n1_; have GW442 := n2_; have GE442 := n3_; clear n0_ n1_ n2_ n3_; clear hb hbox hg) | ((with_reducible refine gate_dst (N := 4) rfl ?_); refine box_event ?hg (N := 4) ?hd (cs := #[.int .i64 0, .int .i64 0, .int .i64 0]) (t := 30) ?hr ?_; (case hd => rfl); (case hg => rfl); (case hr => first | (go_simp; done) | (go_simp; rfl)); intro gb443 hg w39 hbox hb; have n0_ := Aside0.mk (blk_below (g := gb442) (o := .cells #[.int .i64 a0_0, .int .i64 a0_1] 28 (0, 0)) (kb_ BK442.out) hb); have n1_ := Aside0.mk (below_step hb_ hb); have n2_ := Aside0.mk (hbox); have n3_ := Aside0.mk ((by rw [hg]; exact (below_size hb_) : w.heap.size ≤ gb443)); have n4_ := Aside0.mk ((by rw [hg]; exact (below_size hb_) : w.heap.size ≤ gb443)); have n5_ := Aside0.mk ((by rw [hg]; exact Nat.ne_of_lt (blk_lt (g := gb442) (o := .cells #[.int .i64 a0_0, .int .i64 a0_1] 28 (0, 0)) (kb_ BK442.out)) : gb442 ≠ gb443)); have n6_ := Aside0.mk ((by rw [hg]; exact Nat.ne_of_gt (blk_lt (g := gb442) (o := .cells #[.int .i64 a0_0, .int .i64 a0_1] 28 (0, 0)) (kb_ BK442.out)) : gb443 ≠ gb442)); clear BK442; clear HB; have BK442 := n0_; have HB := n1_; have BK443 := n2_; have GW443 := n3_; have GE443 := n4_; have NB442_443 := n5_; have NB443_442 := n6_; clear n0_ n1_ n2_ n3_ n4_ n5_ n6_; clear hb hbox hg; have hnb40 := NB442_443.out; have hnc40 := NB443_442.out; have hcz41_0 := cz_ (.int .i64 a0_0) BK442.out 0; have hcz41_1 := cz_ (.int .i64 a0_1) BK442.out 1; have hfz41_0 := blk_frozen BK442.out 0; have hfz41_1 := blk_frozen BK442.out 1) | ((with_reducible refine gate_callee (f := 54) rfl ?_); refine goesL_ (some 11) rfl rfl Try.func54 (by kernel_rfl) rfl #[.agg #[.int .i64 a0_0, .int .i64 a0_1], .slice A1 l1.length c1] rfl mp_ ?_; (with_reducible refine (impl_areGaps.calls a0_0 a0_1 _ _ l1 false _ ?side1 ?side2 A3.out).mono ?_); (case side1 => repeat (first | exact (Kd.C_below HR1.out HB.out) | (with_reducible refine Kd.C_alloc ?_ _) | (with_reducible refine Kd.C_drewN ?_ _) | (with_reducible refine Kd.C_drew ?_))); (case side2 => exact HC1.out); rintro e w42 ⟨rfl, hb⟩; refine ⟨_, rfl, ?_⟩; have n0_ := Aside0.mk (blk_below (g := gb442) (o := .cells #[.int .i64 a0_0, .int .i64 a0_1] 28 (0, 0)) (kb_ BK442.out) hb); have n1_ := Aside0.mk (blk_below (g := gb443) (o := .cells #[.int .i64 0, .int .i64 0, .int .i64 0] 30 (0, 0)) (kb_ BK443.out) hb); have n2_ := Aside0.mk (below_step hb_ hb); clear BK442; clear BK443; clear HB; have BK442 := n0_; have BK443 := n1_; have HB := n2_; clear n0_ n1_ n2_; (try clear hb); (try clear hb2); (try clear hk); (try clear hi); have hcz43_0 := cz_ (.int .i64 0) BK443.out 0; have hcz43_1 := cz_ (.int .i64 0) BK443.out 1; have hcz43_2 := cz_ (.int .i64 0) BK443.out 2; have hfz43_0 := blk_frozen BK443.out 0; have hfz43_1 := blk_frozen BK443.out 1; have hfz43_2 := blk_frozen BK443.out 2))
  try (have hq442_0 : _ = some (.int .i64 a0_0) := (blk_cell BK442.out 0).trans rfl; have hqf442_0 := blk_frozen BK442.out 0; have hq442_1 : _ = some (.int .i64 a0_1) := (blk_cell BK442.out 1).trans rfl; have hqf442_1 := blk_frozen BK442.out 1; have hq443_0 : _ = some (.int .i64 0) := (blk_cell BK443.out 0).trans rfl; have hqf443_0 := blk_frozen BK443.out 0; have hq443_1 : _ = some (.int .i64 0) := (blk_cell BK443.out 1).trans rfl; have hqf443_1 := blk_frozen BK443.out 1; have hq443_2 : _ = some (.int .i64 0) := (blk_cell BK443.out 2).trans rfl; have hqf443_2 := blk_frozen BK443.out 2; go_wp2)
  refine bodyPost_ret (results_ct rfl _ _ gb443 30 #[.int .i64 0, .int .i64 0, .int .i64 0] (0, 0) _ rfl (by (with_reducible repeat (first | refine blk_drewN ?_ _ | refine blk_drew ?_ | refine blk_alloc ?_ _)); refine blk_put (cs := #[.int .i64 0, .int .i64 0, .int .i64 0]) ?_ 2 _ rfl; (with_reducible repeat (first | refine blk_drewN ?_ _ | refine blk_drew ?_ | refine blk_alloc ?_ _)); refine blk_put (cs := #[.int .i64 0, .int .i64 0, .int .i64 0]) ?_ 1 _ rfl; (with_reducible repeat (first | refine blk_drewN ?_ _ | refine blk_drew ?_ | refine blk_alloc ?_ _)); refine blk_put (cs := #[.int .i64 0, .int .i64 0, .int .i64 0]) ?_ 0 _ rfl; (with_reducible repeat (first | refine blk_drewN ?_ _ | refine blk_drew ?_ | refine blk_alloc ?_ _)); exact BK443.out) Try.underlying30 rfl (by kernel_rfl)) rfl ?_
  exact ⟨er_, hb_⟩

end Go.Proofs.Ytmpednofjnoelaa.Q
