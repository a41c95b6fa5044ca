/- Plain Lean functions of Go functions, and for each the proof that its call comes to just that answer. Conditions: in each theorem's statement. -/
import Derived.Test.YtpaecckpdaiogaaQx0
import Derived.Test.YtpaecckpdaiogaaQx2
import Derived.Test.YtpaecckpdaiogaaQx4
import Derived.Test.YtpaecckpdaiogaaQx5
import Derived.Test.YtpaecckpdaiogaaQx6
import Derived.Test.YtpaecckpdaiogaaQx17
import Derived.Test.YtpaecckpdaiogaaQx32
import Derived.Test.YtpaecckpdaiogaaQx55
import Derived.Test.YtpaecckpdaiogaaQx57
namespace Go.Proofs.Ytpaecckpdaiogaa.Q
open Go.RowKit Go.Proofs.YtpaecckpdaiogaaW.PrintWords Go.Proofs.YtpaecckpdaiogaaW.PrintLast
attribute [local go_sem] max2_int min2_int max_two min_two   -- for this text's walks alone
set_option linter.unusedVariables false
set_option linter.unusedSimpArgs false

/-! ### impl_areGaps: function 91 -/
def gapB (w h c : Int) : Bool := (impl_isGap.f w h c).getD false
theorem isGap_some (w h c : Int) : impl_isGap.f w h c = some (gapB w h c) := by
 unfold gapB impl_isGap.f impl_CountGaps.f impl_GridOk.f
 generalize decide (h ≤ 4) = b
 by_cases h1 : c ≥ 0 <;> by_cases h2 : w ≥ 1 <;> by_cases h3 : w ≤ 4 <;> by_cases h4 : h ≥ 1 <;> cases b <;> simp [h1, h2, h3, h4]
set_option maxHeartbeats 4000000 in
set_option maxRecDepth 100000 in
theorem areGaps_fn (gb : Nat) (a0_0 a0_1 x : Int) (w : World) (hk : w.heap[gb]? = some (.cells #[.int .i64 a0_0, .int .i64 a0_1] 28 (0, 0))) :
  Calls Try.prog 120 #[.int .i64 x, .pointer (some ⟨gb, 0, none⟩)] w fun e w' => e = .returned (.bool (!gapB a0_0 a0_1 x)) ∧ Below w.heap.size w w' := by
 have hu29 := Try.underlying28
 have hc0 : w.cell? ⟨gb, 0, none⟩ = some (.int .i64 a0_0) := (blk_cell hk 0).trans rfl
 have hc1 : w.cell? ⟨gb, 1, none⟩ = some (.int .i64 a0_1) := (blk_cell hk 1).trans rfl
 have HS := Aside0.mk (isGap_some a0_0 a0_1 x)
 clear hk
 go_enter Try.func120, Try.ntmps120
 go_wp2_with (go_at_call 99; with_reducible refine (impl_isGap.calls a0_0 a0_1 x _ _ HS.out).mono ?_; rintro e w1 ⟨rfl, hb⟩)
 go_ret
 exact ⟨rfl, hb⟩
theorem areGaps_pred (gb : Nat) (a0_0 a0_1 : Int) (w : World) (hk : w.heap[gb]? = some (.cells #[.int .i64 a0_0, .int .i64 a0_1] 28 (0, 0))) :
  PredG 120 #[.pointer (some ⟨gb, 0, none⟩)] (fun c => !gapB a0_0 a0_1 c) w := fun W x hb => areGaps_fn gb a0_0 a0_1 x W (blk_below hk hb)
def impl_areGaps.f (a0_0 : Int) (a0_1 : Int) (l1 : List Int) : Option (Bool) := (impl_GridOk.f a0_0 a0_1).bind fun t => if t = true then (if (l1.length : Int) ≤ 100 then some (!(l1.any fun c => !gapB a0_0 a0_1 c)) else some false) else some false

set_option maxHeartbeats 4000000 in
set_option maxRecDepth 100000 in
theorem impl_areGaps.calls (a0_0 : Int) (a0_1 : Int) (A1 : Option Addr) (c1 : Nat) (l1 : List Int) (r : Bool) (w : World) (hr1 : Kd.C (Kd.int .i64) w A1 l1.length l1) (hc1 : l1.length ≤ c1) (h : impl_areGaps.f a0_0 a0_1 l1 = some r) :
  Calls Try.prog 91 #[.agg #[.int .i64 a0_0, .int .i64 a0_1], .slice A1 l1.length c1] w fun e w' => e = .returned (.bool r) ∧ Below w.heap.size w w' := by
 have hu29 := Try.underlying28
 have HR := Aside0.mk hr1
 have hl : l1.length ≤ 9223372036854775807 := hr1.2.1
 clear hr1
 unfold impl_areGaps.f at h
 obtain ⟨t, ht, h⟩ := Option.bind_eq_some_iff.1 h
 have HT := Aside0.mk ht
 clear ht
 have HB := Aside0.mk (Below.refl w.heap.size w)
 have EG := Aside0.mk (show ∀ args w, (callFunc 120 args).run Try.prog w = .ok (.enter 120 args) w from enters_of Try.func120 (by kernel_rfl) rfl)
 cases t with
 | false =>
  rw [if_neg (by decide)] at h
  obtain rfl := Option.some.inj h
  clear h
  go_enter Try.func91, Try.ntmps91
  go_wp2_with (first | ((with_reducible refine gate_dst (N := 2) rfl ?_); refine box_event ?hg (N := 2) ?hd (cs := #[.int .i64 a0_0, .int .i64 a0_1]) (t := 28) ?hr ?_; (case hd => rfl); (case hg => rfl); (case hr => first | (go_simp; done) | (go_simp; rfl)); intro gb hg w5 hbox hb; have BK := Aside0.mk hbox; have HB1 := Aside0.mk (below_step HB.out hb); clear HB; have HB := HB1; clear HB1 hb hbox hg; have hc0 : w5.cell? ⟨gb, 0, none⟩ = some (.int .i64 a0_0) := (blk_cell BK.out 0).trans rfl; have hc1_ : w5.cell? ⟨gb, 1, none⟩ = some (.int .i64 a0_1) := (blk_cell BK.out 1).trans rfl) | (go_at_call 100; with_reducible refine (impl_GridOk.calls a0_0 a0_1 false _ HT.out).mono ?_; rintro e w6 ⟨rfl, hb⟩; have HB1 := Aside0.mk (below_step HB.out hb); have BK1 := Aside0.mk (blk_below BK.out hb); clear HB BK; have HB := HB1; have BK := BK1; clear HB1 BK1 hb))
  go_ret
  exact ⟨rfl, HB.out⟩
 | true =>
  rw [if_pos rfl] at h
  by_cases h100 : (l1.length : Int) ≤ 100
  ·rw [if_pos h100] at h
   obtain rfl := Option.some.inj h
   clear h
   go_enter Try.func91, Try.ntmps91
   go_wp2_with (first | ((with_reducible refine gate_dst (N := 2) rfl ?_); refine box_event ?hg (N := 2) ?hd (cs := #[.int .i64 a0_0, .int .i64 a0_1]) (t := 28) ?hr ?_; (case hd => rfl); (case hg => rfl); (case hr => first | (go_simp; done) | (go_simp; rfl)); intro gb hg w5 hbox hb; have BK := Aside0.mk hbox; have HB1 := Aside0.mk (below_step HB.out hb); clear HB; have HB := HB1; clear HB1 hb hbox hg; have hc0 : w5.cell? ⟨gb, 0, none⟩ = some (.int .i64 a0_0) := (blk_cell BK.out 0).trans rfl; have hc1_ : w5.cell? ⟨gb, 1, none⟩ = some (.int .i64 a0_1) := (blk_cell BK.out 1).trans rfl) | (go_at_call 100; with_reducible refine (impl_GridOk.calls a0_0 a0_1 true _ HT.out).mono ?_; rintro e w6 ⟨rfl, hb⟩; have HB1 := Aside0.mk (below_step HB.out hb); have BK1 := Aside0.mk (blk_below BK.out hb); clear HB BK; have HB := HB1; have BK := BK1; clear HB1 BK1 hb) | (go_at_call 114; with_reducible refine (contains_any 120 #[.pointer (some ⟨gb, 0, none⟩)] (fun c => !gapB a0_0 a0_1 c) EG.out A1 c1 l1 _ (Kd.C_below HR.out HB.out) hc1 hl (areGaps_pred gb a0_0 a0_1 _ BK.out)).mono ?_; rintro e w7 ⟨rfl, hb⟩; have HB1 := Aside0.mk (below_step HB.out hb); clear HB; have HB := HB1; clear HB1 hb))
   go_ret
   exact ⟨rfl, HB.out⟩
  ·rw [if_neg h100] at h
   obtain rfl := Option.some.inj h
   clear h
   go_enter Try.func91, Try.ntmps91
   go_wp2_with (first | ((with_reducible refine gate_dst (N := 2) rfl ?_); refine box_event ?hg (N := 2) ?hd (cs := #[.int .i64 a0_0, .int .i64 a0_1]) (t := 28) ?hr ?_; (case hd => rfl); (case hg => rfl); (case hr => first | (go_simp; done) | (go_simp; rfl)); intro gb hg w5 hbox hb; have BK := Aside0.mk hbox; have HB1 := Aside0.mk (below_step HB.out hb); clear HB; have HB := HB1; clear HB1 hb hbox hg; have hc0 : w5.cell? ⟨gb, 0, none⟩ = some (.int .i64 a0_0) := (blk_cell BK.out 0).trans rfl; have hc1_ : w5.cell? ⟨gb, 1, none⟩ = some (.int .i64 a0_1) := (blk_cell BK.out 1).trans rfl) | (go_at_call 100; with_reducible refine (impl_GridOk.calls a0_0 a0_1 true _ HT.out).mono ?_; rintro e w6 ⟨rfl, hb⟩; have HB1 := Aside0.mk (below_step HB.out hb); have BK1 := Aside0.mk (blk_below BK.out hb); clear HB BK; have HB := HB1; have BK := BK1; clear HB1 BK1 hb))
   go_ret
   exact ⟨rfl, HB.out⟩

/-! ### impl_WouldJoin: function 92 -/
def impl_WouldJoin.f (k : Nat) (a0_0 : Int) (a0_1 : Int) (a0_2 : Int) (a1 : Int) : Option (Bool) := (impl_MazeOk.f a0_0 a0_1 a0_2).bind fun t522 => (if t522 = true then ((impl_isGap.f a0_0 a0_1 a1).bind fun t523 => (if t523 = true then ((impl_isOpen.f a0_0 a0_1 a0_2 a1).bind fun t524 => (if t524 = true then (some false) else ((impl_areApart.f k a0_0 a0_1 a0_2 a1).bind fun t525 => (some t525)))) else (some false))) else (some false))
theorem impl_WouldJoin.mono : ∀ a0 a1 a2 a3 k, LeO (impl_WouldJoin.f k a0 a1 a2 a3) (impl_WouldJoin.f (k + 1) a0 a1 a2 a3) := by
 intro a0 a1 a2 a3 k
 unfold impl_WouldJoin.f
 repeat' first
   | (with_reducible exact impl_areApart.mono _ _ _ _ _)
   | (with_reducible exact LeO.refl _)
   | (with_reducible exact LeO.none _)
   | (with_reducible refine LeO.ite ?_ ?_)
   | (with_reducible refine LeO.bind ?_ (fun _ => ?_))
   | exact impl_areApart.mono _ _ _ _ _
   | exact LeO.none _
   | refine LeO.ite ?_ ?_
   | refine LeO.bind ?_ (fun _ => ?_)
set_option maxHeartbeats 8000000 in
set_option maxRecDepth 100000 in
theorem impl_WouldJoin.calls (k : Nat) (a0_0 : Int) (a0_1 : Int) (a0_2 : Int) (a1 : Int) (r : Bool) (w : World) (h : impl_WouldJoin.f k a0_0 a0_1 a0_2 a1 = some r) :
  Calls Try.prog 92 #[.agg #[.int .i64 a0_0, .int .i64 a0_1, .int .i64 a0_2], .int .i64 a1] w fun e w' => e = .returned (.bool r) ∧ Below w.heap.size w w' := by
 have hu30 := Try.underlying30
 have hu28 := Try.underlying28
 have HB := Aside0.mk (Below.refl w.heap.size w)
 have H : ((impl_MazeOk.f a0_0 a0_1 a0_2).bind fun t522 => (if t522 = true then ((impl_isGap.f a0_0 a0_1 a1).bind fun t523 => (if t523 = true then ((impl_isOpen.f a0_0 a0_1 a0_2 a1).bind fun t524 => (if t524 = true then (some false) else ((impl_areApart.f k a0_0 a0_1 a0_2 a1).bind fun t525 => (some t525)))) else (some false))) else (some false))) = some r := h
 clear h
 replace H := Option.bind_eq_some_iff.mp H
 obtain ⟨t522, A30, H⟩ := H
 replace H : (if t522 = true then ((impl_isGap.f a0_0 a0_1 a1).bind fun t523 => (if t523 = true then ((impl_isOpen.f a0_0 a0_1 a0_2 a1).bind fun t524 => (if t524 = true then (some false) else ((impl_areApart.f k a0_0 a0_1 a0_2 a1).bind fun t525 => (some t525)))) else (some false))) else (some false)) = some r := H
 have A3 := Aside0.mk A30
 clear A30
 by_cases c4 : t522 = true
 ·subst c4
  have H1 : ((impl_isGap.f a0_0 a0_1 a1).bind fun t523 => (if t523 = true then ((impl_isOpen.f a0_0 a0_1 a0_2 a1).bind fun t524 => (if t524 = true then (some false) else ((impl_areApart.f k a0_0 a0_1 a0_2 a1).bind fun t525 => (some t525)))) else (some false))) = some r := by rw [if_pos rfl] at H; exact H
  clear H
  have H := H1
  clear H1
  replace H := Option.bind_eq_some_iff.mp H
  obtain ⟨t523, A50, H⟩ := H
  replace H : (if t523 = true then ((impl_isOpen.f a0_0 a0_1 a0_2 a1).bind fun t524 => (if t524 = true then (some false) else ((impl_areApart.f k a0_0 a0_1 a0_2 a1).bind fun t525 => (some t525)))) else (some false)) = some r := H
  have A5 := Aside0.mk A50
  clear A50
  by_cases c6 : t523 = true
  ·subst c6
   have H1 : ((impl_isOpen.f a0_0 a0_1 a0_2 a1).bind fun t524 => (if t524 = true then (some false) else ((impl_areApart.f k a0_0 a0_1 a0_2 a1).bind fun t525 => (some t525)))) = some r := by rw [if_pos rfl] at H; exact H
   clear H
   have H := H1
   clear H1
   replace H := Option.bind_eq_some_iff.mp H
   obtain ⟨t524, A70, H⟩ := H
   replace H : (if t524 = true then (some false) else ((impl_areApart.f k a0_0 a0_1 a0_2 a1).bind fun t525 => (some t525))) = some r := H
   have A7 := Aside0.mk A70
   clear A70
   by_cases c8 : t524 = true
   ·subst c8
    have H1 : (some false) = some r := by rw [if_pos rfl] at H; exact H
    clear H
    have H := H1
    clear H1
    obtain rfl := Option.some.inj H
    go_enter Try.func92, Try.ntmps92
    go_wp2_with (first | ((with_reducible refine gate_dst (N := 2) rfl ?_); refine box_event ?hg (N := 2) ?hd (cs := #[.int .i64 a0_0, .int .i64 a0_1, .int .i64 a0_2]) (t := 30) ?hr ?_; (case hd => rfl); (case hg => rfl); (case hr => first | (go_simp; done) | (go_simp; rfl)); intro gb521 hg w9 hbox hb; have n0_ := Aside0.mk (below_step hb_ hb); have n1_ := Aside0.mk (hbox); have n2_ := Aside0.mk ((by rw [hg]; exact (below_size hb_) : w.heap.size ≤ gb521)); have n3_ := Aside0.mk ((by rw [hg]; exact (below_size hb_) : w.heap.size ≤ gb521)); clear HB; have HB := n0_; have BK521 := n1_; have GW521 := n2_; have GE521 := n3_; clear n0_ n1_ n2_ n3_; clear hb hbox hg; have hcz10_0 := cz_ (.int .i64 a0_0) BK521.out 0; have hcz10_1 := cz_ (.int .i64 a0_1) BK521.out 1; have hcz10_2 := cz_ (.int .i64 a0_2) BK521.out 2; have hfz10_0 := blk_frozen BK521.out 0; have hfz10_1 := blk_frozen BK521.out 1; have hfz10_2 := blk_frozen BK521.out 2) | ((with_reducible refine gate_callee (f := 87) rfl ?_); refine goesL_ (some 6) rfl rfl Try.func87 (by kernel_rfl) rfl #[.agg #[.int .i64 a0_0, .int .i64 a0_1, .int .i64 a0_2]] rfl mp_ ?_; (with_reducible refine (impl_MazeOk.calls a0_0 a0_1 a0_2 true _ A3.out).mono ?_); rintro e w11 ⟨rfl, hb⟩; refine ⟨_, rfl, ?_⟩; have n0_ := Aside0.mk (blk_below (g := gb521) (o := .cells #[.int .i64 a0_0, .int .i64 a0_1, .int .i64 a0_2] 30 (0, 0)) (kb_ BK521.out) hb); have n1_ := Aside0.mk (below_step hb_ hb); clear BK521; clear HB; have BK521 := n0_; have HB := n1_; clear n0_ n1_; (try clear hb); (try clear hb2); (try clear hk); (try clear hi); have hcz12_0 := cz_ (.int .i64 a0_0) BK521.out 0; have hcz12_1 := cz_ (.int .i64 a0_1) BK521.out 1; have hcz12_2 := cz_ (.int .i64 a0_2) BK521.out 2; have hfz12_0 := blk_frozen BK521.out 0; have hfz12_1 := blk_frozen BK521.out 1; have hfz12_2 := blk_frozen BK521.out 2) | (go_at_call 99; (with_reducible refine (impl_isGap.calls a0_0 a0_1 a1 true _ A5.out).mono ?_); rintro e w13 ⟨rfl, hb⟩; have n0_ := Aside0.mk (blk_below (g := gb521) (o := .cells #[.int .i64 a0_0, .int .i64 a0_1, .int .i64 a0_2] 30 (0, 0)) (kb_ BK521.out) hb); have n1_ := Aside0.mk (below_step hb_ hb); clear BK521; clear HB; have BK521 := n0_; have HB := n1_; clear n0_ n1_; (try clear hb); (try clear hb2); (try clear hk); (try clear hi); have hcz14_0 := cz_ (.int .i64 a0_0) BK521.out 0; have hcz14_1 := cz_ (.int .i64 a0_1) BK521.out 1; have hcz14_2 := cz_ (.int .i64 a0_2) BK521.out 2; have hfz14_0 := blk_frozen BK521.out 0; have hfz14_1 := blk_frozen BK521.out 1; have hfz14_2 := blk_frozen BK521.out 2) | (go_at_call 95; (with_reducible refine (impl_isOpen.calls a0_0 a0_1 a0_2 a1 true _ A7.out).mono ?_); rintro e w15 ⟨rfl, hb⟩; have n0_ := Aside0.mk (blk_below (g := gb521) (o := .cells #[.int .i64 a0_0, .int .i64 a0_1, .int .i64 a0_2] 30 (0, 0)) (kb_ BK521.out) hb); have n1_ := Aside0.mk (below_step hb_ hb); clear BK521; clear HB; have BK521 := n0_; have HB := n1_; clear n0_ n1_; (try clear hb); (try clear hb2); (try clear hk); (try clear hi)))
    go_ret
    exact ⟨er_, hb_⟩
   ·replace c8 := Bool.eq_false_iff.mpr c8
    subst c8
    have H1 : ((impl_areApart.f k a0_0 a0_1 a0_2 a1).bind fun t525 => (some t525)) = some r := by rw [if_neg (show ¬ (false = true) by decide)] at H; exact H
    clear H
    have H := H1
    clear H1
    replace H := Option.bind_eq_some_iff.mp H
    obtain ⟨t525, A160, H⟩ := H
    replace H : (some t525) = some r := H
    have A16 := Aside0.mk A160
    clear A160
    obtain rfl := Option.some.inj H
    go_enter Try.func92, Try.ntmps92
    go_wp2_with (first | ((with_reducible refine gate_dst (N := 2) rfl ?_); refine box_event ?hg (N := 2) ?hd (cs := #[.int .i64 a0_0, .int .i64 a0_1, .int .i64 a0_2]) (t := 30) ?hr ?_; (case hd => rfl); (case hg => rfl); (case hr => first | (go_simp; done) | (go_simp; rfl)); intro gb521 hg w17 hbox hb; have n0_ := Aside0.mk (below_step hb_ hb); have n1_ := Aside0.mk (hbox); have n2_ := Aside0.mk ((by rw [hg]; exact (below_size hb_) : w.heap.size ≤ gb521)); have n3_ := Aside0.mk ((by rw [hg]; exact (below_size hb_) : w.heap.size ≤ gb521)); clear HB; have HB := n0_; have BK521 := n1_; have GW521 := n2_; have GE521 := n3_; clear n0_ n1_ n2_ n3_; clear hb hbox hg; have hcz18_0 := cz_ (.int .i64 a0_0) BK521.out 0; have hcz18_1 := cz_ (.int .i64 a0_1) BK521.out 1; have hcz18_2 := cz_ (.int .i64 a0_2) BK521.out 2; have hfz18_0 := blk_frozen BK521.out 0; have hfz18_1 := blk_frozen BK521.out 1; have hfz18_2 := blk_frozen BK521.out 2) | ((with_reducible refine gate_callee (f := 87) rfl ?_); refine goesL_ (some 6) rfl rfl Try.func87 (by kernel_rfl) rfl #[.agg #[.int .i64 a0_0, .int .i64 a0_1, .int .i64 a0_2]] rfl mp_ ?_; (with_reducible refine (impl_MazeOk.calls a0_0 a0_1 a0_2 true _ A3.out).mono ?_); rintro e w19 ⟨rfl, hb⟩; refine ⟨_, rfl, ?_⟩; have n0_ := Aside0.mk (blk_below (g := gb521) (o := .cells #[.int .i64 a0_0, .int .i64 a0_1, .int .i64 a0_2] 30 (0, 0)) (kb_ BK521.out) hb); have n1_ := Aside0.mk (below_step hb_ hb); clear BK521; clear HB; have BK521 := n0_; have HB := n1_; clear n0_ n1_; (try clear hb); (try clear hb2); (try clear hk); (try clear hi); have hcz20_0 := cz_ (.int .i64 a0_0) BK521.out 0; have hcz20_1 := cz_ (.int .i64 a0_1) BK521.out 1; have hcz20_2 := cz_ (.int .i64 a0_2) BK521.out 2; have hfz20_0 := blk_frozen BK521.out 0; have hfz20_1 := blk_frozen BK521.out 1; have hfz20_2 := blk_frozen BK521.out 2) | (go_at_call 99; (with_reducible refine (impl_isGap.calls a0_0 a0_1 a1 true _ A5.out).mono ?_); rintro e w21 ⟨rfl, hb⟩; have n0_ := Aside0.mk (blk_below (g := gb521) (o := .cells #[.int .i64 a0_0, .int .i64 a0_1, .int .i64 a0_2] 30 (0, 0)) (kb_ BK521.out) hb); have n1_ := Aside0.mk (below_step hb_ hb); clear BK521; clear HB; have BK521 := n0_; have HB := n1_; clear n0_ n1_; (try clear hb); (try clear hb2); (try clear hk); (try clear hi); have hcz22_0 := cz_ (.int .i64 a0_0) BK521.out 0; have hcz22_1 := cz_ (.int .i64 a0_1) BK521.out 1; have hcz22_2 := cz_ (.int .i64 a0_2) BK521.out 2; have hfz22_0 := blk_frozen BK521.out 0; have hfz22_1 := blk_frozen BK521.out 1; have hfz22_2 := blk_frozen BK521.out 2) | (go_at_call 95; (with_reducible refine (impl_isOpen.calls a0_0 a0_1 a0_2 a1 false _ A7.out).mono ?_); rintro e w23 ⟨rfl, hb⟩; have n0_ := Aside0.mk (blk_below (g := gb521) (o := .cells #[.int .i64 a0_0, .int .i64 a0_1, .int .i64 a0_2] 30 (0, 0)) (kb_ BK521.out) hb); have n1_ := Aside0.mk (below_step hb_ hb); clear BK521; clear HB; have BK521 := n0_; have HB := n1_; clear n0_ n1_; (try clear hb); (try clear hb2); (try clear hk); (try clear hi); have hcz24_0 := cz_ (.int .i64 a0_0) BK521.out 0; have hcz24_1 := cz_ (.int .i64 a0_1) BK521.out 1; have hcz24_2 := cz_ (.int .i64 a0_2) BK521.out 2; have hfz24_0 := blk_frozen BK521.out 0; have hfz24_1 := blk_frozen BK521.out 1; have hfz24_2 := blk_frozen BK521.out 2) | (go_at_call 109; (with_reducible refine (impl_areApart.calls k a0_0 a0_1 a0_2 a1 t525 _ A16.out).mono ?_); rintro e w25 ⟨rfl, hb⟩; have n0_ := Aside0.mk (blk_below (g := gb521) (o := .cells #[.int .i64 a0_0, .int .i64 a0_1, .int .i64 a0_2] 30 (0, 0)) (kb_ BK521.out) hb); have n1_ := Aside0.mk (below_step hb_ hb); clear BK521; clear HB; have BK521 := n0_; have HB := n1_; clear n0_ n1_; (try clear hb); (try clear hb2); (try clear hk); (try clear hi)))
    go_ret
    exact ⟨er_, hb_⟩
  ·replace c6 := Bool.eq_false_iff.mpr c6
   subst c6
   have H1 : (some false) = some r := by rw [if_neg (show ¬ (false = true) by decide)] at H; exact H
   clear H
   have H := H1
   clear H1
   obtain rfl := Option.some.inj H
   go_enter Try.func92, Try.ntmps92
   go_wp2_with (first | ((with_reducible refine gate_dst (N := 2) rfl ?_); refine box_event ?hg (N := 2) ?hd (cs := #[.int .i64 a0_0, .int .i64 a0_1, .int .i64 a0_2]) (t := 30) ?hr ?_; (case hd => rfl); (case hg => rfl); (case hr => first | (go_simp; done) | (go_simp; rfl)); intro gb521 hg w26 hbox hb; have n0_ := Aside0.mk (below_step hb_ hb); have n1_ := Aside0.mk (hbox); have n2_ := Aside0.mk ((by rw [hg]; exact (below_size hb_) : w.heap.size ≤ gb521)); have n3_ := Aside0.mk ((by rw [hg]; exact (below_size hb_) : w.heap.size ≤ gb521)); clear HB; have HB := n0_; have BK521 := n1_; have GW521 := n2_; have GE521 := n3_; clear n0_ n1_ n2_ n3_; clear hb hbox hg; have hcz27_0 := cz_ (.int .i64 a0_0) BK521.out 0; have hcz27_1 := cz_ (.int .i64 a0_1) BK521.out 1; have hcz27_2 := cz_ (.int .i64 a0_2) BK521.out 2; have hfz27_0 := blk_frozen BK521.out 0; have hfz27_1 := blk_frozen BK521.out 1; have hfz27_2 := blk_frozen BK521.out 2) | ((with_reducible refine gate_callee (f := 87) rfl ?_); refine goesL_ (some 6) rfl rfl Try.func87 (by kernel_rfl) rfl #[.agg #[.int .i64 a0_0, .int .i64 a0_1, .int .i64 a0_2]] rfl mp_ ?_; (with_reducible refine (impl_MazeOk.calls a0_0 a0_1 a0_2 true _ A3.out).mono ?_); rintro e w28 ⟨rfl, hb⟩; refine ⟨_, rfl, ?_⟩; have n0_ := Aside0.mk (blk_below (g := gb521) (o := .cells #[.int .i64 a0_0, .int .i64 a0_1, .int .i64 a0_2] 30 (0, 0)) (kb_ BK521.out) hb); have n1_ := Aside0.mk (below_step hb_ hb); clear BK521; clear HB; have BK521 := n0_; have HB := n1_; clear n0_ n1_; (try clear hb); (try clear hb2); (try clear hk); (try clear hi); have hcz29_0 := cz_ (.int .i64 a0_0) BK521.out 0; have hcz29_1 := cz_ (.int .i64 a0_1) BK521.out 1; have hcz29_2 := cz_ (.int .i64 a0_2) BK521.out 2; have hfz29_0 := blk_frozen BK521.out 0; have hfz29_1 := blk_frozen BK521.out 1; have hfz29_2 := blk_frozen BK521.out 2) | (go_at_call 99; (with_reducible refine (impl_isGap.calls a0_0 a0_1 a1 false _ A5.out).mono ?_); rintro e w30 ⟨rfl, hb⟩; have n0_ := Aside0.mk (blk_below (g := gb521) (o := .cells #[.int .i64 a0_0, .int .i64 a0_1, .int .i64 a0_2] 30 (0, 0)) (kb_ BK521.out) hb); have n1_ := Aside0.mk (below_step hb_ hb); clear BK521; clear HB; have BK521 := n0_; have HB := n1_; clear n0_ n1_; (try clear hb); (try clear hb2); (try clear hk); (try clear hi)))
   go_ret
   exact ⟨er_, hb_⟩
 ·replace c4 := Bool.eq_false_iff.mpr c4
  subst c4
  have H1 : (some false) = some r := by rw [if_neg (show ¬ (false = true) by decide)] at H; exact H
  clear H
  have H := H1
  clear H1
  obtain rfl := Option.some.inj H
  go_enter Try.func92, Try.ntmps92
  go_wp2_with (first | ((with_reducible refine gate_dst (N := 2) rfl ?_); refine box_event ?hg (N := 2) ?hd (cs := #[.int .i64 a0_0, .int .i64 a0_1, .int .i64 a0_2]) (t := 30) ?hr ?_; (case hd => rfl); (case hg => rfl); (case hr => first | (go_simp; done) | (go_simp; rfl)); intro gb521 hg w31 hbox hb; have n0_ := Aside0.mk (below_step hb_ hb); have n1_ := Aside0.mk (hbox); have n2_ := Aside0.mk ((by rw [hg]; exact (below_size hb_) : w.heap.size ≤ gb521)); have n3_ := Aside0.mk ((by rw [hg]; exact (below_size hb_) : w.heap.size ≤ gb521)); clear HB; have HB := n0_; have BK521 := n1_; have GW521 := n2_; have GE521 := n3_; clear n0_ n1_ n2_ n3_; clear hb hbox hg; have hcz32_0 := cz_ (.int .i64 a0_0) BK521.out 0; have hcz32_1 := cz_ (.int .i64 a0_1) BK521.out 1; have hcz32_2 := cz_ (.int .i64 a0_2) BK521.out 2; have hfz32_0 := blk_frozen BK521.out 0; have hfz32_1 := blk_frozen BK521.out 1; have hfz32_2 := blk_frozen BK521.out 2) | ((with_reducible refine gate_callee (f := 87) rfl ?_); refine goesL_ (some 6) rfl rfl Try.func87 (by kernel_rfl) rfl #[.agg #[.int .i64 a0_0, .int .i64 a0_1, .int .i64 a0_2]] rfl mp_ ?_; (with_reducible refine (impl_MazeOk.calls a0_0 a0_1 a0_2 false _ A3.out).mono ?_); rintro e w33 ⟨rfl, hb⟩; refine ⟨_, rfl, ?_⟩; have n0_ := Aside0.mk (blk_below (g := gb521) (o := .cells #[.int .i64 a0_0, .int .i64 a0_1, .int .i64 a0_2] 30 (0, 0)) (kb_ BK521.out) hb); have n1_ := Aside0.mk (below_step hb_ hb); clear BK521; clear HB; have BK521 := n0_; have HB := n1_; clear n0_ n1_; (try clear hb); (try clear hb2); (try clear hk); (try clear hi)))
  go_ret
  exact ⟨er_, hb_⟩

end Go.Proofs.Ytpaecckpdaiogaa.Q
