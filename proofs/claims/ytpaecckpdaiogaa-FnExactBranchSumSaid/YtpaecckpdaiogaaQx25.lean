/- Plain Lean functions of Go functions, and for each the proof that its call comes to just that answer. Conditions: in each theorem's statement. -/
import Derived.Test.YtpaecckpdaiogaaQx0
import Derived.Test.YtpaecckpdaiogaaQx2
import Derived.Test.YtpaecckpdaiogaaQx8
import Derived.Test.YtpaecckpdaiogaaQx9
import Derived.Test.YtpaecckpdaiogaaQx14
import Derived.Test.YtpaecckpdaiogaaQx16
namespace Go.Proofs.Ytpaecckpdaiogaa.Q
open Go.RowKit Go.Proofs.YtpaecckpdaiogaaW.PrintWords Go.Proofs.YtpaecckpdaiogaaW.PrintLast
attribute [local go_sem] max2_int min2_int max_two min_two   -- for this text's walks alone
set_option linter.unusedVariables false
set_option linter.unusedSimpArgs false

/-! ### spec_BranchSum: function 25 -/
mutual
def spec_BranchSum.l0 : Nat → Int → Int → Int → Int → Int → Option (Int)
 | 0, _, _, _, _, _ => none
 | k + 1, x3, x4, x272000, x272001, x272002 => (spec_CountCells.f x272000 x272001).bind fun t272 => (if x4 < t272 then ((spec_MazeOk.f x272000 x272001 x272002).bind fun t273 => (spec_BranchSum.j1 k x3 x4 t273 x272000 x272001 x272002)) else (spec_BranchSum.j1 k x3 x4 false x272000 x272001 x272002))
def spec_BranchSum.j1 : Nat → Int → Int → Bool → Int → Int → Int → Option (Int)
 | 0, _, _, _, _, _, _ => none
 | k + 1, x3, x4, x14, x272000, x272001, x272002 => if x14 = true then ((spec_WaysFrom.f k x272000 x272001 x272002 x4).bind fun t274 => (if (t274.length : Int) > 0 then (spec_BranchSum.l0 k (wrap64 ((wrap64 (x3 + (t274.length : Int))) - 2)) (wrap64 (x4 + 1)) x272000 x272001 x272002) else (spec_BranchSum.l0 k x3 (wrap64 (x4 + 1)) x272000 x272001 x272002))) else (some x3)
end
def spec_BranchSum.f (k : Nat) (a0_0 : Int) (a0_1 : Int) (a0_2 : Int) : Option (Int) := spec_BranchSum.l0 k 0 0 a0_0 a0_1 a0_2
theorem spec_BranchSum.mono_l : ∀ k, (∀ y0 y1 y2 y3 y4, LeO (spec_BranchSum.l0 k y0 y1 y2 y3 y4) (spec_BranchSum.l0 (k + 1) y0 y1 y2 y3 y4)) ∧ (∀ y0 y1 y2 y3 y4 y5, LeO (spec_BranchSum.j1 k y0 y1 y2 y3 y4 y5) (spec_BranchSum.j1 (k + 1) y0 y1 y2 y3 y4 y5))
 | 0 => ⟨fun _ _ _ _ _ r h => by simp [spec_BranchSum.l0] at h, fun _ _ _ _ _ _ r h => by simp [spec_BranchSum.j1] at h⟩
 | k + 1 => by
  obtain ⟨ih0, ih1⟩ := spec_BranchSum.mono_l k
  refine ⟨?_, ?_⟩
  ·intro y0 y1 y2 y3 y4
   unfold spec_BranchSum.l0
   repeat' first
   | (with_reducible exact ih0 _ _ _ _ _)
   | (with_reducible exact ih1 _ _ _ _ _ _)
   | (with_reducible exact spec_WaysFrom.mono _ _ _ _ _)
   | (with_reducible exact LeO.refl _)
   | (with_reducible exact LeO.none _)
   | (with_reducible refine LeO.ite ?_ ?_)
   | (with_reducible refine LeO.bind ?_ (fun _ => ?_))
   | exact ih0 _ _ _ _ _
   | exact ih1 _ _ _ _ _ _
   | exact spec_WaysFrom.mono _ _ _ _ _
   | exact LeO.none _
   | refine LeO.ite ?_ ?_
   | refine LeO.bind ?_ (fun _ => ?_)
  ·intro y0 y1 y2 y3 y4 y5
   unfold spec_BranchSum.j1
   repeat' first
   | (with_reducible exact ih0 _ _ _ _ _)
   | (with_reducible exact ih1 _ _ _ _ _ _)
   | (with_reducible exact spec_WaysFrom.mono _ _ _ _ _)
   | (with_reducible exact LeO.refl _)
   | (with_reducible exact LeO.none _)
   | (with_reducible refine LeO.ite ?_ ?_)
   | (with_reducible refine LeO.bind ?_ (fun _ => ?_))
   | exact ih0 _ _ _ _ _
   | exact ih1 _ _ _ _ _ _
   | exact spec_WaysFrom.mono _ _ _ _ _
   | exact LeO.none _
   | refine LeO.ite ?_ ?_
   | refine LeO.bind ?_ (fun _ => ?_)
theorem spec_BranchSum.mono : ∀ a0 a1 a2 k, LeO (spec_BranchSum.f k a0 a1 a2) (spec_BranchSum.f (k + 1) a0 a1 a2) := by
 intro a0 a1 a2 k
 obtain ⟨ih0, ih1⟩ := spec_BranchSum.mono_l k
 unfold spec_BranchSum.f
 repeat' first
   | (with_reducible exact ih0 _ _ _ _ _)
   | (with_reducible exact ih1 _ _ _ _ _ _)
   | (with_reducible exact spec_WaysFrom.mono _ _ _ _ _)
   | (with_reducible exact LeO.refl _)
   | (with_reducible exact LeO.none _)
   | (with_reducible refine LeO.ite ?_ ?_)
   | (with_reducible refine LeO.bind ?_ (fun _ => ?_))
   | exact ih0 _ _ _ _ _
   | exact ih1 _ _ _ _ _ _
   | exact spec_WaysFrom.mono _ _ _ _ _
   | exact LeO.none _
   | refine LeO.ite ?_ ?_
   | refine LeO.bind ?_ (fun _ => ?_)
set_option maxHeartbeats 8000000 in
set_option maxRecDepth 100000 in
theorem spec_BranchSum.calls (k : Nat) (a0_0 : Int) (a0_1 : Int) (a0_2 : Int) (r : Int) (w : World) (h : spec_BranchSum.f k a0_0 a0_1 a0_2 = some r) :
  Calls Try.prog 25 #[.agg #[.int .i64 a0_0, .int .i64 a0_1, .int .i64 a0_2]] w fun e w' => e = .returned (.int .i64 r) ∧ Below w.heap.size w w' := by
 have hu30 := Try.underlying30
 have hu28 := Try.underlying28
 have HB := Aside0.mk (Below.refl w.heap.size w)
 have H : (spec_BranchSum.l0 k 0 0 a0_0 a0_1 a0_2) = some r := h
 clear h
 have H' := Aside0.mk H
 clear H
 go_enter Try.func25, Try.ntmps25
 go_wp2_with (first | ((with_reducible refine gate_dst (N := 1) rfl ?_); refine box_event ?hg (N := 1) ?hd (cs := #[.int .i64 a0_0, .int .i64 a0_1, .int .i64 a0_2]) (t := 30) ?hr ?_; (case hd => rfl); (case hg => rfl); (case hr => first | (go_simp; done) | (go_simp; rfl)); intro gb271 hg w2 hbox hb; have n0_ := Aside0.mk (below_step hb_ hb); have n1_ := Aside0.mk (hbox); have n2_ := Aside0.mk ((by rw [hg]; exact (below_size hb_) : w.heap.size ≤ gb271)); have n3_ := Aside0.mk ((by rw [hg]; exact (below_size hb_) : w.heap.size ≤ gb271)); clear HB; have HB := n0_; have BK271 := n1_; have GW271 := n2_; have GE271 := n3_; clear n0_ n1_ n2_ n3_; clear hb hbox hg))
 go_loopg [3, 4] k (fun kq v3 v4 w' => ∃ (x3_1 : Int) (x4_1 : Int), v3 = .int .i64 x3_1 ∧ v4 = .int .i64 x4_1 ∧ Aside0 (spec_BranchSum.l0 kq x3_1 x4_1 a0_0 a0_1 a0_2 = some r) ∧ Aside0 (kq ≤ k) ∧ Aside0 (w'.heap[gb271]? = some (.cells #[.int .i64 a0_0, .int .i64 a0_1, .int .i64 a0_2] 30 (0, 0))) ∧ Aside0 (Below w.heap.size w w'))
 case atStart => exact ⟨(0), (0), (by first | rfl | (simp; done) | (simp [*]; done)), (by first | rfl | (simp; done) | (simp [*]; done)), H', ⟨Nat.le_refl _⟩, ⟨kb_ BK271.out⟩, ⟨hb_⟩⟩
 case round =>
  clear H'
  try clear c2
  try clear p2
  obtain ⟨x3_1, x4_1, rfl, rfl, HA, HK1, BK271, HB⟩ := hrel
  cases gk with
  | zero => exact absurd HA.out (by simp [spec_BranchSum.l0])
  | succ k1 =>
   have H := HA.out
   clear HA
   simp only [spec_BranchSum.l0] at H
   have HC3 := Aside0.mk H
   clear H
   go_upto_region 3 with (fail)
   go_cut [14] (fun v14 wc => ∃ (kq : Nat) (x14_2 : Bool), v14 = .bool x14_2 ∧ Aside0 (spec_BranchSum.j1 kq x3_1 x4_1 x14_2 a0_0 a0_1 a0_2 = some r) ∧ Aside0 (kq ≤ k1) ∧ Aside0 (wc.heap[gb271]? = some (.cells #[.int .i64 a0_0, .int .i64 a0_1, .int .i64 a0_2] 30 (0, 0))) ∧ Aside0 (Below w.heap.size w wc))
   case first =>
    have H := HC3.out
    clear HC3
    replace H := Option.bind_eq_some_iff.mp H
    obtain ⟨t272, A40, H⟩ := H
    replace H : (if x4_1 < t272 then ((spec_MazeOk.f a0_0 a0_1 a0_2).bind fun t273 => (spec_BranchSum.j1 k1 x3_1 x4_1 t273 a0_0 a0_1 a0_2)) else (spec_BranchSum.j1 k1 x3_1 x4_1 false a0_0 a0_1 a0_2)) = some r := H
    have A4 := Aside0.mk A40
    clear A40
    by_cases c5 : x4_1 < t272
    ·rw [if_pos c5] at H
     have c5b0 : decide (x4_1 < t272) = true := decide_eq_true c5
     clear c5
     (first | rw [c5b0] | (simp only [i64_w, i32_w]; rw [c5b0]) | skip)
     replace H := Option.bind_eq_some_iff.mp H
     obtain ⟨t273, A60, H⟩ := H
     replace H : (spec_BranchSum.j1 k1 x3_1 x4_1 t273 a0_0 a0_1 a0_2) = some r := H
     have A6 := Aside0.mk A60
     clear A60
     have H' := Aside0.mk H
     clear H
     have hcz7_0 : wr.cell? ⟨gb271, 0, none⟩ = some (.int .i64 a0_0) := (blk_cell BK271.out 0).trans rfl
     have hcz7_1 : wr.cell? ⟨gb271, 1, none⟩ = some (.int .i64 a0_1) := (blk_cell BK271.out 1).trans rfl
     have hcz7_2 : wr.cell? ⟨gb271, 2, none⟩ = some (.int .i64 a0_2) := (blk_cell BK271.out 2).trans rfl
     have hfz7_0 := blk_frozen BK271.out 0
     have hfz7_1 := blk_frozen BK271.out 1
     have hfz7_2 := blk_frozen BK271.out 2
     go_wp2_with (first | ((with_reducible refine gate_callee (f := 40) rfl ?_); refine goesL_ (some 9) rfl rfl Try.func40 (by kernel_rfl) rfl #[.agg #[.int .i64 a0_0, .int .i64 a0_1]] rfl mp_ ?_; (with_reducible refine (spec_CountCells.calls a0_0 a0_1 t272 _ A4.out).mono ?_); rintro e w8 ⟨rfl, hb⟩; refine ⟨_, rfl, ?_⟩; have n0_ := Aside0.mk (blk_below (g := gb271) (o := .cells #[.int .i64 a0_0, .int .i64 a0_1, .int .i64 a0_2] 30 (0, 0)) (kb_ BK271.out) hb); have n1_ := Aside0.mk (below_step hb_ hb); clear BK271; clear HB; have BK271 := n0_; have HB := n1_; clear n0_ n1_; (try clear hb); (try clear hb2); (try clear hk); (try clear hi); have hcz9_0 := cz_ (.int .i64 a0_0) BK271.out 0; have hcz9_1 := cz_ (.int .i64 a0_1) BK271.out 1; have hcz9_2 := cz_ (.int .i64 a0_2) BK271.out 2; have hfz9_0 := blk_frozen BK271.out 0; have hfz9_1 := blk_frozen BK271.out 1; have hfz9_2 := blk_frozen BK271.out 2) | (go_at_call 65; (with_reducible refine (spec_MazeOk.calls a0_0 a0_1 a0_2 t273 _ A6.out).mono ?_); rintro e w10 ⟨rfl, hb⟩; have n0_ := Aside0.mk (blk_below (g := gb271) (o := .cells #[.int .i64 a0_0, .int .i64 a0_1, .int .i64 a0_2] 30 (0, 0)) (kb_ BK271.out) hb); have n1_ := Aside0.mk (below_step hb_ hb); clear BK271; clear HB; have BK271 := n0_; have HB := n1_; clear n0_ n1_; (try clear hb); (try clear hb2); (try clear hk); (try clear hi)))
     go_meet
     case rel => exact ⟨_, (t273), (by first | rfl | (simp; done) | (simp [*]; done)), H', ⟨by have := HK1.out; first | omega | exact Nat.le_refl _⟩, ⟨kb_ BK271.out⟩, ⟨hb_⟩⟩
    ·rw [if_neg c5] at H
     have c5b0 : decide (x4_1 < t272) = false := decide_eq_false c5
     clear c5
     (first | rw [c5b0] | (simp only [i64_w, i32_w]; rw [c5b0]) | skip)
     have H' := Aside0.mk H
     clear H
     have hcz11_0 : wr.cell? ⟨gb271, 0, none⟩ = some (.int .i64 a0_0) := (blk_cell BK271.out 0).trans rfl
     have hcz11_1 : wr.cell? ⟨gb271, 1, none⟩ = some (.int .i64 a0_1) := (blk_cell BK271.out 1).trans rfl
     have hcz11_2 : wr.cell? ⟨gb271, 2, none⟩ = some (.int .i64 a0_2) := (blk_cell BK271.out 2).trans rfl
     have hfz11_0 := blk_frozen BK271.out 0
     have hfz11_1 := blk_frozen BK271.out 1
     have hfz11_2 := blk_frozen BK271.out 2
     go_wp2_with (first | ((with_reducible refine gate_callee (f := 40) rfl ?_); refine goesL_ (some 9) rfl rfl Try.func40 (by kernel_rfl) rfl #[.agg #[.int .i64 a0_0, .int .i64 a0_1]] rfl mp_ ?_; (with_reducible refine (spec_CountCells.calls a0_0 a0_1 t272 _ A4.out).mono ?_); rintro e w12 ⟨rfl, hb⟩; refine ⟨_, rfl, ?_⟩; have n0_ := Aside0.mk (blk_below (g := gb271) (o := .cells #[.int .i64 a0_0, .int .i64 a0_1, .int .i64 a0_2] 30 (0, 0)) (kb_ BK271.out) hb); have n1_ := Aside0.mk (below_step hb_ hb); clear BK271; clear HB; have BK271 := n0_; have HB := n1_; clear n0_ n1_; (try clear hb); (try clear hb2); (try clear hk); (try clear hi)))
     go_meet
     case rel => exact ⟨_, (false), (by first | rfl | (simp; done) | (simp [*]; done)), H', ⟨by have := HK1.out; first | omega | exact Nat.le_refl _⟩, ⟨kb_ BK271.out⟩, ⟨hb_⟩⟩
   case rest =>
    clear HC3
    try clear c2
    try clear p2
    try clear c4
    try clear c5
    try clear c5b0
    try clear hcz11_0
    try clear hcz11_1
    try clear hcz11_2
    try clear hcz7_0
    try clear hcz7_1
    try clear hcz7_2
    try clear hcz9_0
    try clear hcz9_1
    try clear hcz9_2
    try clear hfz11_0
    try clear hfz11_1
    try clear hfz11_2
    try clear hfz7_0
    try clear hfz7_1
    try clear hfz7_2
    try clear hfz9_0
    try clear hfz9_1
    try clear hfz9_2
    try clear p2
    obtain ⟨kq, x14_2, rfl, HA, HJ2, BK271, HB⟩ := hcut
    cases kq with
    | zero => exact absurd HA.out (by simp [spec_BranchSum.j1])
    | succ kj2 =>
     have H := HA.out
     clear HA
     simp only [spec_BranchSum.j1] at H
     by_cases c13 : x14_2 = true
     ·subst c13
      have H1 : ((spec_WaysFrom.f kj2 a0_0 a0_1 a0_2 x4_1).bind fun t274 => (if (t274.length : Int) > 0 then (spec_BranchSum.l0 kj2 (wrap64 ((wrap64 (x3_1 + (t274.length : Int))) - 2)) (wrap64 (x4_1 + 1)) a0_0 a0_1 a0_2) else (spec_BranchSum.l0 kj2 x3_1 (wrap64 (x4_1 + 1)) a0_0 a0_1 a0_2))) = some r := by rw [if_pos rfl] at H; exact H
      clear H
      have H := H1
      clear H1
      replace H := Option.bind_eq_some_iff.mp H
      obtain ⟨t274, A140, H⟩ := H
      replace H : (if (t274.length : Int) > 0 then (spec_BranchSum.l0 kj2 (wrap64 ((wrap64 (x3_1 + (t274.length : Int))) - 2)) (wrap64 (x4_1 + 1)) a0_0 a0_1 a0_2) else (spec_BranchSum.l0 kj2 x3_1 (wrap64 (x4_1 + 1)) a0_0 a0_1 a0_2)) = some r := H
      have A14 := Aside0.mk A140
      clear A140
      by_cases c15 : (t274.length : Int) > 0
      ·rw [if_pos c15] at H
       have c15b0 : decide (0 < (t274.length : Int)) = true := decide_eq_true c15
       have c15b1 : decide (0 < t274.length) = true := decide_eq_true (by omega)
       clear c15
       have H' := Aside0.mk H
       clear H
       have hcz16_0 : wc.cell? ⟨gb271, 0, none⟩ = some (.int .i64 a0_0) := (blk_cell BK271.out 0).trans rfl
       have hcz16_1 : wc.cell? ⟨gb271, 1, none⟩ = some (.int .i64 a0_1) := (blk_cell BK271.out 1).trans rfl
       have hcz16_2 : wc.cell? ⟨gb271, 2, none⟩ = some (.int .i64 a0_2) := (blk_cell BK271.out 2).trans rfl
       have hfz16_0 := blk_frozen BK271.out 0
       have hfz16_1 := blk_frozen BK271.out 1
       have hfz16_2 := blk_frozen BK271.out 2
       go_wp2_with (first | ((with_reducible refine gate_callee (f := 66) rfl ?_); refine goesL_ (some 19) rfl rfl Try.func66 (by kernel_rfl) rfl #[.agg #[.int .i64 a0_0, .int .i64 a0_1, .int .i64 a0_2], .int .i64 x4_1] rfl mp_ ?_; (with_reducible refine (spec_WaysFrom.calls kj2 a0_0 a0_1 a0_2 x4_1 t274 _ A14.out).mono ?_); rintro e w17 ⟨v275, rfl, ho0, hb⟩; refine ⟨_, rfl, ?_⟩; have n0_ := Aside0.mk (Kd.R_lower ho0 (below_size hb_)); have n1_ := Aside0.mk (blk_below (g := gb271) (o := .cells #[.int .i64 a0_0, .int .i64 a0_1, .int .i64 a0_2] 30 (0, 0)) (kb_ BK271.out) hb); have n2_ := Aside0.mk (below_step hb_ hb); clear BK271; clear HB; have HO276 := n0_; have BK271 := n1_; have HB := n2_; clear n0_ n1_ n2_; (try clear hb); (try clear hb2); (try clear hk); (try clear hi); (try clear ho0); obtain ⟨Ao18, co18, eo18⟩ := Kd.R_slice HO276.out; subst eo18))
       go_roundg kj2
       case measure => have := HK1.out; have := HJ2.out; omega
       case rel => exact ⟨(wrap64 ((wrap64 (x3_1 + (t274.length : Int))) - 2)), (wrap64 (x4_1 + 1)), (by first | rfl | (simp; done) | (simp [*]; done)), (by first | rfl | (simp; done) | (simp [*]; done)), H', ⟨by have := HK1.out; have := HJ2.out; omega⟩, ⟨kb_ BK271.out⟩, ⟨hb_⟩⟩
      ·rw [if_neg c15] at H
       have c15b0 : decide (0 < (t274.length : Int)) = false := decide_eq_false c15
       have c15b1 : decide (0 < t274.length) = false := decide_eq_false (by omega)
       clear c15
       have H' := Aside0.mk H
       clear H
       have hcz19_0 : wc.cell? ⟨gb271, 0, none⟩ = some (.int .i64 a0_0) := (blk_cell BK271.out 0).trans rfl
       have hcz19_1 : wc.cell? ⟨gb271, 1, none⟩ = some (.int .i64 a0_1) := (blk_cell BK271.out 1).trans rfl
       have hcz19_2 : wc.cell? ⟨gb271, 2, none⟩ = some (.int .i64 a0_2) := (blk_cell BK271.out 2).trans rfl
       have hfz19_0 := blk_frozen BK271.out 0
       have hfz19_1 := blk_frozen BK271.out 1
       have hfz19_2 := blk_frozen BK271.out 2
       go_wp2_with (first | ((with_reducible refine gate_callee (f := 66) rfl ?_); refine goesL_ (some 19) rfl rfl Try.func66 (by kernel_rfl) rfl #[.agg #[.int .i64 a0_0, .int .i64 a0_1, .int .i64 a0_2], .int .i64 x4_1] rfl mp_ ?_; (with_reducible refine (spec_WaysFrom.calls kj2 a0_0 a0_1 a0_2 x4_1 t274 _ A14.out).mono ?_); rintro e w20 ⟨v275, rfl, ho0, hb⟩; refine ⟨_, rfl, ?_⟩; have n0_ := Aside0.mk (Kd.R_lower ho0 (below_size hb_)); have n1_ := Aside0.mk (blk_below (g := gb271) (o := .cells #[.int .i64 a0_0, .int .i64 a0_1, .int .i64 a0_2] 30 (0, 0)) (kb_ BK271.out) hb); have n2_ := Aside0.mk (below_step hb_ hb); clear BK271; clear HB; have HO276 := n0_; have BK271 := n1_; have HB := n2_; clear n0_ n1_ n2_; (try clear hb); (try clear hb2); (try clear hk); (try clear hi); (try clear ho0); obtain ⟨Ao21, co21, eo21⟩ := Kd.R_slice HO276.out; subst eo21))
       go_roundg kj2
       case measure => have := HK1.out; have := HJ2.out; omega
       case rel => exact ⟨(x3_1), (wrap64 (x4_1 + 1)), (by first | rfl | (simp; done) | (simp [*]; done)), (by first | rfl | (simp; done) | (simp [*]; done)), H', ⟨by have := HK1.out; have := HJ2.out; omega⟩, ⟨kb_ BK271.out⟩, ⟨hb_⟩⟩
     ·replace c13 := Bool.eq_false_iff.mpr c13
      subst c13
      have H1 : (some x3_1) = some r := by rw [if_neg (show ¬ (false = true) by decide)] at H; exact H
      clear H
      have H := H1
      clear H1
      obtain rfl := Option.some.inj H
      go_wp2
      go_ret
      exact ⟨er_, hb_⟩

/-! ### impl_BranchSum: function 26 -/
theorem BranchSum_ent : ∀ args w, (callFunc 71 args).run Try.prog w = .ok (.enter 71 args) w := enters_of Try.func71 (by kernel_rfl) rfl
set_option maxHeartbeats 4000000 in
set_option maxRecDepth 100000 in
theorem BranchSum_fn : PredS 71 (fun l => decide ((l.length : Int) > 0)) := fun w A c l hr hc => by
 have hl : l.length ≤ 9223372036854775807 := hr.2.1
 clear hr
 go_enter Try.func71, Try.ntmps71
 go_wp2
 go_ret
 exact ⟨by rw [show decide ((l.length : Int) > 0) = decide (0 < l.length) from decide_eq_decide.2 (by omega)]; rfl, Below.refl _ _⟩

def branch_go (k : Nat) (a0_0 a0_1 a0_2 : Int) : List Int → Int → Option Int
 | [], n => some n
 | x :: l, n => (impl_WaysFrom.f k a0_0 a0_1 a0_2 x).bind fun t => branch_go k a0_0 a0_1 a0_2 l (wrap64 (n + wrap64 ((t.length : Int) - 2)))
theorem branch_go_mono (a0_0 a0_1 a0_2 : Int) (k : Nat) : ∀ (l : List Int) (n : Int), LeO (branch_go k a0_0 a0_1 a0_2 l n) (branch_go (k + 1) a0_0 a0_1 a0_2 l n)
 | [], _ => LeO.refl _
 | x :: l, n => LeO.bind (impl_WaysFrom.mono a0_0 a0_1 a0_2 x k) (fun _ => branch_go_mono a0_0 a0_1 a0_2 k l _)
def impl_BranchSum.f (k : Nat) (a0_0 : Int) (a0_1 : Int) (a0_2 : Int) : Option (Int) := (cells_with (fun l => decide ((l.length : Int) > 0)) k a0_0 a0_1 a0_2).bind fun t => branch_go k a0_0 a0_1 a0_2 t 0
theorem impl_BranchSum.mono : ∀ a0 a1 a2 k, LeO (impl_BranchSum.f k a0 a1 a2) (impl_BranchSum.f (k + 1) a0 a1 a2) := fun a0 a1 a2 k => LeO.bind (cells_with_mono _ a0 a1 a2 k) (fun t => branch_go_mono a0 a1 a2 k t 0)
theorem branch_at (k : Nat) (a0_0 a0_1 a0_2 : Int) (t : List Int) (j : Nat) (n : Int) (r : Int) (hj : j < t.length) (h : branch_go k a0_0 a0_1 a0_2 (t.drop j) n = some r) : ∃ y, impl_WaysFrom.f k a0_0 a0_1 a0_2 (rd t j) = some y ∧ branch_go k a0_0 a0_1 a0_2 (t.drop (j + 1)) (wrap64 (n + wrap64 ((y.length : Int) - 2))) = some r := by
 have e : t.drop j = rd t (j : Int) :: t.drop (j + 1) := by
  rw [List.drop_eq_getElem_cons hj]
  unfold rd
  rw [List.getD_eq_getElem?_getD, Int.toNat_natCast, List.getElem?_eq_getElem hj]; rfl
 rw [e] at h
 exact Option.bind_eq_some_iff.1 h
set_option maxHeartbeats 4000000 in
set_option maxRecDepth 100000 in
theorem impl_BranchSum.calls (k : Nat) (a0_0 : Int) (a0_1 : Int) (a0_2 : Int) (r : Int) (w : World) (h : impl_BranchSum.f k a0_0 a0_1 a0_2 = some r) :
  Calls Try.prog 26 #[.agg #[.int .i64 a0_0, .int .i64 a0_1, .int .i64 a0_2]] w fun e w' => e = .returned (.int .i64 r) ∧ Below w.heap.size w w' := by
 have hu31 := Try.underlying30
 unfold impl_BranchSum.f at h
 obtain ⟨t, ht, h⟩ := Option.bind_eq_some_iff.1 h
 have H := Aside0.mk ht
 have HG := Aside0.mk h
 clear ht h
 have HB := Aside0.mk (Below.refl w.heap.size w)
 go_enter Try.func26, Try.ntmps26
 go_wp2_with (first | ((with_reducible refine gate_dst (N := 1) rfl ?_); refine box_event ?hg (N := 1) ?hd (cs := #[.int .i64 a0_0, .int .i64 a0_1, .int .i64 a0_2]) (t := 30) ?hr ?_; (case hd => rfl); (case hg => rfl); (case hr => first | (go_simp; done) | (go_simp; rfl)); intro gb hg w5 hbox hb; have BK := Aside0.mk hbox; have HB1 := Aside0.mk (below_step HB.out hb); clear HB; have HB := HB1; clear HB1 hb hbox hg; have hc0 : w5.cell? ⟨gb, 0, none⟩ = some (.int .i64 a0_0) := (blk_cell BK.out 0).trans rfl; have hc1_ : w5.cell? ⟨gb, 1, none⟩ = some (.int .i64 a0_1) := (blk_cell BK.out 1).trans rfl; have hc2_ : w5.cell? ⟨gb, 2, none⟩ = some (.int .i64 a0_2) := (blk_cell BK.out 2).trans rfl) | (go_at_call 67; (with_reducible refine (cells_with_calls 71 (fun l => decide ((l.length : Int) > 0)) BranchSum_fn BranchSum_ent k a0_0 a0_1 a0_2 t _ H.out).mono ?_); rintro e w7 ⟨v7, rfl, ho, hb⟩; have BK1 := Aside0.mk (blk_below BK.out hb); have HB1 := Aside0.mk (below_step HB.out hb); clear HB BK; have HB := HB1; have BK := BK1; clear HB1 BK1 hb; obtain ⟨A7, c7, e7⟩ := Kd.R_slice ho; subst e7; have HC := Aside0.mk (Kd.R_reads' ho).2.2; clear ho))
 go_loopg [3, 9] t.length (fun gg s3 s9 wr => ∃ (j : Nat) (n : Int), s3 = .int .i64 n ∧ s9 = .int .i64 j ∧ j ≤ t.length ∧ t.length - j ≤ gg ∧ Aside0 (branch_go k a0_0 a0_1 a0_2 (t.drop j) n = some r) ∧ Aside0 ((Kd.int .i64).C wr A7 t.length t) ∧ Aside0 (wr.heap[gb]? = some (.cells #[.int .i64 a0_0, .int .i64 a0_1, .int .i64 a0_2] 30 (0, 0))) ∧ Aside0 (Below w.heap.size w wr))
 case atStart => exact ⟨0, 0, rfl, rfl, Nat.zero_le _, by omega, HG, HC, BK, HB⟩
 case round =>
  clear HG HC BK HB H
  obtain ⟨j, n, rfl, rfl, hj, hgg, HG, HC, BK, HB⟩ := hrel
  by_cases hlt : j < t.length
  ·have hl : t.length ≤ 9223372036854775807 := HC.out.2.1
   have hltz : (j : Int) < (t.length : Int) := by omega
   have h0 : (0 : Int) ≤ j := by omega
   obtain ⟨ad, e, hcell⟩ := Kd.at_int HC.out j h0 hltz
   cases e
   rw [Int.toNat_natCast] at hcell
   obtain ⟨y, hy, hnext⟩ := branch_at k a0_0 a0_1 a0_2 t j n r hlt HG.out
   have HY := Aside0.mk hy
   have HN := Aside0.mk hnext
   clear hy hnext
   have hd0 : wr.cell? ⟨gb, 0, none⟩ = some (.int .i64 a0_0) := (blk_cell BK.out 0).trans rfl
   have hd1_ : wr.cell? ⟨gb, 1, none⟩ = some (.int .i64 a0_1) := (blk_cell BK.out 1).trans rfl
   have hd2_ : wr.cell? ⟨gb, 2, none⟩ = some (.int .i64 a0_2) := (blk_cell BK.out 2).trans rfl
   go_wp2_with (go_at_call 41; (with_reducible refine (impl_WaysFrom.calls k a0_0 a0_1 a0_2 (rd t j) y _ HY.out).mono ?_); rintro e w8 ⟨v8, rfl, ho, hb⟩; have HC1 := Aside0.mk (Kd.C_below HC.out hb); have BK1 := Aside0.mk (blk_below BK.out hb); have HB1 := Aside0.mk (below_step HB.out hb); clear HB BK HC; have HB := HB1; have BK := BK1; have HC := HC1; clear HB1 BK1 HC1 hb; obtain ⟨A8, c8, e8⟩ := Kd.R_slice ho; subst e8; clear ho hd0 hd1_ hd2_ hcell)
   go_roundg (t.length - (j + 1))
   case measure => omega
   case rel => exact ⟨j + 1, _, rfl, by go_num, by omega, Nat.le_refl _, HN, HC, BK, HB⟩
  ·have hltz : ¬ (j : Int) < (t.length : Int) := by omega
   have e : t.drop j = [] := List.drop_of_length_le (by omega)
   have hg := HG.out
   rw [e] at hg
   obtain rfl := Option.some.inj hg
   clear hg e HG
   go_wp2
   go_ret
   exact ⟨rfl, HB.out⟩

/-! ### laws_FnExactBranchSum: function 6 -/
def laws_FnExactBranchSum.f (k : Nat) (a0_0 : Int) (a0_1 : Int) (a0_2 : Int) : Option (Bool) := (laws_toMaze.f a0_0 a0_1 a0_2).bind fun bt278 => ((spec_BranchSum.f k bt278.1 bt278.2.1 bt278.2.2).bind fun t281 => ((laws_toMaze.f a0_0 a0_1 a0_2).bind fun bt282 => ((impl_BranchSum.f k bt282.1 bt282.2.1 bt282.2.2).bind fun t285 => (if t285 = t281 then (some true) else (some false)))))
theorem laws_FnExactBranchSum.mono : ∀ a0 a1 a2 k, LeO (laws_FnExactBranchSum.f k a0 a1 a2) (laws_FnExactBranchSum.f (k + 1) a0 a1 a2) := by
 intro a0 a1 a2 k
 unfold laws_FnExactBranchSum.f
 repeat' first
   | (with_reducible exact impl_BranchSum.mono _ _ _ _)
   | (with_reducible exact spec_BranchSum.mono _ _ _ _)
   | (with_reducible exact LeO.refl _)
   | (with_reducible exact LeO.none _)
   | (with_reducible refine LeO.ite ?_ ?_)
   | (with_reducible refine LeO.bind ?_ (fun _ => ?_))
   | exact impl_BranchSum.mono _ _ _ _
   | exact spec_BranchSum.mono _ _ _ _
   | exact LeO.none _
   | refine LeO.ite ?_ ?_
   | refine LeO.bind ?_ (fun _ => ?_)
set_option maxHeartbeats 8000000 in
set_option maxRecDepth 100000 in
theorem laws_FnExactBranchSum.calls (k : Nat) (a0_0 : Int) (a0_1 : Int) (a0_2 : Int) (r : Bool) (w : World) (HT_ : Aside0 (r = true)) (h : laws_FnExactBranchSum.f k a0_0 a0_1 a0_2 = some r) :
  Calls Try.prog 6 #[.agg #[.int .i64 a0_0, .int .i64 a0_1, .int .i64 a0_2]] w fun e w' => e = .returned (.bool r) ∧ Below w.heap.size w w' := by
 have hu25 := Try.underlying25
 have HB := Aside0.mk (Below.refl w.heap.size w)
 have H : ((laws_toMaze.f a0_0 a0_1 a0_2).bind fun bt278 => ((spec_BranchSum.f k bt278.1 bt278.2.1 bt278.2.2).bind fun t281 => ((laws_toMaze.f a0_0 a0_1 a0_2).bind fun bt282 => ((impl_BranchSum.f k bt282.1 bt282.2.1 bt282.2.2).bind fun t285 => (if t285 = t281 then (some true) else (some false)))))) = some r := h
 clear h
 replace H := Option.bind_eq_some_iff.mp H
 obtain ⟨⟨t278, t279, t280⟩, A20, H⟩ := H
 replace H : ((spec_BranchSum.f k t278 t279 t280).bind fun t281 => ((laws_toMaze.f a0_0 a0_1 a0_2).bind fun bt282 => ((impl_BranchSum.f k bt282.1 bt282.2.1 bt282.2.2).bind fun t285 => (if t285 = t281 then (some true) else (some false))))) = some r := H
 have A2 := Aside0.mk A20
 clear A20
 replace H := Option.bind_eq_some_iff.mp H
 obtain ⟨t281, A30, H⟩ := H
 replace H : ((laws_toMaze.f a0_0 a0_1 a0_2).bind fun bt282 => ((impl_BranchSum.f k bt282.1 bt282.2.1 bt282.2.2).bind fun t285 => (if t285 = t281 then (some true) else (some false)))) = some r := H
 have A3 := Aside0.mk A30
 clear A30
 replace H := Option.bind_eq_some_iff.mp H
 obtain ⟨⟨t282, t283, t284⟩, A40, H⟩ := H
 replace H : ((impl_BranchSum.f k t282 t283 t284).bind fun t285 => (if t285 = t281 then (some true) else (some false))) = some r := H
 have A4 := Aside0.mk A40
 clear A40
 have EA4 := Aside0.mk (show t282 = t278 ∧ t283 = t279 ∧ t284 = t280 from by have e_ := Option.some.inj (A4.out.symm.trans A2.out); simpa only [Prod.mk.injEq] using e_)
 replace H := Option.bind_eq_some_iff.mp H
 obtain ⟨t285, A50, H⟩ := H
 replace H : (if t285 = t281 then (some true) else (some false)) = some r := H
 have A5 := Aside0.mk A50
 clear A50
 by_cases c6 : t285 = t281
 ·rw [if_pos c6] at H
  have c6b0 : (t285 == t281) = true := beq_iff_eq.mpr c6
  have c6b1 : (t285 != t281) = false := bne_eq_false_iff_eq.mpr c6
  clear c6
  obtain rfl := Option.some.inj H
  go_enter Try.func6, Try.ntmps6
  go_wp2_with (first | ((with_reducible refine gate_dst (N := 1) rfl ?_); refine box_event ?hg (N := 1) ?hd (cs := #[.int .i64 a0_0, .int .i64 a0_1, .int .i64 a0_2]) (t := 25) ?hr ?_; (case hd => rfl); (case hg => rfl); (case hr => first | (go_simp; done) | (go_simp; rfl)); intro gb277 hg w7 hbox hb; have n0_ := Aside0.mk (below_step hb_ hb); have n1_ := Aside0.mk (hbox); have n2_ := Aside0.mk ((by rw [hg]; exact (below_size hb_) : w.heap.size ≤ gb277)); have n3_ := Aside0.mk ((by rw [hg]; exact (below_size hb_) : w.heap.size ≤ gb277)); clear HB; have HB := n0_; have BK277 := n1_; have GW277 := n2_; have GE277 := n3_; clear n0_ n1_ n2_ n3_; clear hb hbox hg; have hcz8_0 := cz_ (.int .i64 a0_0) BK277.out 0; have hcz8_1 := cz_ (.int .i64 a0_1) BK277.out 1; have hcz8_2 := cz_ (.int .i64 a0_2) BK277.out 2; have hfz8_0 := blk_frozen BK277.out 0; have hfz8_1 := blk_frozen BK277.out 1; have hfz8_2 := blk_frozen BK277.out 2) | ((with_reducible refine gate_callee (f := 16) rfl ?_); refine goesL_ (some 6) rfl rfl Try.func16 (by kernel_rfl) rfl #[.agg #[.int .i64 a0_0, .int .i64 a0_1, .int .i64 a0_2]] rfl mp_ ?_; (with_reducible refine (laws_toMaze.calls a0_0 a0_1 a0_2 t278 t279 t280 _ A2.out).mono ?_); rintro e w9 ⟨rfl, hb⟩; refine ⟨_, rfl, ?_⟩; have n0_ := Aside0.mk (blk_below (g := gb277) (o := .cells #[.int .i64 a0_0, .int .i64 a0_1, .int .i64 a0_2] 25 (0, 0)) (kb_ BK277.out) hb); have n1_ := Aside0.mk (below_step hb_ hb); clear BK277; clear HB; have BK277 := n0_; have HB := n1_; clear n0_ n1_; (try clear hb); (try clear hb2); (try clear hk); (try clear hi)) | ((with_reducible refine gate_callee (f := 25) rfl ?_); refine goesL_ (some 7) rfl rfl Try.func25 (by kernel_rfl) rfl #[.agg #[.int .i64 t278, .int .i64 t279, .int .i64 t280]] rfl mp_ ?_; (with_reducible refine (spec_BranchSum.calls k t278 t279 t280 t281 _ A3.out).mono ?_); rintro e w10 ⟨rfl, hb⟩; refine ⟨_, rfl, ?_⟩; have n0_ := Aside0.mk (blk_below (g := gb277) (o := .cells #[.int .i64 a0_0, .int .i64 a0_1, .int .i64 a0_2] 25 (0, 0)) (kb_ BK277.out) hb); have n1_ := Aside0.mk (below_step hb_ hb); clear BK277; clear HB; have BK277 := n0_; have HB := n1_; clear n0_ n1_; (try clear hb); (try clear hb2); (try clear hk); (try clear hi); have hcz11_0 := cz_ (.int .i64 a0_0) BK277.out 0; have hcz11_1 := cz_ (.int .i64 a0_1) BK277.out 1; have hcz11_2 := cz_ (.int .i64 a0_2) BK277.out 2; have hfz11_0 := blk_frozen BK277.out 0; have hfz11_1 := blk_frozen BK277.out 1; have hfz11_2 := blk_frozen BK277.out 2) | ((with_reducible refine gate_callee (f := 16) rfl ?_); refine goesL_ (some 9) rfl rfl Try.func16 (by kernel_rfl) rfl #[.agg #[.int .i64 a0_0, .int .i64 a0_1, .int .i64 a0_2]] rfl mp_ ?_; (with_reducible refine (laws_toMaze.calls a0_0 a0_1 a0_2 t282 t283 t284 _ A4.out).mono ?_); rintro e w12 ⟨rfl, hb⟩; refine ⟨_, rfl, ?_⟩; have n0_ := Aside0.mk (blk_below (g := gb277) (o := .cells #[.int .i64 a0_0, .int .i64 a0_1, .int .i64 a0_2] 25 (0, 0)) (kb_ BK277.out) hb); have n1_ := Aside0.mk (below_step hb_ hb); clear BK277; clear HB; have BK277 := n0_; have HB := n1_; clear n0_ n1_; (try clear hb); (try clear hb2); (try clear hk); (try clear hi)) | ((with_reducible refine gate_callee (f := 26) rfl ?_); refine goesL_ (some 10) rfl rfl Try.func26 (by kernel_rfl) rfl #[.agg #[.int .i64 t282, .int .i64 t283, .int .i64 t284]] rfl mp_ ?_; (with_reducible refine (impl_BranchSum.calls k t282 t283 t284 t285 _ A5.out).mono ?_); rintro e w13 ⟨rfl, hb⟩; refine ⟨_, rfl, ?_⟩; have n0_ := Aside0.mk (blk_below (g := gb277) (o := .cells #[.int .i64 a0_0, .int .i64 a0_1, .int .i64 a0_2] 25 (0, 0)) (kb_ BK277.out) hb); have n1_ := Aside0.mk (below_step hb_ hb); clear BK277; clear HB; have BK277 := n0_; have HB := n1_; clear n0_ n1_; (try clear hb); (try clear hb2); (try clear hk); (try clear hi)))
  go_ret
  exact ⟨by first | rfl | (simp [errW_none, errW_some] <;> rfl) | (simp only [EA4.out.1, EA4.out.2.1, EA4.out.2.2]; first | rfl | (simp [errW_none, errW_some] <;> rfl)) | (simp [*, errW_none, errW_some] <;> rfl), hb_⟩
 ·rw [if_neg c6] at H
  have c6b0 : (t285 == t281) = false := beq_eq_false_iff_ne.mpr c6
  have c6b1 : (t285 != t281) = true := bne_iff_ne.mpr c6
  exact absurd ((Option.some.inj H).trans HT_.out) (by decide)

/-- THE ONE PURE STATEMENT of laws_FnExactBranchSum: yours. -/
def laws_FnExactBranchSum.Pure : Prop := ∀ (a0_0 : Int) (a0_1 : Int) (a0_2 : Int), (Lit.int .i64 a0_0).wf = true → (Lit.int .i64 a0_1).wf = true → (Lit.int .i64 a0_2).wf = true → ∃ k, laws_FnExactBranchSum.f k a0_0 a0_1 a0_2 = some true
theorem laws_FnExactBranchSum.walk (P : laws_FnExactBranchSum.Pure) (a0_0 : Int) (a0_1 : Int) (a0_2 : Int) (w : World) (w0_0 : (Lit.int .i64 a0_0).wf = true) (w0_1 : (Lit.int .i64 a0_1).wf = true) (w0_2 : (Lit.int .i64 a0_2).wf = true) :
  Calls Try.prog 6 #[.agg #[.int .i64 a0_0, .int .i64 a0_1, .int .i64 a0_2]] w fun e w' => e = .returned (.bool true) ∧ Below w.heap.size w w' := by
 obtain ⟨k, h⟩ := P a0_0 a0_1 a0_2 w0_0 w0_1 w0_2
 refine (laws_FnExactBranchSum.calls k a0_0 a0_1 a0_2 true w ⟨rfl⟩ h).mono ?_
 rintro e w' ⟨rfl, hd⟩
 exact ⟨rfl, hd⟩

end Go.Proofs.Ytpaecckpdaiogaa.Q
