/- Plain Lean functions of Go functions, and for each the proof that its call comes to just that answer. Conditions: in each theorem's statement. -/
import Derived.Test.YtcmdjbaehecicaaQx0
import Derived.Test.YtcmdjbaehecicaaQx2
import Derived.Test.YtcmdjbaehecicaaQx5
namespace Go.Proofs.Ytcmdjbaehecicaa.Q
open Go.RowKit Go.Proofs.YtcmdjbaehecicaaW.PrintWords Go.Proofs.YtcmdjbaehecicaaW.PrintLast
attribute [local go_sem] max2_int min2_int max_two min_two   -- for this text's walks alone
set_option linter.unusedVariables false
set_option linter.unusedSimpArgs false

/-! ### spec_MazeLines: function 5 -/
mutual
def spec_MazeLines.l0 : Nat → List ByteArray → Int → Int → Int → Int → Option (List ByteArray)
 | 0, _, _, _, _, _ => none
 | k + 1, x3, x4, x133000, x133001, x133002 => if x4 ≤ (wrap64 (2 * x133001)) then (if 0 ≤ (wrap64 ((wrap64 (2 * x133000)) + 1)) then (if (wrap64 ((wrap64 (2 * x133000)) + 1) : Int).toNat ≤ 281474976710656 then (spec_MazeLines.l1 k x3 x4 (List.replicate (wrap64 ((wrap64 (2 * x133000)) + 1) : Int).toNat 0) 0 x133000 x133001 x133002) else (none)) else (none)) else (some x3)
def spec_MazeLines.l1 : Nat → List ByteArray → Int → List Int → Int → Int → Int → Int → Option (List ByteArray)
 | 0, _, _, _, _, _, _, _ => none
 | k + 1, x3, x4, x5, x6, x133000, x133001, x133002 => if x6 < (x5.length : Int) then (if 0 ≤ x6 then ((some (x5.set (x6 : Int).toNat 35 : List Int)).bind fun y143 => (if (Int.tmod x4 2) = 1 then (spec_MazeLines.j2 k x3 x4 y143 x6 (wrap64 ((wrap64 ((wrap64 (Int.tdiv x4 2)) * x133000)) + (wrap64 (Int.tdiv x6 2)))) ((Int.tmod x6 2) == 1) x133000 x133001 x133002) else (spec_MazeLines.j2 k x3 x4 y143 x6 (wrap64 ((wrap64 ((wrap64 (Int.tdiv x4 2)) * x133000)) + (wrap64 (Int.tdiv x6 2)))) false x133000 x133001 x133002))) else (none)) else (if x3.length < 8796093022208 then (spec_MazeLines.l0 k (x3 ++ [strOfNums x5]) (wrap64 (x4 + 1)) x133000 x133001 x133002) else (none))
def spec_MazeLines.j2 : Nat → List ByteArray → Int → List Int → Int → Int → Bool → Int → Int → Int → Option (List ByteArray)
 | 0, _, _, _, _, _, _, _, _, _ => none
 | k + 1, x3, x4, x5, x6, x7, x45, x133000, x133001, x133002 => if x45 = true then (if 0 ≤ x6 then (if x6 < (x5.length : Int) then (spec_MazeLines.l1 k x3 x4 (x5.set (x6 : Int).toNat 32) (wrap64 (x6 + 1)) x133000 x133001 x133002) else (none)) else (none)) else (if (Int.tmod x4 2) = 1 then (if x6 > 0 then (if x6 < (wrap64 ((x5.length : Int) - 1)) then ((spec_Step.f k x133000 x133001 x133002 (wrap64 (x7 - 1)) 1).bind fun t145 => (spec_MazeLines.j3 k x3 x4 x5 x6 x7 (decide (t145 ≥ 0)) x133000 x133001 x133002)) else (spec_MazeLines.j3 k x3 x4 x5 x6 x7 false x133000 x133001 x133002)) else (spec_MazeLines.j3 k x3 x4 x5 x6 x7 false x133000 x133001 x133002)) else (spec_MazeLines.j3 k x3 x4 x5 x6 x7 false x133000 x133001 x133002))
def spec_MazeLines.j3 : Nat → List ByteArray → Int → List Int → Int → Int → Bool → Int → Int → Int → Option (List ByteArray)
 | 0, _, _, _, _, _, _, _, _, _ => none
 | k + 1, x3, x4, x5, x6, x7, x57, x133000, x133001, x133002 => if x57 = true then (if 0 ≤ x6 then (if x6 < (x5.length : Int) then (spec_MazeLines.l1 k x3 x4 (x5.set (x6 : Int).toNat 32) (wrap64 (x6 + 1)) x133000 x133001 x133002) else (none)) else (none)) else (if (Int.tmod x6 2) = 1 then (if x4 > 0 then (if x4 < (wrap64 (2 * x133001)) then ((spec_Step.f k x133000 x133001 x133002 (wrap64 (x7 - x133000)) 2).bind fun t147 => (if t147 ≥ 0 then (if 0 ≤ x6 then (if x6 < (x5.length : Int) then (spec_MazeLines.l1 k x3 x4 (x5.set (x6 : Int).toNat 32) (wrap64 (x6 + 1)) x133000 x133001 x133002) else (none)) else (none)) else (spec_MazeLines.l1 k x3 x4 x5 (wrap64 (x6 + 1)) x133000 x133001 x133002))) else (spec_MazeLines.l1 k x3 x4 x5 (wrap64 (x6 + 1)) x133000 x133001 x133002)) else (spec_MazeLines.l1 k x3 x4 x5 (wrap64 (x6 + 1)) x133000 x133001 x133002)) else (spec_MazeLines.l1 k x3 x4 x5 (wrap64 (x6 + 1)) x133000 x133001 x133002))
end
def spec_MazeLines.f (k : Nat) (a0_0 : Int) (a0_1 : Int) (a0_2 : Int) : Option (List ByteArray) := (some (([] : List ByteArray) : List ByteArray)).bind fun y133 => ((spec_MazeOk.f a0_0 a0_1 a0_2).bind fun t136 => (if t136 = true then (spec_MazeLines.l0 k y133 0 a0_0 a0_1 a0_2) else (some y133)))
theorem spec_MazeLines.mono_l : ∀ k, (∀ y0 y1 y2 y3 y4, LeO (spec_MazeLines.l0 k y0 y1 y2 y3 y4) (spec_MazeLines.l0 (k + 1) y0 y1 y2 y3 y4)) ∧ (∀ y0 y1 y2 y3 y4 y5 y6, LeO (spec_MazeLines.l1 k y0 y1 y2 y3 y4 y5 y6) (spec_MazeLines.l1 (k + 1) y0 y1 y2 y3 y4 y5 y6)) ∧ (∀ y0 y1 y2 y3 y4 y5 y6 y7 y8, LeO (spec_MazeLines.j2 k y0 y1 y2 y3 y4 y5 y6 y7 y8) (spec_MazeLines.j2 (k + 1) y0 y1 y2 y3 y4 y5 y6 y7 y8)) ∧ (∀ y0 y1 y2 y3 y4 y5 y6 y7 y8, LeO (spec_MazeLines.j3 k y0 y1 y2 y3 y4 y5 y6 y7 y8) (spec_MazeLines.j3 (k + 1) y0 y1 y2 y3 y4 y5 y6 y7 y8))
 | 0 => ⟨fun _ _ _ _ _ r h => by simp [spec_MazeLines.l0] at h, fun _ _ _ _ _ _ _ r h => by simp [spec_MazeLines.l1] at h, fun _ _ _ _ _ _ _ _ _ r h => by simp [spec_MazeLines.j2] at h, fun _ _ _ _ _ _ _ _ _ r h => by simp [spec_MazeLines.j3] at h⟩
 | k + 1 => by
  obtain ⟨ih0, ih1, ih2, ih3⟩ := spec_MazeLines.mono_l k
  refine ⟨?_, ?_, ?_, ?_⟩
  ·intro y0 y1 y2 y3 y4
   unfold spec_MazeLines.l0
   repeat' first
   | (with_reducible exact ih0 _ _ _ _ _)
   | (with_reducible exact ih1 _ _ _ _ _ _ _)
   | (with_reducible exact ih2 _ _ _ _ _ _ _ _ _)
   | (with_reducible exact ih3 _ _ _ _ _ _ _ _ _)
   | (with_reducible exact spec_Step.mono _ _ _ _ _ _)
   | (with_reducible exact LeO.refl _)
   | (with_reducible exact LeO.none _)
   | (with_reducible refine LeO.ite ?_ ?_)
   | (with_reducible refine LeO.bind ?_ (fun _ => ?_))
   | exact ih0 _ _ _ _ _
   | exact ih1 _ _ _ _ _ _ _
   | exact ih2 _ _ _ _ _ _ _ _ _
   | exact ih3 _ _ _ _ _ _ _ _ _
   | exact spec_Step.mono _ _ _ _ _ _
   | exact LeO.none _
   | refine LeO.ite ?_ ?_
   | refine LeO.bind ?_ (fun _ => ?_)
  ·intro y0 y1 y2 y3 y4 y5 y6
   unfold spec_MazeLines.l1
   repeat' first
   | (with_reducible exact ih0 _ _ _ _ _)
   | (with_reducible exact ih1 _ _ _ _ _ _ _)
   | (with_reducible exact ih2 _ _ _ _ _ _ _ _ _)
   | (with_reducible exact ih3 _ _ _ _ _ _ _ _ _)
   | (with_reducible exact spec_Step.mono _ _ _ _ _ _)
   | (with_reducible exact LeO.refl _)
   | (with_reducible exact LeO.none _)
   | (with_reducible refine LeO.ite ?_ ?_)
   | (with_reducible refine LeO.bind ?_ (fun _ => ?_))
   | exact ih0 _ _ _ _ _
   | exact ih1 _ _ _ _ _ _ _
   | exact ih2 _ _ _ _ _ _ _ _ _
   | exact ih3 _ _ _ _ _ _ _ _ _
   | exact spec_Step.mono _ _ _ _ _ _
   | exact LeO.none _
   | refine LeO.ite ?_ ?_
   | refine LeO.bind ?_ (fun _ => ?_)
  ·intro y0 y1 y2 y3 y4 y5 y6 y7 y8
   unfold spec_MazeLines.j2
   repeat' first
   | (with_reducible exact ih0 _ _ _ _ _)
   | (with_reducible exact ih1 _ _ _ _ _ _ _)
   | (with_reducible exact ih2 _ _ _ _ _ _ _ _ _)
   | (with_reducible exact ih3 _ _ _ _ _ _ _ _ _)
   | (with_reducible exact spec_Step.mono _ _ _ _ _ _)
   | (with_reducible exact LeO.refl _)
   | (with_reducible exact LeO.none _)
   | (with_reducible refine LeO.ite ?_ ?_)
   | (with_reducible refine LeO.bind ?_ (fun _ => ?_))
   | exact ih0 _ _ _ _ _
   | exact ih1 _ _ _ _ _ _ _
   | exact ih2 _ _ _ _ _ _ _ _ _
   | exact ih3 _ _ _ _ _ _ _ _ _
   | exact spec_Step.mono _ _ _ _ _ _
   | exact LeO.none _
   | refine LeO.ite ?_ ?_
   | refine LeO.bind ?_ (fun _ => ?_)
  ·intro y0 y1 y2 y3 y4 y5 y6 y7 y8
   unfold spec_MazeLines.j3
   repeat' first
   | (with_reducible exact ih0 _ _ _ _ _)
   | (with_reducible exact ih1 _ _ _ _ _ _ _)
   | (with_reducible exact ih2 _ _ _ _ _ _ _ _ _)
   | (with_reducible exact ih3 _ _ _ _ _ _ _ _ _)
   | (with_reducible exact spec_Step.mono _ _ _ _ _ _)
   | (with_reducible exact LeO.refl _)
   | (with_reducible exact LeO.none _)
   | (with_reducible refine LeO.ite ?_ ?_)
   | (with_reducible refine LeO.bind ?_ (fun _ => ?_))
   | exact ih0 _ _ _ _ _
   | exact ih1 _ _ _ _ _ _ _
   | exact ih2 _ _ _ _ _ _ _ _ _
   | exact ih3 _ _ _ _ _ _ _ _ _
   | exact spec_Step.mono _ _ _ _ _ _
   | exact LeO.none _
   | refine LeO.ite ?_ ?_
   | refine LeO.bind ?_ (fun _ => ?_)
theorem spec_MazeLines.mono : ∀ a0 a1 a2 k, LeO (spec_MazeLines.f k a0 a1 a2) (spec_MazeLines.f (k + 1) a0 a1 a2) := by
 intro a0 a1 a2 k
 obtain ⟨ih0, ih1, ih2, ih3⟩ := spec_MazeLines.mono_l k
 unfold spec_MazeLines.f
 repeat' first
   | (with_reducible exact ih0 _ _ _ _ _)
   | (with_reducible exact ih1 _ _ _ _ _ _ _)
   | (with_reducible exact ih2 _ _ _ _ _ _ _ _ _)
   | (with_reducible exact ih3 _ _ _ _ _ _ _ _ _)
   | (with_reducible exact spec_Step.mono _ _ _ _ _ _)
   | (with_reducible exact LeO.refl _)
   | (with_reducible exact LeO.none _)
   | (with_reducible refine LeO.ite ?_ ?_)
   | (with_reducible refine LeO.bind ?_ (fun _ => ?_))
   | exact ih0 _ _ _ _ _
   | exact ih1 _ _ _ _ _ _ _
   | exact ih2 _ _ _ _ _ _ _ _ _
   | exact ih3 _ _ _ _ _ _ _ _ _
   | exact spec_Step.mono _ _ _ _ _ _
   | exact LeO.none _
   | refine LeO.ite ?_ ?_
   | refine LeO.bind ?_ (fun _ => ?_)
set_option maxHeartbeats 8000000 in
set_option maxRecDepth 100000 in
theorem spec_MazeLines.calls (k : Nat) (a0_0 : Int) (a0_1 : Int) (a0_2 : Int) (r : List ByteArray) (w : World) (h : spec_MazeLines.f k a0_0 a0_1 a0_2 = some r) :
  Calls Try.prog 5 #[.agg #[.int .i64 a0_0, .int .i64 a0_1, .int .i64 a0_2]] w fun e w' => ∃ v0_ : Value, e = .returned (v0_) ∧ Kd.R Kd.string 9 w' w.heap.size (fun _ => True) v0_ r ∧ Below w.heap.size w w' := by
 have hu30 := Try.underlying30
 have HB := Aside0.mk (Below.refl w.heap.size w)
 have H : ((some (([] : List ByteArray) : List ByteArray)).bind fun y133 => ((spec_MazeOk.f a0_0 a0_1 a0_2).bind fun t136 => (if t136 = true then (spec_MazeLines.l0 k y133 0 a0_0 a0_1 a0_2) else (some y133)))) = some r := h
 clear h
 obtain ⟨y133, hy133⟩ : ∃ y_ : List ByteArray, y_ = (([] : List ByteArray)) := ⟨_, rfl⟩
 replace H : ((spec_MazeOk.f a0_0 a0_1 a0_2).bind fun t136 => (if t136 = true then (spec_MazeLines.l0 k y133 0 a0_0 a0_1 a0_2) else (some y133))) = some r := by first | (rw [hy133]; with_reducible exact H) | (have H2_ := (Option.bind_some _ _).symm.trans H; rw [hy133]; with_reducible exact H2_) | (have H2_ := (Option.bind_some _ _).symm.trans H; with_reducible exact H2_) | with_reducible exact H | (rw [hy133]; exact H) | exact H
 have Ny133 := Aside0.mk hy133
 clear hy133
 replace H := Option.bind_eq_some_iff.mp H
 obtain ⟨t136, A20, H⟩ := H
 replace H : (if t136 = true then (spec_MazeLines.l0 k y133 0 a0_0 a0_1 a0_2) else (some y133)) = some r := H
 have A2 := Aside0.mk A20
 clear A20
 by_cases c3 : t136 = true
 ·subst c3
  have H1 : (spec_MazeLines.l0 k y133 0 a0_0 a0_1 a0_2) = some r := by rw [if_pos rfl] at H; exact H
  clear H
  have H := H1
  clear H1
  have H' := Aside0.mk H
  clear H
  go_enter Try.func5, Try.ntmps5
  go_wp2_with (first | ((with_reducible refine gate_dst (N := 1) rfl ?_); (try (refine gate_guard (by rfl) ?_; dsimp only)); refine box_event ?hg (N := 1) ?hd (cs := #[.int .i64 a0_0, .int .i64 a0_1, .int .i64 a0_2]) (t := 30) ?hr ?_; (case hd => rfl); (case hg => rfl); (case hr => first | (go_simp; done) | (go_simp; rfl)); intro gb132 hg w4 hbox hb; have n0_ := Aside0.mk (below_step hb_ hb); have n1_ := Aside0.mk (hbox); have n2_ := Aside0.mk ((by rw [hg]; exact (below_size hb_) : w.heap.size ≤ gb132)); have n3_ := Aside0.mk ((by rw [hg]; exact (below_size hb_) : w.heap.size ≤ gb132)); clear HB; have HB := n0_; have BK132 := n1_; have GW132 := n2_; have GE132 := n3_; clear n0_ n1_ n2_ n3_; clear hb hbox hg) | ((with_reducible refine gate_dst (N := 8) rfl ?_); (try (refine gate_guard (by rfl) ?_; dsimp only)); refine Kd.R_lit Kd.string _ 9 ?hg (N := 8) ?hd (xs := ([] : List ByteArray)) (inner := []) (ok := fun _ => True) (okp := fun _ => True) ?hr ?hp (fun _ hk => hk) trivial (Below.refl _ _) (Nat.le_refl _) (by simp) ?_; (case hd => rfl); (case hg => rfl); (case hr => first | (go_simp; done) | (go_simp; rfl)); (case hp => exact (Reps.none _ _)); intro v134 w5 ho6 hb hg_ hnew_; clear hg_ hnew_; (first | rw [← Ny133.out] at ho6 | (simp only [Int.reduceToNat] at ho6; rw [← Ny133.out] at ho6)); have n0_ := Aside0.mk (Kd.R_lower ho6 (below_size hb_)); have n1_ := Aside0.mk (blk_below (g := gb132) (o := .cells #[.int .i64 a0_0, .int .i64 a0_1, .int .i64 a0_2] 30 (0, 0)) (kb_ BK132.out) hb); have n2_ := Aside0.mk (below_step hb_ hb); clear BK132; clear HB; have HO135 := n0_; have BK132 := n1_; have HB := n2_; clear n0_ n1_ n2_; clear hb ho6; have hcz7_0 := cz_ (.int .i64 a0_0) BK132.out 0; have hcz7_1 := cz_ (.int .i64 a0_1) BK132.out 1; have hcz7_2 := cz_ (.int .i64 a0_2) BK132.out 2; have hfz7_0 := blk_frozen BK132.out 0; have hfz7_1 := blk_frozen BK132.out 1; have hfz7_2 := blk_frozen BK132.out 2) | ((with_reducible refine gate_callee (f := 16) rfl ?_); refine goesL_ (some 10) rfl rfl Try.func16 (by kernel_rfl) rfl #[.agg #[.int .i64 a0_0, .int .i64 a0_1, .int .i64 a0_2]] rfl mp_ ?_; (with_reducible refine (spec_MazeOk.calls a0_0 a0_1 a0_2 true _ A2.out).mono ?_); rintro e w8 ⟨rfl, hb⟩; refine ⟨_, rfl, ?_⟩; have n0_ := Aside0.mk (Kd.R_below (kr_ HO135.out) hb); have n1_ := Aside0.mk (blk_below (g := gb132) (o := .cells #[.int .i64 a0_0, .int .i64 a0_1, .int .i64 a0_2] 30 (0, 0)) (kb_ BK132.out) hb); have n2_ := Aside0.mk (below_step hb_ hb); clear HO135; clear BK132; clear HB; have HO135 := n0_; have BK132 := n1_; have HB := n2_; clear n0_ n1_ n2_; (try clear hb); (try clear hb2); (try clear hk); (try clear hi)))
  go_loopg [3, 4] k (fun kq v3 v4 w' => ∃ (x3_1 : List ByteArray) (x4_1 : Int), v4 = .int .i64 x4_1 ∧ Aside0 (spec_MazeLines.l0 kq x3_1 x4_1 a0_0 a0_1 a0_2 = some r) ∧ Aside0 (kq ≤ k) ∧ Aside0 (Kd.R Kd.string 9 w' w.heap.size (fun _ => True) v3 x3_1) ∧ Aside0 (w'.heap[gb132]? = some (.cells #[.int .i64 a0_0, .int .i64 a0_1, .int .i64 a0_2] 30 (0, 0))) ∧ Aside0 (Below w.heap.size w w'))
  case atStart => exact ⟨(y133), (0), (by first | rfl | (simp; done) | (simp [*]; done)), H', ⟨Nat.le_refl _⟩, ⟨kr_ HO135.out⟩, ⟨kb_ BK132.out⟩, ⟨hb_⟩⟩
  case round =>
   clear H'
   try clear c1
   try clear p2
   try clear c3
   try clear c5
   try clear hcz7_0
   try clear hcz7_1
   try clear hcz7_2
   try clear hfz7_0
   try clear hfz7_1
   try clear hfz7_2
   obtain ⟨x3_1, x4_1, rfl, HA, HK1, HO_3, BK132, HB⟩ := hrel
   cases gk with
   | zero => exact absurd HA.out (by simp [spec_MazeLines.l0])
   | succ k1 =>
    have H := HA.out
    clear HA
    simp only [spec_MazeLines.l0] at H
    by_cases c9 : x4_1 ≤ (wrap64 (2 * a0_1))
    ·rw [if_pos c9] at H
     have c9b0 : decide (x4_1 ≤ (wrap64 (2 * a0_1))) = true := decide_eq_true c9
     clear c9
     obtain ⟨ji10, hji10⟩ : ∃ j_ : Int, (wrap64 ((wrap64 (2 * a0_0)) + 1)) = j_ := ⟨_, rfl⟩
     replace H : (if 0 ≤ (ji10) then (if (ji10 : Int).toNat ≤ 281474976710656 then (spec_MazeLines.l1 k1 x3_1 x4_1 (List.replicate (ji10 : Int).toNat 0) 0 a0_0 a0_1 a0_2) else (none)) else (none)) = some r := by first | (rw [hji10] at H; exact H) | (simp only [hji10] at H ⊢; exact H)
     have hji10w : (IntKind.i64.wrap ((wrap64 (2 * a0_0)) + 1)) = ji10 := (i64_w _).trans hji10
     by_cases c11 : 0 ≤ (ji10)
     ·rw [if_pos c11] at H
      have c11b0 := eq_true c11
      have c11b1 : decide (0 ≤ (ji10)) = true := decide_eq_true c11
      clear c11
      by_cases c12 : (ji10 : Int).toNat ≤ 281474976710656
      ·rw [if_pos c12] at H
       have c12b0 := eq_true c12
       have c12b1 : decide ((ji10 : Int).toNat ≤ 281474976710656) = true := decide_eq_true c12
       clear c12
       obtain ⟨y137, hy137⟩ : ∃ y_ : List Int, y_ = (List.replicate (ji10 : Int).toNat 0) := ⟨_, rfl⟩
       replace H : (spec_MazeLines.l1 k1 x3_1 x4_1 y137 0 a0_0 a0_1 a0_2) = some r := by first | (rw [hy137]; with_reducible exact H) | (have H2_ := (Option.bind_some _ _).symm.trans H; rw [hy137]; with_reducible exact H2_) | (have H2_ := (Option.bind_some _ _).symm.trans H; with_reducible exact H2_) | with_reducible exact H | (rw [hy137]; exact H) | exact H
       have Ny137 := Aside0.mk hy137
       clear hy137
       have H' := Aside0.mk H
       clear H
       have hcz13_0 : wr.cell? ⟨gb132, 0, none⟩ = some (.int .i64 a0_0) := (blk_cell BK132.out 0).trans rfl
       have hcz13_1 : wr.cell? ⟨gb132, 1, none⟩ = some (.int .i64 a0_1) := (blk_cell BK132.out 1).trans rfl
       have hcz13_2 : wr.cell? ⟨gb132, 2, none⟩ = some (.int .i64 a0_2) := (blk_cell BK132.out 2).trans rfl
       have hfz13_0 := blk_frozen BK132.out 0
       have hfz13_1 := blk_frozen BK132.out 1
       have hfz13_2 := blk_frozen BK132.out 2
       go_wp2_with (first | ((with_reducible refine gate_dst (N := 26) rfl ?_); (try (refine gate_guard (by rfl) ?_; dsimp only)); refine Kd.R_make (Kd.int .u8) _ 5 rfl (N := 26) rfl 41 _ _ rfl ji10 rfl rfl Try.underlying41 (.int .u8 0) 1 info5 rfl (by decide) (by omega) 0 (ok := fun _ => True) (okp := fun _ => True) rfl (fun _ hk => hk) trivial (of_decide_eq_true (by first | (with_reducible assumption) | assumption)) (Nat.le_trans (Nat.mul_le_mul_right _ (of_decide_eq_true (by first | (with_reducible assumption) | assumption) : ji10.toNat ≤ 281474976710656)) (by omega)) (Below.refl _ _) (Nat.le_refl _) ?_; intro v138 w14 ho15 hb hg_ hnew_; clear hg_ hnew_; (first | rw [← Ny137.out] at ho15 | (simp only [Int.reduceToNat] at ho15; rw [← Ny137.out] at ho15)); have n0_ := Aside0.mk (Kd.R_below (kr_ HO_3.out) hb); have n1_ := Aside0.mk (Kd.R_lower ho15 (below_size hb_)); have n2_ := Aside0.mk (blk_below (g := gb132) (o := .cells #[.int .i64 a0_0, .int .i64 a0_1, .int .i64 a0_2] 30 (0, 0)) (kb_ BK132.out) hb); have n3_ := Aside0.mk (below_step hb_ hb); clear HO_3; clear BK132; clear HB; have HO_3 := n0_; have HO139 := n1_; have BK132 := n2_; have HB := n3_; clear n0_ n1_ n2_ n3_; clear hb ho15))
       go_loopg [6] k1 (fun kq v6 w' => ∃ (x5_2 : List Int) (x6_2 : Int), v6 = .int .i64 x6_2 ∧ Aside0 (spec_MazeLines.l1 kq x3_1 x4_1 x5_2 x6_2 a0_0 a0_1 a0_2 = some r) ∧ Aside0 (kq ≤ k1) ∧ Aside0 (Kd.R Kd.string 9 w' w.heap.size (fun _ => True) u3 x3_1) ∧ Aside0 (Kd.R (Kd.int .u8) 5 w' w.heap.size (fun _ => True) v138 x5_2) ∧ Aside0 (w'.heap[gb132]? = some (.cells #[.int .i64 a0_0, .int .i64 a0_1, .int .i64 a0_2] 30 (0, 0))) ∧ Aside0 (Below w.heap.size w w'))
       case atStart => exact ⟨(y137), (0), (by first | rfl | (simp; done) | (simp [*]; done)), H', ⟨Nat.le_refl _⟩, ⟨kr_ HO_3.out⟩, ⟨kr_ HO139.out⟩, ⟨kb_ BK132.out⟩, ⟨hb_⟩⟩
       case round =>
        clear H'
        try clear c1
        try clear p2
        try clear c3
        try clear c5
        try clear p6
        try clear c9
        try clear c9b0
        try clear c11
        try clear c11b0
        try clear c11b1
        try clear c12
        try clear c12b0
        try clear c12b1
        try clear hcz13_0
        try clear hcz13_1
        try clear hcz13_2
        try clear hcz7_0
        try clear hcz7_1
        try clear hcz7_2
        try clear hfz13_0
        try clear hfz13_1
        try clear hfz13_2
        try clear hfz7_0
        try clear hfz7_1
        try clear hfz7_2
        try clear p2
        obtain ⟨x5_2, x6_2, rfl, HA, HK2, HO_3, HO_5, BK132, HB⟩ := hrel
        cases gk with
        | zero => exact absurd HA.out (by simp [spec_MazeLines.l1])
        | succ k2 =>
         have H := HA.out
         clear HA
         simp only [spec_MazeLines.l1] at H
         by_cases c16 : x6_2 < (x5_2.length : Int)
         ·rw [if_pos c16] at H
          have c16b0 : decide (x6_2 < (x5_2.length : Int)) = true := decide_eq_true c16
          clear c16
          by_cases c17 : 0 ≤ x6_2
          ·rw [if_pos c17] at H
           have c17b0 : decide (0 ≤ x6_2) = true := decide_eq_true c17
           clear c17
           obtain ⟨y143, hy143⟩ : ∃ y_ : List Int, y_ = (x5_2.set (x6_2 : Int).toNat 35) := ⟨_, rfl⟩
           replace H : (if (Int.tmod x4_1 2) = 1 then (spec_MazeLines.j2 k2 x3_1 x4_1 y143 x6_2 (wrap64 ((wrap64 ((wrap64 (Int.tdiv x4_1 2)) * a0_0)) + (wrap64 (Int.tdiv x6_2 2)))) ((Int.tmod x6_2 2) == 1) a0_0 a0_1 a0_2) else (spec_MazeLines.j2 k2 x3_1 x4_1 y143 x6_2 (wrap64 ((wrap64 ((wrap64 (Int.tdiv x4_1 2)) * a0_0)) + (wrap64 (Int.tdiv x6_2 2)))) false a0_0 a0_1 a0_2)) = some r := by first | (rw [hy143]; with_reducible exact H) | (have H2_ := (Option.bind_some _ _).symm.trans H; rw [hy143]; with_reducible exact H2_) | (have H2_ := (Option.bind_some _ _).symm.trans H; with_reducible exact H2_) | with_reducible exact H | (rw [hy143]; exact H) | exact H
           have Ny143 := Aside0.mk hy143
           clear hy143
           have HC19 := Aside0.mk H
           clear H
           obtain ⟨Ao20, co20, eo20⟩ := Kd.R_slice HO_5.out
           subst eo20
           have p18 : 0 ≤ (x6_2 : Int) := of_decide_eq_true (by first | (with_reducible assumption) | assumption)
           have q18 : (x6_2 : Int) < ((x5_2.length : Int) : Int) := of_decide_eq_true (by first | (with_reducible assumption) | assumption)
           obtain ⟨go18, co18, eo18, gb18, gl18, cl18, HG18⟩ := Kd.R_form HO_5.out (by omega)
           (first | cases eo18 | (injection eo18 with ea_ en_ ec_; (first | subst ea_ | (injection ea_ with ea_; subst ea_)); subst ec_; clear en_))
           have GB18 := Aside0.mk gb18
           have GG18 := Aside0.mk HG18
           clear gb18 gl18 HG18
           obtain ⟨hx18_0, hf18_0⟩ := Kd.R_celln 0 HO_5.out (x6_2 : Int) p18 q18
           replace p18 := eq_true p18
           replace q18 := eq_true q18
           have HP21 := Kd.R_putg HO_5.out (x6_2 : Int) 35
           go_upto_region 13 with (first | ((with_reducible refine gate_store (t := 5) (p := 35) rfl ?_); refine store_event (t := 5) (p := 35) (v := ?vo_w22) (w1 := (wr.setCell ⟨go18, (x6_2 : Int).toNat, none⟩ (.int .u8 35))) ?hg ?ho ?hn ?hr ?_; (case ho => rfl); (case hg => rfl); (case hn => rfl); (case hr => first | (go_simp; done) | (go_simp; rfl)); intro w22 hw; have hg : wr.grownBy w22 (some go18) := (by rw [hw]; exact HP21.2); have hp_ : Kd.R (Kd.int .u8) 5 w22 w.heap.size (fun _ => True) (.slice (some ⟨go18, 0, none⟩) x5_2.length co20) y143 := (by rw [hw, Ny143.out]; exact HP21.1); clear HP21; have n0_ := Aside0.mk (Kd.R_over' (v := (.slice (some ⟨go18, 0, none⟩) x5_2.length co20)) (kr_ HO_3.out) (Kd.R_typed HO_5.out) (by decide) hg); have n1_ := Aside0.mk (hp_); have n2_ := Aside0.mk (blk_grown (g := gb132) (o := .cells #[.int .i64 a0_0, .int .i64 a0_1, .int .i64 a0_2] 30 (0, 0)) (kb_ BK132.out) hg (Kd.R_ne HO_5.out BK132.out (by decide))); have n3_ := Aside0.mk ((by rw [hw]; exact below_set (HB.out) GB18.out : Below w.heap.size w w22)); clear HO_3; clear HO_5; clear BK132; clear HB; have HO_3 := n0_; have HO_5 := n1_; have BK132 := n2_; have HB := n3_; clear n0_ n1_ n2_ n3_; clear hg hw hp_; have hcz23_0 := cz_ (.int .i64 a0_0) BK132.out 0; have hcz23_1 := cz_ (.int .i64 a0_1) BK132.out 1; have hcz23_2 := cz_ (.int .i64 a0_2) BK132.out 2; have hfz23_0 := blk_frozen BK132.out 0; have hfz23_1 := blk_frozen BK132.out 1; have hfz23_2 := blk_frozen BK132.out 2))
           (try simp only [Act.put, List.setIfInBounds_toArray, List.set_cons_zero, List.set_cons_succ])
           go_cut [45] (fun v45 wc => ∃ (kq : Nat) (x45_18 : Bool), v45 = .bool x45_18 ∧ Aside0 (spec_MazeLines.j2 kq x3_1 x4_1 y143 x6_2 (wrap64 ((wrap64 ((wrap64 (Int.tdiv x4_1 2)) * a0_0)) + (wrap64 (Int.tdiv x6_2 2)))) x45_18 a0_0 a0_1 a0_2 = some r) ∧ Aside0 (kq ≤ k2) ∧ Aside0 (Kd.R Kd.string 9 wc w.heap.size (fun _ => True) u3 x3_1) ∧ Aside0 (Kd.R (Kd.int .u8) 5 wc w.heap.size (fun _ => True) (.slice (some ⟨go18, 0, none⟩) x5_2.length co20) y143) ∧ Aside0 (wc.heap[gb132]? = some (.cells #[.int .i64 a0_0, .int .i64 a0_1, .int .i64 a0_2] 30 (0, 0))) ∧ Aside0 (Below w.heap.size w wc))
           case first =>
            have H := HC19.out
            clear HC19
            by_cases c24 : (Int.tmod x4_1 2) = 1
            ·rw [if_pos c24] at H
             have c24b0 : ((Int.tmod x4_1 2) == 1) = true := beq_iff_eq.mpr c24
             have c24b1 : ((Int.tmod x4_1 2) != 1) = false := bne_eq_false_iff_eq.mpr c24
             clear c24
             (first | rw [c24b0] | (simp only [i64_w, i32_w]; rw [c24b0]) | skip)
             have H' := Aside0.mk H
             clear H
             go_wp2
             go_meet
             case rel => exact ⟨_, (((Int.tmod x6_2 2) == 1)), (by first | rfl | (simp; done) | (simp [*]; done)), H', ⟨by have := HK1.out; have := HK2.out; first | omega | exact Nat.le_refl _⟩, ⟨kr_ HO_3.out⟩, ⟨kr_ HO_5.out⟩, ⟨kb_ BK132.out⟩, ⟨hb_⟩⟩
            ·rw [if_neg c24] at H
             have c24b0 : ((Int.tmod x4_1 2) == 1) = false := beq_eq_false_iff_ne.mpr c24
             have c24b1 : ((Int.tmod x4_1 2) != 1) = true := bne_iff_ne.mpr c24
             (first | rw [c24b0] | (simp only [i64_w, i32_w]; rw [c24b0]) | skip)
             have H' := Aside0.mk H
             clear H
             go_wp2
             go_meet
             case rel => exact ⟨_, (false), (by first | rfl | (simp; done) | (simp [*]; done)), H', ⟨by have := HK1.out; have := HK2.out; first | omega | exact Nat.le_refl _⟩, ⟨kr_ HO_3.out⟩, ⟨kr_ HO_5.out⟩, ⟨kb_ BK132.out⟩, ⟨hb_⟩⟩
           case rest =>
            clear HC19
            try clear c1
            try clear p1
            try clear q1
            try clear hx1
            try clear hf1
            try clear c2
            try clear p2
            try clear c3
            try clear c5
            try clear p6
            try clear c9
            try clear c9b0
            try clear c11
            try clear c11b0
            try clear c11b1
            try clear c12
            try clear c12b0
            try clear c12b1
            try clear c16
            try clear c16b0
            try clear c17
            try clear c17b0
            try clear p18
            try clear q18
            try clear hx18
            try clear hf18
            try clear c24
            try clear c24b0
            try clear c24b1
            try clear hcz13_0
            try clear hcz13_1
            try clear hcz13_2
            try clear hcz23_0
            try clear hcz23_1
            try clear hcz23_2
            try clear hcz7_0
            try clear hcz7_1
            try clear hcz7_2
            try clear hfz13_0
            try clear hfz13_1
            try clear hfz13_2
            try clear hfz23_0
            try clear hfz23_1
            try clear hfz23_2
            try clear hfz7_0
            try clear hfz7_1
            try clear hfz7_2
            try clear hx18_0
            try clear p18
            try clear p2
            try clear p6
            try clear q18
            obtain ⟨kq, x45_18, rfl, HA, HJ18, HO_3, HO_5, BK132, HB⟩ := hcut
            have hl5_18 := (Kd.R_reads' HO_5.out).1
            rw [hl5_18] at HO_5
            (try simp only [hl5_18])
            (try simp only [hl5_18] at BK132)
            (try simp only [hl5_18] at HO_3)
            cases kq with
            | zero => exact absurd HA.out (by simp [spec_MazeLines.j2])
            | succ kj18 =>
             have H := HA.out
             clear HA
             simp only [spec_MazeLines.j2] at H
             by_cases c25 : x45_18 = true
             ·subst c25
              have H1 : (if 0 ≤ x6_2 then (if x6_2 < (y143.length : Int) then (spec_MazeLines.l1 kj18 x3_1 x4_1 (y143.set (x6_2 : Int).toNat 32) (wrap64 (x6_2 + 1)) a0_0 a0_1 a0_2) else (none)) else (none)) = some r := by rw [if_pos rfl] at H; exact H
              clear H
              have H := H1
              clear H1
              by_cases c26 : 0 ≤ x6_2
              ·rw [if_pos c26] at H
               have c26b0 : decide (0 ≤ x6_2) = true := decide_eq_true c26
               clear c26
               by_cases c27 : x6_2 < (y143.length : Int)
               ·rw [if_pos c27] at H
                have c27b0 : decide (x6_2 < (y143.length : Int)) = true := decide_eq_true c27
                clear c27
                obtain ⟨y144, hy144⟩ : ∃ y_ : List Int, y_ = (y143.set (x6_2 : Int).toNat 32) := ⟨_, rfl⟩
                replace H : (spec_MazeLines.l1 kj18 x3_1 x4_1 y144 (wrap64 (x6_2 + 1)) a0_0 a0_1 a0_2) = some r := by first | (rw [hy144]; with_reducible exact H) | (have H2_ := (Option.bind_some _ _).symm.trans H; rw [hy144]; with_reducible exact H2_) | (have H2_ := (Option.bind_some _ _).symm.trans H; with_reducible exact H2_) | with_reducible exact H | (rw [hy144]; exact H) | exact H
                have Ny144 := Aside0.mk hy144
                clear hy144
                have H' := Aside0.mk H
                clear H
                have p28 : 0 ≤ (x6_2 : Int) := of_decide_eq_true (by first | (with_reducible assumption) | assumption)
                have q28 : (x6_2 : Int) < ((y143.length : Int) : Int) := of_decide_eq_true (by first | (with_reducible assumption) | assumption)
                obtain ⟨hx28_0, hf28_0⟩ := Kd.R_celln 0 HO_5.out (x6_2 : Int) p28 q28
                replace p28 := eq_true p28
                replace q28 := eq_true q28
                have HP29 := Kd.R_putg HO_5.out (x6_2 : Int) 32
                go_wp2_with (first | ((with_reducible refine gate_store (t := 5) (p := 56) rfl ?_); refine store_event (t := 5) (p := 56) (v := ?vo_w30) (w1 := (wc.setCell ⟨go18, (x6_2 : Int).toNat, none⟩ (.int .u8 32))) ?hg ?ho ?hn ?hr ?_; (case ho => rfl); (case hg => rfl); (case hn => rfl); (case hr => first | (go_simp; done) | (go_simp; rfl)); intro w30 hw; have hg : wc.grownBy w30 (some go18) := (by rw [hw]; exact HP29.2); have hp_ : Kd.R (Kd.int .u8) 5 w30 w.heap.size (fun _ => True) (.slice (some ⟨go18, 0, none⟩) y143.length co20) y144 := (by rw [hw, Ny144.out]; exact HP29.1); clear HP29; have n0_ := Aside0.mk (Kd.R_over' (v := (.slice (some ⟨go18, 0, none⟩) y143.length co20)) (kr_ HO_3.out) (Kd.R_typed HO_5.out) (by decide) hg); have n1_ := Aside0.mk (hp_); have n2_ := Aside0.mk (blk_grown (g := gb132) (o := .cells #[.int .i64 a0_0, .int .i64 a0_1, .int .i64 a0_2] 30 (0, 0)) (kb_ BK132.out) hg (Kd.R_ne HO_5.out BK132.out (by decide))); have n3_ := Aside0.mk ((by rw [hw]; exact below_set (HB.out) GB18.out : Below w.heap.size w w30)); clear HO_3; clear HO_5; clear BK132; clear HB; have HO_3 := n0_; have HO_5 := n1_; have BK132 := n2_; have HB := n3_; clear n0_ n1_ n2_ n3_; clear hg hw hp_))
                (try simp only [← hl5_18])
                go_roundg kj18
                case measure => have := HK1.out; have := HK2.out; have := HJ18.out; omega
                case rel => exact ⟨(y144), (wrap64 (x6_2 + 1)), (by first | rfl | (simp; done) | (simp [*]; done)), H', ⟨by have := HK1.out; have := HK2.out; have := HJ18.out; omega⟩, ⟨by (try simp only [hl5_18]); (with_reducible repeat (first | apply Kd.R_alloc | apply Kd.R_drewN | apply Kd.R_drew)); exact HO_3.out⟩, ⟨by (try simp only [hl5_18]); (with_reducible repeat (first | apply Kd.R_alloc | apply Kd.R_drewN | apply Kd.R_drew)); exact HO_5.out⟩, ⟨by (try simp only [hl5_18]); (with_reducible repeat (first | refine blk_drewN ?_ _ | refine blk_drew ?_ | refine blk_alloc ?_ _)); exact BK132.out⟩, ⟨hb_⟩⟩
               ·rw [if_neg c27] at H
                exact absurd H (by simp)
              ·rw [if_neg c26] at H
               exact absurd H (by simp)
             ·replace c25 := Bool.eq_false_iff.mpr c25
              subst c25
              have H1 : (if (Int.tmod x4_1 2) = 1 then (if x6_2 > 0 then (if x6_2 < (wrap64 ((y143.length : Int) - 1)) then ((spec_Step.f kj18 a0_0 a0_1 a0_2 (wrap64 ((wrap64 ((wrap64 ((wrap64 (Int.tdiv x4_1 2)) * a0_0)) + (wrap64 (Int.tdiv x6_2 2)))) - 1)) 1).bind fun t145 => (spec_MazeLines.j3 kj18 x3_1 x4_1 y143 x6_2 (wrap64 ((wrap64 ((wrap64 (Int.tdiv x4_1 2)) * a0_0)) + (wrap64 (Int.tdiv x6_2 2)))) (decide (t145 ≥ 0)) a0_0 a0_1 a0_2)) else (spec_MazeLines.j3 kj18 x3_1 x4_1 y143 x6_2 (wrap64 ((wrap64 ((wrap64 (Int.tdiv x4_1 2)) * a0_0)) + (wrap64 (Int.tdiv x6_2 2)))) false a0_0 a0_1 a0_2)) else (spec_MazeLines.j3 kj18 x3_1 x4_1 y143 x6_2 (wrap64 ((wrap64 ((wrap64 (Int.tdiv x4_1 2)) * a0_0)) + (wrap64 (Int.tdiv x6_2 2)))) false a0_0 a0_1 a0_2)) else (spec_MazeLines.j3 kj18 x3_1 x4_1 y143 x6_2 (wrap64 ((wrap64 ((wrap64 (Int.tdiv x4_1 2)) * a0_0)) + (wrap64 (Int.tdiv x6_2 2)))) false a0_0 a0_1 a0_2)) = some r := by rw [if_neg (show ¬ (false = true) by decide)] at H; exact H
              clear H
              have H := H1
              clear H1
              have HC31 := Aside0.mk H
              clear H
              go_upto_region 15 with (fail)
              go_cut [57] (fun v57 wc => ∃ (kq : Nat) (x57_30 : Bool), v57 = .bool x57_30 ∧ Aside0 (spec_MazeLines.j3 kq x3_1 x4_1 y143 x6_2 (wrap64 ((wrap64 ((wrap64 (Int.tdiv x4_1 2)) * a0_0)) + (wrap64 (Int.tdiv x6_2 2)))) x57_30 a0_0 a0_1 a0_2 = some r) ∧ Aside0 (kq ≤ kj18) ∧ Aside0 (Kd.R Kd.string 9 wc w.heap.size (fun _ => True) u3 x3_1) ∧ Aside0 (Kd.R (Kd.int .u8) 5 wc w.heap.size (fun _ => True) (.slice (some ⟨go18, 0, none⟩) y143.length co20) y143) ∧ Aside0 (wc.heap[gb132]? = some (.cells #[.int .i64 a0_0, .int .i64 a0_1, .int .i64 a0_2] 30 (0, 0))) ∧ Aside0 (Below w.heap.size w wc))
              case first =>
               have H := HC31.out
               clear HC31
               by_cases c32 : (Int.tmod x4_1 2) = 1
               ·rw [if_pos c32] at H
                have c32b0 : ((Int.tmod x4_1 2) == 1) = true := beq_iff_eq.mpr c32
                have c32b1 : ((Int.tmod x4_1 2) != 1) = false := bne_eq_false_iff_eq.mpr c32
                clear c32
                (first | rw [c32b0] | (simp only [i64_w, i32_w]; rw [c32b0]) | skip)
                by_cases c33 : x6_2 > 0
                ·rw [if_pos c33] at H
                 have c33b0 : decide (0 < x6_2) = true := decide_eq_true c33
                 clear c33
                 by_cases c34 : x6_2 < (wrap64 ((y143.length : Int) - 1))
                 ·rw [if_pos c34] at H
                  have c34b0 : decide (x6_2 < (wrap64 ((y143.length : Int) - 1))) = true := decide_eq_true c34
                  clear c34
                  replace H := Option.bind_eq_some_iff.mp H
                  obtain ⟨t145, A350, H⟩ := H
                  replace H : (spec_MazeLines.j3 kj18 x3_1 x4_1 y143 x6_2 (wrap64 ((wrap64 ((wrap64 (Int.tdiv x4_1 2)) * a0_0)) + (wrap64 (Int.tdiv x6_2 2)))) (decide (t145 ≥ 0)) a0_0 a0_1 a0_2) = some r := H
                  have A35 := Aside0.mk A350
                  clear A350
                  have H' := Aside0.mk H
                  clear H
                  have hcz36_0 : wc.cell? ⟨gb132, 0, none⟩ = some (.int .i64 a0_0) := (blk_cell BK132.out 0).trans rfl
                  have hcz36_1 : wc.cell? ⟨gb132, 1, none⟩ = some (.int .i64 a0_1) := (blk_cell BK132.out 1).trans rfl
                  have hcz36_2 : wc.cell? ⟨gb132, 2, none⟩ = some (.int .i64 a0_2) := (blk_cell BK132.out 2).trans rfl
                  have hfz36_0 := blk_frozen BK132.out 0
                  have hfz36_1 := blk_frozen BK132.out 1
                  have hfz36_2 := blk_frozen BK132.out 2
                  go_wp2_with (first | (go_at_call 17; (with_reducible refine (spec_Step.calls kj18 a0_0 a0_1 a0_2 (wrap64 ((wrap64 ((wrap64 ((wrap64 (Int.tdiv x4_1 2)) * a0_0)) + (wrap64 (Int.tdiv x6_2 2)))) - 1)) 1 t145 _ A35.out).mono ?_); rintro e w37 ⟨rfl, hb⟩; have n0_ := Aside0.mk (Kd.R_below (kr_ HO_3.out) hb); have n1_ := Aside0.mk (Kd.R_below (kr_ HO_5.out) hb); have n2_ := Aside0.mk (blk_below (g := gb132) (o := .cells #[.int .i64 a0_0, .int .i64 a0_1, .int .i64 a0_2] 30 (0, 0)) (kb_ BK132.out) hb); have n3_ := Aside0.mk (below_step hb_ hb); clear HO_3; clear HO_5; clear BK132; clear HB; have HO_3 := n0_; have HO_5 := n1_; have BK132 := n2_; have HB := n3_; clear n0_ n1_ n2_ n3_; (try clear hb); (try clear hb2); (try clear hk); (try clear hi)))
                  go_meet
                  case rel => exact ⟨_, (decide (t145 ≥ 0)), (by first | rfl | (simp; done) | (simp [*]; done)), H', ⟨by have := HK1.out; have := HK2.out; have := HJ18.out; first | omega | exact Nat.le_refl _⟩, ⟨by (try simp only [hl5_18]); (with_reducible repeat (first | apply Kd.R_alloc | apply Kd.R_drewN | apply Kd.R_drew)); exact HO_3.out⟩, ⟨by (try simp only [hl5_18]); (with_reducible repeat (first | apply Kd.R_alloc | apply Kd.R_drewN | apply Kd.R_drew)); exact HO_5.out⟩, ⟨by (try simp only [hl5_18]); (with_reducible repeat (first | refine blk_drewN ?_ _ | refine blk_drew ?_ | refine blk_alloc ?_ _)); exact BK132.out⟩, ⟨hb_⟩⟩
                 ·rw [if_neg c34] at H
                  have c34b0 : decide (x6_2 < (wrap64 ((y143.length : Int) - 1))) = false := decide_eq_false c34
                  clear c34
                  have H' := Aside0.mk H
                  clear H
                  go_wp2
                  go_meet
                  case rel => exact ⟨_, (false), (by first | rfl | (simp; done) | (simp [*]; done)), H', ⟨by have := HK1.out; have := HK2.out; have := HJ18.out; first | omega | exact Nat.le_refl _⟩, ⟨by (try simp only [hl5_18]); (with_reducible repeat (first | apply Kd.R_alloc | apply Kd.R_drewN | apply Kd.R_drew)); exact HO_3.out⟩, ⟨by (try simp only [hl5_18]); (with_reducible repeat (first | apply Kd.R_alloc | apply Kd.R_drewN | apply Kd.R_drew)); exact HO_5.out⟩, ⟨by (try simp only [hl5_18]); (with_reducible repeat (first | refine blk_drewN ?_ _ | refine blk_drew ?_ | refine blk_alloc ?_ _)); exact BK132.out⟩, ⟨hb_⟩⟩
                ·rw [if_neg c33] at H
                 have c33b0 : decide (0 < x6_2) = false := decide_eq_false c33
                 clear c33
                 have H' := Aside0.mk H
                 clear H
                 go_wp2
                 go_meet
                 case rel => exact ⟨_, (false), (by first | rfl | (simp; done) | (simp [*]; done)), H', ⟨by have := HK1.out; have := HK2.out; have := HJ18.out; first | omega | exact Nat.le_refl _⟩, ⟨by (try simp only [hl5_18]); (with_reducible repeat (first | apply Kd.R_alloc | apply Kd.R_drewN | apply Kd.R_drew)); exact HO_3.out⟩, ⟨by (try simp only [hl5_18]); (with_reducible repeat (first | apply Kd.R_alloc | apply Kd.R_drewN | apply Kd.R_drew)); exact HO_5.out⟩, ⟨by (try simp only [hl5_18]); (with_reducible repeat (first | refine blk_drewN ?_ _ | refine blk_drew ?_ | refine blk_alloc ?_ _)); exact BK132.out⟩, ⟨hb_⟩⟩
               ·rw [if_neg c32] at H
                have c32b0 : ((Int.tmod x4_1 2) == 1) = false := beq_eq_false_iff_ne.mpr c32
                have c32b1 : ((Int.tmod x4_1 2) != 1) = true := bne_iff_ne.mpr c32
                (first | rw [c32b0] | (simp only [i64_w, i32_w]; rw [c32b0]) | skip)
                have H' := Aside0.mk H
                clear H
                go_wp2
                go_meet
                case rel => exact ⟨_, (false), (by first | rfl | (simp; done) | (simp [*]; done)), H', ⟨by have := HK1.out; have := HK2.out; have := HJ18.out; first | omega | exact Nat.le_refl _⟩, ⟨by (try simp only [hl5_18]); (with_reducible repeat (first | apply Kd.R_alloc | apply Kd.R_drewN | apply Kd.R_drew)); exact HO_3.out⟩, ⟨by (try simp only [hl5_18]); (with_reducible repeat (first | apply Kd.R_alloc | apply Kd.R_drewN | apply Kd.R_drew)); exact HO_5.out⟩, ⟨by (try simp only [hl5_18]); (with_reducible repeat (first | refine blk_drewN ?_ _ | refine blk_drew ?_ | refine blk_alloc ?_ _)); exact BK132.out⟩, ⟨hb_⟩⟩
              case rest =>
               clear HC31
               try clear c1
               try clear p1
               try clear q1
               try clear hx1
               try clear hf1
               try clear c2
               try clear p2
               try clear q2
               try clear hx2
               try clear hf2
               try clear c3
               try clear c5
               try clear p6
               try clear c9
               try clear c9b0
               try clear c11
               try clear c11b0
               try clear c11b1
               try clear c12
               try clear c12b0
               try clear c12b1
               try clear c16
               try clear c16b0
               try clear c17
               try clear c17b0
               try clear p18
               try clear q18
               try clear hx18
               try clear hf18
               try clear c24
               try clear c24b0
               try clear c24b1
               try clear c25
               try clear c26
               try clear c26b0
               try clear c27
               try clear c27b0
               try clear p28
               try clear q28
               try clear hx28
               try clear hf28
               try clear c32
               try clear c32b0
               try clear c32b1
               try clear c33
               try clear c33b0
               try clear c34
               try clear c34b0
               try clear hcz13_0
               try clear hcz13_1
               try clear hcz13_2
               try clear hcz23_0
               try clear hcz23_1
               try clear hcz23_2
               try clear hcz36_0
               try clear hcz36_1
               try clear hcz36_2
               try clear hcz7_0
               try clear hcz7_1
               try clear hcz7_2
               try clear hfz13_0
               try clear hfz13_1
               try clear hfz13_2
               try clear hfz23_0
               try clear hfz23_1
               try clear hfz23_2
               try clear hfz36_0
               try clear hfz36_1
               try clear hfz36_2
               try clear hfz7_0
               try clear hfz7_1
               try clear hfz7_2
               try clear hx18_0
               try clear hx28_0
               try clear p1
               try clear p18
               try clear p2
               try clear p28
               try clear p6
               try clear q1
               try clear q18
               try clear q28
               obtain ⟨kq, x57_30, rfl, HA, HJ30, HO_3, HO_5, BK132, HB⟩ := hcut
               cases kq with
               | zero => exact absurd HA.out (by simp [spec_MazeLines.j3])
               | succ kj30 =>
                have H := HA.out
                clear HA
                simp only [spec_MazeLines.j3] at H
                by_cases c38 : x57_30 = true
                ·subst c38
                 have H1 : (if 0 ≤ x6_2 then (if x6_2 < (y143.length : Int) then (spec_MazeLines.l1 kj30 x3_1 x4_1 (y143.set (x6_2 : Int).toNat 32) (wrap64 (x6_2 + 1)) a0_0 a0_1 a0_2) else (none)) else (none)) = some r := by rw [if_pos rfl] at H; exact H
                 clear H
                 have H := H1
                 clear H1
                 by_cases c39 : 0 ≤ x6_2
                 ·rw [if_pos c39] at H
                  have c39b0 : decide (0 ≤ x6_2) = true := decide_eq_true c39
                  clear c39
                  by_cases c40 : x6_2 < (y143.length : Int)
                  ·rw [if_pos c40] at H
                   have c40b0 : decide (x6_2 < (y143.length : Int)) = true := decide_eq_true c40
                   clear c40
                   obtain ⟨y146, hy146⟩ : ∃ y_ : List Int, y_ = (y143.set (x6_2 : Int).toNat 32) := ⟨_, rfl⟩
                   replace H : (spec_MazeLines.l1 kj30 x3_1 x4_1 y146 (wrap64 (x6_2 + 1)) a0_0 a0_1 a0_2) = some r := by first | (rw [hy146]; with_reducible exact H) | (have H2_ := (Option.bind_some _ _).symm.trans H; rw [hy146]; with_reducible exact H2_) | (have H2_ := (Option.bind_some _ _).symm.trans H; with_reducible exact H2_) | with_reducible exact H | (rw [hy146]; exact H) | exact H
                   have Ny146 := Aside0.mk hy146
                   clear hy146
                   have H' := Aside0.mk H
                   clear H
                   have p41 : 0 ≤ (x6_2 : Int) := of_decide_eq_true (by first | (with_reducible assumption) | assumption)
                   have q41 : (x6_2 : Int) < ((y143.length : Int) : Int) := of_decide_eq_true (by first | (with_reducible assumption) | assumption)
                   obtain ⟨hx41_0, hf41_0⟩ := Kd.R_celln 0 HO_5.out (x6_2 : Int) p41 q41
                   replace p41 := eq_true p41
                   replace q41 := eq_true q41
                   have HP42 := Kd.R_putg HO_5.out (x6_2 : Int) 32
                   go_wp2_with (first | ((with_reducible refine gate_store (t := 5) (p := 81) rfl ?_); refine store_event (t := 5) (p := 81) (v := ?vo_w43) (w1 := (wc.setCell ⟨go18, (x6_2 : Int).toNat, none⟩ (.int .u8 32))) ?hg ?ho ?hn ?hr ?_; (case ho => rfl); (case hg => rfl); (case hn => rfl); (case hr => first | (go_simp; done) | (go_simp; rfl)); intro w43 hw; have hg : wc.grownBy w43 (some go18) := (by rw [hw]; exact HP42.2); have hp_ : Kd.R (Kd.int .u8) 5 w43 w.heap.size (fun _ => True) (.slice (some ⟨go18, 0, none⟩) y143.length co20) y146 := (by rw [hw, Ny146.out]; exact HP42.1); clear HP42; have n0_ := Aside0.mk (Kd.R_over' (v := (.slice (some ⟨go18, 0, none⟩) y143.length co20)) (kr_ HO_3.out) (Kd.R_typed HO_5.out) (by decide) hg); have n1_ := Aside0.mk (hp_); have n2_ := Aside0.mk (blk_grown (g := gb132) (o := .cells #[.int .i64 a0_0, .int .i64 a0_1, .int .i64 a0_2] 30 (0, 0)) (kb_ BK132.out) hg (Kd.R_ne HO_5.out BK132.out (by decide))); have n3_ := Aside0.mk ((by rw [hw]; exact below_set (HB.out) GB18.out : Below w.heap.size w w43)); clear HO_3; clear HO_5; clear BK132; clear HB; have HO_3 := n0_; have HO_5 := n1_; have BK132 := n2_; have HB := n3_; clear n0_ n1_ n2_ n3_; clear hg hw hp_))
                   (try simp only [← hl5_18])
                   go_roundg kj30
                   case measure => have := HK1.out; have := HK2.out; have := HJ18.out; have := HJ30.out; omega
                   case rel => exact ⟨(y146), (wrap64 (x6_2 + 1)), (by first | rfl | (simp; done) | (simp [*]; done)), H', ⟨by have := HK1.out; have := HK2.out; have := HJ18.out; have := HJ30.out; omega⟩, ⟨by (try simp only [hl5_18]); (with_reducible repeat (first | apply Kd.R_alloc | apply Kd.R_drewN | apply Kd.R_drew)); exact HO_3.out⟩, ⟨by (try simp only [hl5_18]); (with_reducible repeat (first | apply Kd.R_alloc | apply Kd.R_drewN | apply Kd.R_drew)); exact HO_5.out⟩, ⟨by (try simp only [hl5_18]); (with_reducible repeat (first | refine blk_drewN ?_ _ | refine blk_drew ?_ | refine blk_alloc ?_ _)); exact BK132.out⟩, ⟨hb_⟩⟩
                  ·rw [if_neg c40] at H
                   exact absurd H (by simp)
                 ·rw [if_neg c39] at H
                  exact absurd H (by simp)
                ·replace c38 := Bool.eq_false_iff.mpr c38
                 subst c38
                 have H1 : (if (Int.tmod x6_2 2) = 1 then (if x4_1 > 0 then (if x4_1 < (wrap64 (2 * a0_1)) then ((spec_Step.f kj30 a0_0 a0_1 a0_2 (wrap64 ((wrap64 ((wrap64 ((wrap64 (Int.tdiv x4_1 2)) * a0_0)) + (wrap64 (Int.tdiv x6_2 2)))) - a0_0)) 2).bind fun t147 => (if t147 ≥ 0 then (if 0 ≤ x6_2 then (if x6_2 < (y143.length : Int) then (spec_MazeLines.l1 kj30 x3_1 x4_1 (y143.set (x6_2 : Int).toNat 32) (wrap64 (x6_2 + 1)) a0_0 a0_1 a0_2) else (none)) else (none)) else (spec_MazeLines.l1 kj30 x3_1 x4_1 y143 (wrap64 (x6_2 + 1)) a0_0 a0_1 a0_2))) else (spec_MazeLines.l1 kj30 x3_1 x4_1 y143 (wrap64 (x6_2 + 1)) a0_0 a0_1 a0_2)) else (spec_MazeLines.l1 kj30 x3_1 x4_1 y143 (wrap64 (x6_2 + 1)) a0_0 a0_1 a0_2)) else (spec_MazeLines.l1 kj30 x3_1 x4_1 y143 (wrap64 (x6_2 + 1)) a0_0 a0_1 a0_2)) = some r := by rw [if_neg (show ¬ (false = true) by decide)] at H; exact H
                 clear H
                 have H := H1
                 clear H1
                 by_cases c44 : (Int.tmod x6_2 2) = 1
                 ·rw [if_pos c44] at H
                  have c44b0 : ((Int.tmod x6_2 2) == 1) = true := beq_iff_eq.mpr c44
                  have c44b1 : ((Int.tmod x6_2 2) != 1) = false := bne_eq_false_iff_eq.mpr c44
                  clear c44
                  by_cases c45 : x4_1 > 0
                  ·rw [if_pos c45] at H
                   have c45b0 : decide (0 < x4_1) = true := decide_eq_true c45
                   clear c45
                   by_cases c46 : x4_1 < (wrap64 (2 * a0_1))
                   ·rw [if_pos c46] at H
                    have c46b0 : decide (x4_1 < (wrap64 (2 * a0_1))) = true := decide_eq_true c46
                    clear c46
                    replace H := Option.bind_eq_some_iff.mp H
                    obtain ⟨t147, A470, H⟩ := H
                    replace H : (if t147 ≥ 0 then (if 0 ≤ x6_2 then (if x6_2 < (y143.length : Int) then (spec_MazeLines.l1 kj30 x3_1 x4_1 (y143.set (x6_2 : Int).toNat 32) (wrap64 (x6_2 + 1)) a0_0 a0_1 a0_2) else (none)) else (none)) else (spec_MazeLines.l1 kj30 x3_1 x4_1 y143 (wrap64 (x6_2 + 1)) a0_0 a0_1 a0_2)) = some r := H
                    have A47 := Aside0.mk A470
                    clear A470
                    by_cases c48 : t147 ≥ 0
                    ·rw [if_pos c48] at H
                     have c48b0 : decide (0 ≤ t147) = true := decide_eq_true c48
                     clear c48
                     by_cases c49 : 0 ≤ x6_2
                     ·rw [if_pos c49] at H
                      have c49b0 : decide (0 ≤ x6_2) = true := decide_eq_true c49
                      clear c49
                      by_cases c50 : x6_2 < (y143.length : Int)
                      ·rw [if_pos c50] at H
                       have c50b0 : decide (x6_2 < (y143.length : Int)) = true := decide_eq_true c50
                       clear c50
                       obtain ⟨y148, hy148⟩ : ∃ y_ : List Int, y_ = (y143.set (x6_2 : Int).toNat 32) := ⟨_, rfl⟩
                       replace H : (spec_MazeLines.l1 kj30 x3_1 x4_1 y148 (wrap64 (x6_2 + 1)) a0_0 a0_1 a0_2) = some r := by first | (rw [hy148]; with_reducible exact H) | (have H2_ := (Option.bind_some _ _).symm.trans H; rw [hy148]; with_reducible exact H2_) | (have H2_ := (Option.bind_some _ _).symm.trans H; with_reducible exact H2_) | with_reducible exact H | (rw [hy148]; exact H) | exact H
                       have Ny148 := Aside0.mk hy148
                       clear hy148
                       have H' := Aside0.mk H
                       clear H
                       have hcz52_0 : wc.cell? ⟨gb132, 0, none⟩ = some (.int .i64 a0_0) := (blk_cell BK132.out 0).trans rfl
                       have hcz52_1 : wc.cell? ⟨gb132, 1, none⟩ = some (.int .i64 a0_1) := (blk_cell BK132.out 1).trans rfl
                       have hcz52_2 : wc.cell? ⟨gb132, 2, none⟩ = some (.int .i64 a0_2) := (blk_cell BK132.out 2).trans rfl
                       have hfz52_0 := blk_frozen BK132.out 0
                       have hfz52_1 := blk_frozen BK132.out 1
                       have hfz52_2 := blk_frozen BK132.out 2
                       go_wp2_with (first | (go_at_call 17; (with_reducible refine (spec_Step.calls kj30 a0_0 a0_1 a0_2 (wrap64 ((wrap64 ((wrap64 ((wrap64 (Int.tdiv x4_1 2)) * a0_0)) + (wrap64 (Int.tdiv x6_2 2)))) - a0_0)) 2 t147 _ A47.out).mono ?_); rintro e w53 ⟨rfl, hb⟩; have n0_ := Aside0.mk (Kd.R_below (kr_ HO_3.out) hb); have n1_ := Aside0.mk (Kd.R_below (kr_ HO_5.out) hb); have n2_ := Aside0.mk (blk_below (g := gb132) (o := .cells #[.int .i64 a0_0, .int .i64 a0_1, .int .i64 a0_2] 30 (0, 0)) (kb_ BK132.out) hb); have n3_ := Aside0.mk (below_step hb_ hb); clear HO_3; clear HO_5; clear BK132; clear HB; have HO_3 := n0_; have HO_5 := n1_; have BK132 := n2_; have HB := n3_; clear n0_ n1_ n2_ n3_; (try clear hb); (try clear hb2); (try clear hk); (try clear hi); have p51 : 0 ≤ (x6_2 : Int) := of_decide_eq_true (by first | (with_reducible assumption) | assumption); have q51 : (x6_2 : Int) < ((y143.length : Int) : Int) := of_decide_eq_true (by first | (with_reducible assumption) | assumption); obtain ⟨hx51_0, hf51_0⟩ := Kd.R_celln 0 HO_5.out (x6_2 : Int) p51 q51; replace p51 := eq_true p51; replace q51 := eq_true q51; obtain ⟨hy54_, hz54_⟩ := Kd.R_celln 0 HO_5.out (x6_2 : Int) (of_decide_eq_true (by first | (with_reducible assumption) | assumption)) (of_decide_eq_true (by first | (with_reducible assumption) | assumption)); have HP54 := Kd.R_putg HO_5.out (x6_2 : Int) 32) | ((with_reducible refine gate_store (t := 5) (p := 110) rfl ?_); refine store_event (t := 5) (p := 110) (v := ?vo_w55) (w1 := (w53.setCell ⟨go18, (x6_2 : Int).toNat, none⟩ (.int .u8 32))) ?hg ?ho ?hn ?hr ?_; (case ho => rfl); (case hg => rfl); (case hn => rfl); (case hr => first | (go_simp; done) | (go_simp; rfl)); intro w55 hw; have hg : w53.grownBy w55 (some go18) := (by rw [hw]; exact HP54.2); have hp_ : Kd.R (Kd.int .u8) 5 w55 w.heap.size (fun _ => True) (.slice (some ⟨go18, 0, none⟩) y143.length co20) y148 := (by rw [hw, Ny148.out]; exact HP54.1); clear HP54; have n0_ := Aside0.mk (Kd.R_over' (v := (.slice (some ⟨go18, 0, none⟩) y143.length co20)) (kr_ HO_3.out) (Kd.R_typed HO_5.out) (by decide) hg); have n1_ := Aside0.mk (hp_); have n2_ := Aside0.mk (blk_grown (g := gb132) (o := .cells #[.int .i64 a0_0, .int .i64 a0_1, .int .i64 a0_2] 30 (0, 0)) (kb_ BK132.out) hg (Kd.R_ne HO_5.out BK132.out (by decide))); have n3_ := Aside0.mk ((by rw [hw]; exact below_set (HB.out) GB18.out : Below w.heap.size w w55)); clear HO_3; clear HO_5; clear BK132; clear HB; have HO_3 := n0_; have HO_5 := n1_; have BK132 := n2_; have HB := n3_; clear n0_ n1_ n2_ n3_; clear hg hw hp_))
                       (try simp only [← hl5_18])
                       go_roundg kj30
                       case measure => have := HK1.out; have := HK2.out; have := HJ18.out; have := HJ30.out; omega
                       case rel => exact ⟨(y148), (wrap64 (x6_2 + 1)), (by first | rfl | (simp; done) | (simp [*]; done)), H', ⟨by have := HK1.out; have := HK2.out; have := HJ18.out; have := HJ30.out; omega⟩, ⟨by (try simp only [hl5_18]); (with_reducible repeat (first | apply Kd.R_alloc | apply Kd.R_drewN | apply Kd.R_drew)); exact HO_3.out⟩, ⟨by (try simp only [hl5_18]); (with_reducible repeat (first | apply Kd.R_alloc | apply Kd.R_drewN | apply Kd.R_drew)); exact HO_5.out⟩, ⟨by (try simp only [hl5_18]); (with_reducible repeat (first | refine blk_drewN ?_ _ | refine blk_drew ?_ | refine blk_alloc ?_ _)); exact BK132.out⟩, ⟨hb_⟩⟩
                      ·rw [if_neg c50] at H
                       exact absurd H (by simp)
                     ·rw [if_neg c49] at H
                      exact absurd H (by simp)
                    ·rw [if_neg c48] at H
                     have c48b0 : decide (0 ≤ t147) = false := decide_eq_false c48
                     clear c48
                     have H' := Aside0.mk H
                     clear H
                     have hcz56_0 : wc.cell? ⟨gb132, 0, none⟩ = some (.int .i64 a0_0) := (blk_cell BK132.out 0).trans rfl
                     have hcz56_1 : wc.cell? ⟨gb132, 1, none⟩ = some (.int .i64 a0_1) := (blk_cell BK132.out 1).trans rfl
                     have hcz56_2 : wc.cell? ⟨gb132, 2, none⟩ = some (.int .i64 a0_2) := (blk_cell BK132.out 2).trans rfl
                     have hfz56_0 := blk_frozen BK132.out 0
                     have hfz56_1 := blk_frozen BK132.out 1
                     have hfz56_2 := blk_frozen BK132.out 2
                     go_wp2_with (first | (go_at_call 17; (with_reducible refine (spec_Step.calls kj30 a0_0 a0_1 a0_2 (wrap64 ((wrap64 ((wrap64 ((wrap64 (Int.tdiv x4_1 2)) * a0_0)) + (wrap64 (Int.tdiv x6_2 2)))) - a0_0)) 2 t147 _ A47.out).mono ?_); rintro e w57 ⟨rfl, hb⟩; have n0_ := Aside0.mk (Kd.R_below (kr_ HO_3.out) hb); have n1_ := Aside0.mk (Kd.R_below (kr_ HO_5.out) hb); have n2_ := Aside0.mk (blk_below (g := gb132) (o := .cells #[.int .i64 a0_0, .int .i64 a0_1, .int .i64 a0_2] 30 (0, 0)) (kb_ BK132.out) hb); have n3_ := Aside0.mk (below_step hb_ hb); clear HO_3; clear HO_5; clear BK132; clear HB; have HO_3 := n0_; have HO_5 := n1_; have BK132 := n2_; have HB := n3_; clear n0_ n1_ n2_ n3_; (try clear hb); (try clear hb2); (try clear hk); (try clear hi)))
                     (try simp only [← hl5_18])
                     go_roundg kj30
                     case measure => have := HK1.out; have := HK2.out; have := HJ18.out; have := HJ30.out; omega
                     case rel => exact ⟨(y143), (wrap64 (x6_2 + 1)), (by first | rfl | (simp; done) | (simp [*]; done)), H', ⟨by have := HK1.out; have := HK2.out; have := HJ18.out; have := HJ30.out; omega⟩, ⟨by (try simp only [hl5_18]); (with_reducible repeat (first | apply Kd.R_alloc | apply Kd.R_drewN | apply Kd.R_drew)); exact HO_3.out⟩, ⟨by (try simp only [hl5_18]); (with_reducible repeat (first | apply Kd.R_alloc | apply Kd.R_drewN | apply Kd.R_drew)); exact HO_5.out⟩, ⟨by (try simp only [hl5_18]); (with_reducible repeat (first | refine blk_drewN ?_ _ | refine blk_drew ?_ | refine blk_alloc ?_ _)); exact BK132.out⟩, ⟨hb_⟩⟩
                   ·rw [if_neg c46] at H
                    have c46b0 : decide (x4_1 < (wrap64 (2 * a0_1))) = false := decide_eq_false c46
                    clear c46
                    have H' := Aside0.mk H
                    clear H
                    have hcz58_0 : wc.cell? ⟨gb132, 0, none⟩ = some (.int .i64 a0_0) := (blk_cell BK132.out 0).trans rfl
                    have hcz58_1 : wc.cell? ⟨gb132, 1, none⟩ = some (.int .i64 a0_1) := (blk_cell BK132.out 1).trans rfl
                    have hcz58_2 : wc.cell? ⟨gb132, 2, none⟩ = some (.int .i64 a0_2) := (blk_cell BK132.out 2).trans rfl
                    have hfz58_0 := blk_frozen BK132.out 0
                    have hfz58_1 := blk_frozen BK132.out 1
                    have hfz58_2 := blk_frozen BK132.out 2
                    go_wp2
                    (try simp only [← hl5_18])
                    go_roundg kj30
                    case measure => have := HK1.out; have := HK2.out; have := HJ18.out; have := HJ30.out; omega
                    case rel => exact ⟨(y143), (wrap64 (x6_2 + 1)), (by first | rfl | (simp; done) | (simp [*]; done)), H', ⟨by have := HK1.out; have := HK2.out; have := HJ18.out; have := HJ30.out; omega⟩, ⟨by (try simp only [hl5_18]); (with_reducible repeat (first | apply Kd.R_alloc | apply Kd.R_drewN | apply Kd.R_drew)); exact HO_3.out⟩, ⟨by (try simp only [hl5_18]); (with_reducible repeat (first | apply Kd.R_alloc | apply Kd.R_drewN | apply Kd.R_drew)); exact HO_5.out⟩, ⟨by (try simp only [hl5_18]); (with_reducible repeat (first | refine blk_drewN ?_ _ | refine blk_drew ?_ | refine blk_alloc ?_ _)); exact BK132.out⟩, ⟨hb_⟩⟩
                  ·rw [if_neg c45] at H
                   have c45b0 : decide (0 < x4_1) = false := decide_eq_false c45
                   clear c45
                   have H' := Aside0.mk H
                   clear H
                   go_wp2
                   (try simp only [← hl5_18])
                   go_roundg kj30
                   case measure => have := HK1.out; have := HK2.out; have := HJ18.out; have := HJ30.out; omega
                   case rel => exact ⟨(y143), (wrap64 (x6_2 + 1)), (by first | rfl | (simp; done) | (simp [*]; done)), H', ⟨by have := HK1.out; have := HK2.out; have := HJ18.out; have := HJ30.out; omega⟩, ⟨by (try simp only [hl5_18]); (with_reducible repeat (first | apply Kd.R_alloc | apply Kd.R_drewN | apply Kd.R_drew)); exact HO_3.out⟩, ⟨by (try simp only [hl5_18]); (with_reducible repeat (first | apply Kd.R_alloc | apply Kd.R_drewN | apply Kd.R_drew)); exact HO_5.out⟩, ⟨by (try simp only [hl5_18]); (with_reducible repeat (first | refine blk_drewN ?_ _ | refine blk_drew ?_ | refine blk_alloc ?_ _)); exact BK132.out⟩, ⟨hb_⟩⟩
                 ·rw [if_neg c44] at H
                  have c44b0 : ((Int.tmod x6_2 2) == 1) = false := beq_eq_false_iff_ne.mpr c44
                  have c44b1 : ((Int.tmod x6_2 2) != 1) = true := bne_iff_ne.mpr c44
                  have H' := Aside0.mk H
                  clear H
                  go_wp2
                  (try simp only [← hl5_18])
                  go_roundg kj30
                  case measure => have := HK1.out; have := HK2.out; have := HJ18.out; have := HJ30.out; omega
                  case rel => exact ⟨(y143), (wrap64 (x6_2 + 1)), (by first | rfl | (simp; done) | (simp [*]; done)), H', ⟨by have := HK1.out; have := HK2.out; have := HJ18.out; have := HJ30.out; omega⟩, ⟨by (try simp only [hl5_18]); (with_reducible repeat (first | apply Kd.R_alloc | apply Kd.R_drewN | apply Kd.R_drew)); exact HO_3.out⟩, ⟨by (try simp only [hl5_18]); (with_reducible repeat (first | apply Kd.R_alloc | apply Kd.R_drewN | apply Kd.R_drew)); exact HO_5.out⟩, ⟨by (try simp only [hl5_18]); (with_reducible repeat (first | refine blk_drewN ?_ _ | refine blk_drew ?_ | refine blk_alloc ?_ _)); exact BK132.out⟩, ⟨hb_⟩⟩
          ·rw [if_neg c17] at H
           exact absurd H (by simp)
         ·rw [if_neg c16] at H
          have c16b0 : decide (x6_2 < (x5_2.length : Int)) = false := decide_eq_false c16
          clear c16
          by_cases c59 : x3_1.length < 8796093022208
          ·rw [if_pos c59] at H
           have LMc59 := Aside0.mk c59
           clear c59
           obtain ⟨y140, hy140⟩ : ∃ y_ : List ByteArray, y_ = (x3_1 ++ [strOfNums x5_2]) := ⟨_, rfl⟩
           replace H : (spec_MazeLines.l0 k2 y140 (wrap64 (x4_1 + 1)) a0_0 a0_1 a0_2) = some r := by first | (rw [hy140]; with_reducible exact H) | (have H2_ := (Option.bind_some _ _).symm.trans H; rw [hy140]; with_reducible exact H2_) | (have H2_ := (Option.bind_some _ _).symm.trans H; with_reducible exact H2_) | with_reducible exact H | (rw [hy140]; exact H) | exact H
           have Ny140 := Aside0.mk hy140
           clear hy140
           have H' := Aside0.mk H
           clear H
           obtain ⟨Ao60, co60, eo60⟩ := Kd.R_slice HO_5.out
           subst eo60
           have hcv61 := own_string (P := Try.prog) Try.underlying41 Try.underlying5 Try.underlying9 (Kd.own_of_R HO_5.out)
           go_wp2_with (first | ((with_reducible refine gate_builtin (b := .append) (xs := #[.tmp 111, .tmp 114]) rfl ?_); (try (refine gate_guard (by rfl) ?_; dsimp only)); at_builtin; refine Kd.R_append Kd.string (w0 := w) w.heap.size rfl (.tmp 111) (.tmp 114) 26 9 (.string ⟨#[]⟩) 16 rfl Try.underlying26 info9 rfl (by decide) (by omega) u3 x3_1 (strOfNums x5_2) [.string (strOfNums x5_2)] (fun _ => True) (fun _ => False) rfl rfl ?aP (fun _ hk => hk.elim) ?aF ?aO ?aB ?aS ?aL ?_; (case aP => exact rfl); (case aB => exact hb_); (case aF => exact (fun _ _ => trivial)); (case aO => exact (kr_ HO_3.out)); (case aS => exact (below_size hb_)); (case aL => have := LMc59.out; omega); intro v141 w62 ho hb hg hat; rw [← Ny140.out] at ho; have n0_ := Aside0.mk (Kd.R_over' (kr_ HO_5.out) (Kd.R_typed (kr_ HO_3.out)) (by decide) hg); have n1_ := Aside0.mk (blk_grown (g := gb132) (o := .cells #[.int .i64 a0_0, .int .i64 a0_1, .int .i64 a0_2] 30 (0, 0)) (kb_ BK132.out) hg (Kd.R_ne HO_3.out BK132.out (by decide))); have n2_ := Aside0.mk (hb); have n3_ := Aside0.mk (ho); clear HO_5; clear BK132; clear HB; clear HO_3; have HO_5 := n0_; have BK132 := n1_; have HB := n2_; have HO142 := n3_; clear n0_ n1_ n2_ n3_; clear ho hb hg hat))
           go_roundg k2
           case measure => have := HK1.out; have := HK2.out; omega
           case rel => exact ⟨(y140), (wrap64 (x4_1 + 1)), (by first | rfl | (simp; done) | (simp [*]; done)), H', ⟨by have := HK1.out; have := HK2.out; omega⟩, ⟨kr_ HO142.out⟩, ⟨kb_ BK132.out⟩, ⟨hb_⟩⟩
          ·rw [if_neg c59] at H
           exact absurd H (by simp)
      ·rw [if_neg c12] at H
       exact absurd H (by simp)
     ·rw [if_neg c11] at H
      exact absurd H (by simp)
    ·rw [if_neg c9] at H
     have c9b0 : decide (x4_1 ≤ (wrap64 (2 * a0_1))) = false := decide_eq_false c9
     clear c9
     obtain rfl := Option.some.inj H
     have hcz63_0 : wr.cell? ⟨gb132, 0, none⟩ = some (.int .i64 a0_0) := (blk_cell BK132.out 0).trans rfl
     have hcz63_1 : wr.cell? ⟨gb132, 1, none⟩ = some (.int .i64 a0_1) := (blk_cell BK132.out 1).trans rfl
     have hcz63_2 : wr.cell? ⟨gb132, 2, none⟩ = some (.int .i64 a0_2) := (blk_cell BK132.out 2).trans rfl
     have hfz63_0 := blk_frozen BK132.out 0
     have hfz63_1 := blk_frozen BK132.out 1
     have hfz63_2 := blk_frozen BK132.out 2
     go_wp2
     go_ret
     exact ⟨_, er_, kr_ HO_3.out, hb_⟩
 ·replace c3 := Bool.eq_false_iff.mpr c3
  subst c3
  have H1 : (some y133) = some r := by rw [if_neg (show ¬ (false = true) by decide)] at H; exact H
  clear H
  have H := H1
  clear H1
  obtain rfl := Option.some.inj H
  go_enter Try.func5, Try.ntmps5
  go_wp2_with (first | ((with_reducible refine gate_dst (N := 1) rfl ?_); (try (refine gate_guard (by rfl) ?_; dsimp only)); refine box_event ?hg (N := 1) ?hd (cs := #[.int .i64 a0_0, .int .i64 a0_1, .int .i64 a0_2]) (t := 30) ?hr ?_; (case hd => rfl); (case hg => rfl); (case hr => first | (go_simp; done) | (go_simp; rfl)); intro gb132 hg w64 hbox hb; have n0_ := Aside0.mk (below_step hb_ hb); have n1_ := Aside0.mk (hbox); have n2_ := Aside0.mk ((by rw [hg]; exact (below_size hb_) : w.heap.size ≤ gb132)); have n3_ := Aside0.mk ((by rw [hg]; exact (below_size hb_) : w.heap.size ≤ gb132)); clear HB; have HB := n0_; have BK132 := n1_; have GW132 := n2_; have GE132 := n3_; clear n0_ n1_ n2_ n3_; clear hb hbox hg) | ((with_reducible refine gate_dst (N := 8) rfl ?_); (try (refine gate_guard (by rfl) ?_; dsimp only)); refine Kd.R_lit Kd.string _ 9 ?hg (N := 8) ?hd (xs := ([] : List ByteArray)) (inner := []) (ok := fun _ => True) (okp := fun _ => True) ?hr ?hp (fun _ hk => hk) trivial (Below.refl _ _) (Nat.le_refl _) (by simp) ?_; (case hd => rfl); (case hg => rfl); (case hr => first | (go_simp; done) | (go_simp; rfl)); (case hp => exact (Reps.none _ _)); intro v134 w65 ho66 hb hg_ hnew_; clear hg_ hnew_; (first | rw [← Ny133.out] at ho66 | (simp only [Int.reduceToNat] at ho66; rw [← Ny133.out] at ho66)); have n0_ := Aside0.mk (Kd.R_lower ho66 (below_size hb_)); have n1_ := Aside0.mk (blk_below (g := gb132) (o := .cells #[.int .i64 a0_0, .int .i64 a0_1, .int .i64 a0_2] 30 (0, 0)) (kb_ BK132.out) hb); have n2_ := Aside0.mk (below_step hb_ hb); clear BK132; clear HB; have HO135 := n0_; have BK132 := n1_; have HB := n2_; clear n0_ n1_ n2_; clear hb ho66; have hcz67_0 := cz_ (.int .i64 a0_0) BK132.out 0; have hcz67_1 := cz_ (.int .i64 a0_1) BK132.out 1; have hcz67_2 := cz_ (.int .i64 a0_2) BK132.out 2; have hfz67_0 := blk_frozen BK132.out 0; have hfz67_1 := blk_frozen BK132.out 1; have hfz67_2 := blk_frozen BK132.out 2) | ((with_reducible refine gate_callee (f := 16) rfl ?_); refine goesL_ (some 10) rfl rfl Try.func16 (by kernel_rfl) rfl #[.agg #[.int .i64 a0_0, .int .i64 a0_1, .int .i64 a0_2]] rfl mp_ ?_; (with_reducible refine (spec_MazeOk.calls a0_0 a0_1 a0_2 false _ A2.out).mono ?_); rintro e w68 ⟨rfl, hb⟩; refine ⟨_, rfl, ?_⟩; have n0_ := Aside0.mk (Kd.R_below (kr_ HO135.out) hb); have n1_ := Aside0.mk (blk_below (g := gb132) (o := .cells #[.int .i64 a0_0, .int .i64 a0_1, .int .i64 a0_2] 30 (0, 0)) (kb_ BK132.out) hb); have n2_ := Aside0.mk (below_step hb_ hb); clear HO135; clear BK132; clear HB; have HO135 := n0_; have BK132 := n1_; have HB := n2_; clear n0_ n1_ n2_; (try clear hb); (try clear hb2); (try clear hk); (try clear hi)))
  go_ret
  exact ⟨_, er_, kr_ HO135.out, hb_⟩

end Go.Proofs.Ytcmdjbaehecicaa.Q
