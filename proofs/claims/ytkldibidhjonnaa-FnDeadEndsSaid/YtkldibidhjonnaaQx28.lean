/- Plain Lean functions of Go functions, and for each the proof that its call comes to just that answer. Conditions: in each theorem's statement. -/
import Derived.Test.YtkldibidhjonnaaQx0
import Derived.Test.YtkldibidhjonnaaQx2
import Derived.Test.YtkldibidhjonnaaQx7
import Derived.Test.YtkldibidhjonnaaQx8
import Derived.Test.YtkldibidhjonnaaQx27
namespace Go.Proofs.Ytkldibidhjonnaa.Q
open Go.RowKit Go.Proofs.YtkldibidhjonnaaW.PrintWords Go.Proofs.YtkldibidhjonnaaW.PrintLast
attribute [local go_sem] max2_int min2_int max_two min_two   -- for this text's walks alone
set_option linter.unusedVariables false
set_option linter.unusedSimpArgs false

/-! ### impl_distances: function 46 -/
mutual
def impl_distances.l0 : Nat → List Int → List Int → Int → Int → Int → Int → Option (List Int)
 | 0, _, _, _, _, _, _ => none
 | k + 1, x5, x6, x7, x355000, x355001, x355002 => if x7 < (x6.length : Int) then (if 0 ≤ x7 then ((impl_WaysFrom.f k x355000 x355001 x355002 (rd x6 x7)).bind fun t367 => (impl_distances.l1 k x5 x6 x7 t367 (t367.length : Int) 0 x355000 x355001 x355002)) else (none)) else (some x5)
def impl_distances.l1 : Nat → List Int → List Int → Int → List Int → Int → Int → Int → Int → Int → Option (List Int)
 | 0, _, _, _, _, _, _, _, _, _ => none
 | k + 1, x5, x6, x7, x32, x33, x34, x355000, x355001, x355002 => if x34 < x33 then (if 0 ≤ x34 then (if x34 < (x32.length : Int) then (if 0 ≤ x7 then (if x7 < (x6.length : Int) then ((impl_Step.f k x355000 x355001 x355002 (rd x6 x7) (rd x32 x34)).bind fun t372 => (if 0 ≤ t372 then (if t372 < (x5.length : Int) then (if (rd x5 t372) < 0 then (if 0 ≤ (rd x6 x7) then (if (rd x6 x7) < (x5.length : Int) then (if x6.length < 17592186044416 then (impl_distances.l1 k (x5.set (t372 : Int).toNat (wrap64 ((rd x5 (rd x6 x7)) + 1))) (x6 ++ [t372]) x7 x32 x33 (wrap64 (x34 + 1)) x355000 x355001 x355002) else (none)) else (none)) else (none)) else (impl_distances.l1 k x5 x6 x7 x32 x33 (wrap64 (x34 + 1)) x355000 x355001 x355002)) else (none)) else (none))) else (none)) else (none)) else (none)) else (none)) else (impl_distances.l0 k x5 x6 (wrap64 (x7 + 1)) x355000 x355001 x355002)
end
def impl_distances.f (k : Nat) (a0_0 : Int) (a0_1 : Int) (a0_2 : Int) (a1 : Int) : Option (List Int) := (impl_CountCells.f a0_0 a0_1).bind fun t358 => ((slices_Repeat_int_int.f (([(-1)] : List Int)) t358).bind fun t359 => (if 0 ≤ a1 then (if a1 < (t359.length : Int) then (impl_distances.l0 k (t359.set (a1 : Int).toNat 0) (([a1] : List Int)) 0 a0_0 a0_1 a0_2) else (none)) else (none)))
theorem impl_distances.mono_l : ∀ k, (∀ y0 y1 y2 y3 y4 y5, LeO (impl_distances.l0 k y0 y1 y2 y3 y4 y5) (impl_distances.l0 (k + 1) y0 y1 y2 y3 y4 y5)) ∧ (∀ y0 y1 y2 y3 y4 y5 y6 y7 y8, LeO (impl_distances.l1 k y0 y1 y2 y3 y4 y5 y6 y7 y8) (impl_distances.l1 (k + 1) y0 y1 y2 y3 y4 y5 y6 y7 y8))
 | 0 => ⟨fun _ _ _ _ _ _ r h => by simp [impl_distances.l0] at h, fun _ _ _ _ _ _ _ _ _ r h => by simp [impl_distances.l1] at h⟩
 | k + 1 => by
  obtain ⟨ih0, ih1⟩ := impl_distances.mono_l k
  refine ⟨?_, ?_⟩
  ·intro y0 y1 y2 y3 y4 y5
   unfold impl_distances.l0
   repeat' first
   | (with_reducible exact ih0 _ _ _ _ _ _)
   | (with_reducible exact ih1 _ _ _ _ _ _ _ _ _)
   | (with_reducible exact impl_Step.mono _ _ _ _ _ _)
   | (with_reducible exact impl_WaysFrom.mono _ _ _ _ _)
   | (with_reducible exact LeO.refl _)
   | (with_reducible exact LeO.none _)
   | (with_reducible refine LeO.ite ?_ ?_)
   | (with_reducible refine LeO.bind ?_ (fun _ => ?_))
   | exact ih0 _ _ _ _ _ _
   | exact ih1 _ _ _ _ _ _ _ _ _
   | exact impl_Step.mono _ _ _ _ _ _
   | exact impl_WaysFrom.mono _ _ _ _ _
   | exact LeO.none _
   | refine LeO.ite ?_ ?_
   | refine LeO.bind ?_ (fun _ => ?_)
  ·intro y0 y1 y2 y3 y4 y5 y6 y7 y8
   unfold impl_distances.l1
   repeat' first
   | (with_reducible exact ih0 _ _ _ _ _ _)
   | (with_reducible exact ih1 _ _ _ _ _ _ _ _ _)
   | (with_reducible exact impl_Step.mono _ _ _ _ _ _)
   | (with_reducible exact impl_WaysFrom.mono _ _ _ _ _)
   | (with_reducible exact LeO.refl _)
   | (with_reducible exact LeO.none _)
   | (with_reducible refine LeO.ite ?_ ?_)
   | (with_reducible refine LeO.bind ?_ (fun _ => ?_))
   | exact ih0 _ _ _ _ _ _
   | exact ih1 _ _ _ _ _ _ _ _ _
   | exact impl_Step.mono _ _ _ _ _ _
   | exact impl_WaysFrom.mono _ _ _ _ _
   | exact LeO.none _
   | refine LeO.ite ?_ ?_
   | refine LeO.bind ?_ (fun _ => ?_)
theorem impl_distances.mono : ∀ a0 a1 a2 a3 k, LeO (impl_distances.f k a0 a1 a2 a3) (impl_distances.f (k + 1) a0 a1 a2 a3) := by
 intro a0 a1 a2 a3 k
 obtain ⟨ih0, ih1⟩ := impl_distances.mono_l k
 unfold impl_distances.f
 repeat' first
   | (with_reducible exact ih0 _ _ _ _ _ _)
   | (with_reducible exact ih1 _ _ _ _ _ _ _ _ _)
   | (with_reducible exact impl_Step.mono _ _ _ _ _ _)
   | (with_reducible exact impl_WaysFrom.mono _ _ _ _ _)
   | (with_reducible exact LeO.refl _)
   | (with_reducible exact LeO.none _)
   | (with_reducible refine LeO.ite ?_ ?_)
   | (with_reducible refine LeO.bind ?_ (fun _ => ?_))
   | exact ih0 _ _ _ _ _ _
   | exact ih1 _ _ _ _ _ _ _ _ _
   | exact impl_Step.mono _ _ _ _ _ _
   | exact impl_WaysFrom.mono _ _ _ _ _
   | exact LeO.none _
   | refine LeO.ite ?_ ?_
   | refine LeO.bind ?_ (fun _ => ?_)
def impl_distances.T7 : Bool × List (List Nat × List Nat) := (true, [([], []), ([], []), ([], []), ([1, 2], [1, 2]), ([3], [3]), ([0, 4], [0, 4]), ([5], [5]), ([], [])])
def impl_distances.B7 : List Nat := [0, 0, 0, 6, 14, 31, 63, 0]
theorem impl_distances.tab7 : rtab .any (opsOf Try.f46 7) = impl_distances.T7 := by kernel_rfl
theorem impl_distances.bits7 : waitsOk impl_distances.T7.2 impl_distances.B7 = true := by kernel_rfl
def impl_distances.T10 : Bool × List (List Nat × List Nat) := (true, [([], []), ([], []), ([], []), ([1, 2], [1, 2]), ([3], [3]), ([], []), ([0, 4, 5], [0, 4, 5]), ([6, 6, 0, 1, 2, 3, 4, 5, 6], [6])])
def impl_distances.B10 : List Nat := [0, 0, 0, 6, 14, 0, 63, 127]
theorem impl_distances.tab10 : rtab .any (opsOf Try.f46 10) = impl_distances.T10 := by kernel_rfl
theorem impl_distances.bits10 : waitsOk impl_distances.T10.2 impl_distances.B10 = true := by kernel_rfl
set_option maxHeartbeats 8000000 in
set_option maxRecDepth 100000 in
theorem impl_distances.calls (k : Nat) (a0_0 : Int) (a0_1 : Int) (a0_2 : Int) (a1 : Int) (r : List Int) (w : World) (h : impl_distances.f k a0_0 a0_1 a0_2 a1 = some r) :
  Calls Try.prog 46 #[.agg #[.int .i64 a0_0, .int .i64 a0_1, .int .i64 a0_2], .int .i64 a1] w fun e w' => ∃ v0_ : Value, e = .returned (v0_) ∧ Kd.R (Kd.int .i64) 3 w' w.heap.size (fun _ => True) v0_ r ∧ Below w.heap.size w w' := by
 have hu29 := Try.underlying29
 have hu27 := Try.underlying27
 have HB := Aside0.mk (Below.refl w.heap.size w)
 have H : ((impl_CountCells.f a0_0 a0_1).bind fun t358 => ((slices_Repeat_int_int.f (([(-1)] : List Int)) t358).bind fun t359 => (if 0 ≤ a1 then (if a1 < (t359.length : Int) then (impl_distances.l0 k (t359.set (a1 : Int).toNat 0) (([a1] : List Int)) 0 a0_0 a0_1 a0_2) else (none)) else (none)))) = some r := h
 clear h
 obtain ⟨y355, hy355⟩ : ∃ y_ : List Int, y_ = (([(-1)] : List Int)) := ⟨_, rfl⟩
 replace H : ((impl_CountCells.f a0_0 a0_1).bind fun t358 => ((slices_Repeat_int_int.f y355 t358).bind fun t359 => (if 0 ≤ a1 then (if a1 < (t359.length : Int) then (impl_distances.l0 k (t359.set (a1 : Int).toNat 0) (([a1] : List Int)) 0 a0_0 a0_1 a0_2) else (none)) else (none)))) = some r := by first | (rw [hy355]; with_reducible exact H) | (have H2_ := (Option.bind_some _ _).symm.trans H; rw [hy355]; with_reducible exact H2_) | (have H2_ := (Option.bind_some _ _).symm.trans H; with_reducible exact H2_) | with_reducible exact H | (rw [hy355]; exact H) | exact H
 have Ny355 := Aside0.mk hy355
 clear hy355
 replace H := Option.bind_eq_some_iff.mp H
 obtain ⟨t358, A30, H⟩ := H
 replace H : ((slices_Repeat_int_int.f y355 t358).bind fun t359 => (if 0 ≤ a1 then (if a1 < (t359.length : Int) then (impl_distances.l0 k (t359.set (a1 : Int).toNat 0) (([a1] : List Int)) 0 a0_0 a0_1 a0_2) else (none)) else (none))) = some r := H
 have A3 := Aside0.mk A30
 clear A30
 replace H := Option.bind_eq_some_iff.mp H
 obtain ⟨t359, A40, H⟩ := H
 replace H : (if 0 ≤ a1 then (if a1 < (t359.length : Int) then (impl_distances.l0 k (t359.set (a1 : Int).toNat 0) (([a1] : List Int)) 0 a0_0 a0_1 a0_2) else (none)) else (none)) = some r := H
 have A4 := Aside0.mk A40
 clear A40
 by_cases c5 : 0 ≤ a1
 ·rw [if_pos c5] at H
  have c5b0 : decide (0 ≤ a1) = true := decide_eq_true c5
  clear c5
  by_cases c6 : a1 < (t359.length : Int)
  ·rw [if_pos c6] at H
   have c6b0 : decide (a1 < (t359.length : Int)) = true := decide_eq_true c6
   clear c6
   obtain ⟨y362, hy362⟩ : ∃ y_ : List Int, y_ = (t359.set (a1 : Int).toNat 0) := ⟨_, rfl⟩
   replace H : (impl_distances.l0 k y362 (([a1] : List Int)) 0 a0_0 a0_1 a0_2) = some r := by first | (rw [hy362]; with_reducible exact H) | (have H2_ := (Option.bind_some _ _).symm.trans H; rw [hy362]; with_reducible exact H2_) | (have H2_ := (Option.bind_some _ _).symm.trans H; with_reducible exact H2_) | with_reducible exact H | (rw [hy362]; exact H) | exact H
   have Ny362 := Aside0.mk hy362
   clear hy362
   obtain ⟨y363, hy363⟩ : ∃ y_ : List Int, y_ = (([a1] : List Int)) := ⟨_, rfl⟩
   replace H : (impl_distances.l0 k y362 y363 0 a0_0 a0_1 a0_2) = some r := by first | (rw [hy363]; with_reducible exact H) | (have H2_ := (Option.bind_some _ _).symm.trans H; rw [hy363]; with_reducible exact H2_) | (have H2_ := (Option.bind_some _ _).symm.trans H; with_reducible exact H2_) | with_reducible exact H | (rw [hy363]; exact H) | exact H
   have Ny363 := Aside0.mk hy363
   clear hy363
   have H' := Aside0.mk H
   clear H
   go_enter Try.func46, Try.ntmps46
   go_wp2_with (first | ((with_reducible refine gate_dst (N := 2) rfl ?_); refine box_event ?hg (N := 2) ?hd (cs := #[.int .i64 a0_0, .int .i64 a0_1, .int .i64 a0_2]) (t := 29) ?hr ?_; (case hd => rfl); (case hg => rfl); (case hr => first | (go_simp; done) | (go_simp; rfl)); intro gb354 hg w8 hbox hb; have n0_ := Aside0.mk (below_step hb_ hb); have n1_ := Aside0.mk (hbox); have n2_ := Aside0.mk ((by rw [hg]; exact (below_size hb_) : w.heap.size ≤ gb354)); have n3_ := Aside0.mk ((by rw [hg]; exact (below_size hb_) : w.heap.size ≤ gb354)); clear HB; have HB := n0_; have BK354 := n1_; have GW354 := n2_; have GE354 := n3_; clear n0_ n1_ n2_ n3_; clear hb hbox hg) | ((with_reducible refine gate_dst (N := 11) rfl ?_); refine Kd.R_lit (Kd.int .i64) _ 3 ?hg (N := 11) ?hd (xs := ([(-1)] : List Int)) (inner := [.int .i64 (-1)]) (ok := fun _ => True) (okp := fun _ => True) ?hr ?hp (fun _ hk => hk) trivial (Below.refl _ _) (Nat.le_refl _) (by simp) ?_; (case hd => rfl); (case hg => rfl); (case hr => first | (go_simp; done) | (go_simp; rfl)); (case hp => exact (Reps.one (show Kd.M (Kd.int .i64) _ _ _ (-1) [.int .i64 (-1)] from rfl) (Reps.none _ _))); intro v356 w9 ho10 hb hg_ hnew_; clear hg_ hnew_; (first | rw [← Ny355.out] at ho10 | (simp only [Int.reduceToNat] at ho10; rw [← Ny355.out] at ho10)); have n0_ := Aside0.mk (Kd.R_lower ho10 (below_size hb_)); have n1_ := Aside0.mk (blk_below (g := gb354) (o := .cells #[.int .i64 a0_0, .int .i64 a0_1, .int .i64 a0_2] 29 (0, 0)) (kb_ BK354.out) hb); have n2_ := Aside0.mk (below_step hb_ hb); clear BK354; clear HB; have HO357 := n0_; have BK354 := n1_; have HB := n2_; clear n0_ n1_ n2_; clear hb ho10; have hcz11_0 := cz_ (.int .i64 a0_0) BK354.out 0; have hcz11_1 := cz_ (.int .i64 a0_1) BK354.out 1; have hcz11_2 := cz_ (.int .i64 a0_2) BK354.out 2; have hfz11_0 := blk_frozen BK354.out 0; have hfz11_1 := blk_frozen BK354.out 1; have hfz11_2 := blk_frozen BK354.out 2) | ((with_reducible refine gate_callee (f := 65) rfl ?_); refine goesL_ (some 14) rfl rfl Try.func65 (by kernel_rfl) rfl #[.agg #[.int .i64 a0_0, .int .i64 a0_1]] rfl mp_ ?_; (with_reducible refine (impl_CountCells.calls a0_0 a0_1 t358 _ A3.out).mono ?_); rintro e w12 ⟨rfl, hb⟩; refine ⟨_, rfl, ?_⟩; have n0_ := Aside0.mk (Kd.R_below (kr_ HO357.out) hb); have n1_ := Aside0.mk (blk_below (g := gb354) (o := .cells #[.int .i64 a0_0, .int .i64 a0_1, .int .i64 a0_2] 29 (0, 0)) (kb_ BK354.out) hb); have n2_ := Aside0.mk (below_step hb_ hb); clear HO357; clear BK354; clear HB; have HO357 := n0_; have BK354 := n1_; have HB := n2_; clear n0_ n1_ n2_; (try clear hb); (try clear hb2); (try clear hk); (try clear hi); obtain ⟨Ao13, co13, eo13⟩ := Kd.R_slice HO357.out; subst eo13) | ((with_reducible refine gate_callee (f := 71) rfl ?_); refine goesL_ (some 15) rfl rfl Try.func71 (by kernel_rfl) rfl #[.slice Ao13 y355.length co13, .int .i64 t358] rfl mp_ ?_; (with_reducible refine (slices_Repeat_int_int.calls _ _ y355 t358 t359 _ ?side1 ?side2 A4.out).mono ?_); (case side1 => repeat (first | exact (Kd.R_reads' HO357.out).2.2 | (with_reducible refine Kd.C_alloc ?_ _) | (with_reducible refine Kd.C_drewN ?_ _) | (with_reducible refine Kd.C_drew ?_))); (case side2 => exact (Kd.R_reads' HO357.out).2.1); rintro e w14 ⟨v360, rfl, ho0, hb⟩; refine ⟨_, rfl, ?_⟩; have n0_ := Aside0.mk (Kd.R_elder' (kr_ HO357.out) (Kd.R_base ho0) hb); have n1_ := Aside0.mk (Kd.R_lower (Kd.R_new' ho0 (Kd.R_lt (kr_ HO357.out))) (below_size hb_)); have n2_ := Aside0.mk (blk_below (g := gb354) (o := .cells #[.int .i64 a0_0, .int .i64 a0_1, .int .i64 a0_2] 29 (0, 0)) (kb_ BK354.out) hb); have n3_ := Aside0.mk (below_step hb_ hb); clear HO357; clear BK354; clear HB; have HO357 := n0_; have HO361 := n1_; have BK354 := n2_; have HB := n3_; clear n0_ n1_ n2_ n3_; (try clear hb); (try clear hb2); (try clear hk); (try clear hi); (try clear ho0); have p7 : 0 ≤ (a1 : Int) := of_decide_eq_true (by first | (with_reducible assumption) | assumption); have q7 : (a1 : Int) < ((t359.length : Int) : Int) := of_decide_eq_true (by first | (with_reducible assumption) | assumption); obtain ⟨go7, co7, eo7, gb7, gl7, cl7, HG7⟩ := Kd.R_form HO361.out (by omega); (first | cases eo7 | (injection eo7 with ea_ en_ ec_; (first | subst ea_ | (injection ea_ with ea_; subst ea_)); subst ec_; clear en_)); have GB7 := Aside0.mk gb7; have GG7 := Aside0.mk HG7; clear gb7 gl7 HG7; obtain ⟨hx7_0, hf7_0⟩ := Kd.R_celln 0 HO361.out (a1 : Int) p7 q7; replace p7 := eq_true p7; replace q7 := eq_true q7; have n_ := Aside0.mk (Kd.R_mono (ok' := (fun k_ => some k_ ≠ (.slice Ao13 y355.length co13 : Value).ownBlock)) HO361.out (fun k_ hk => hk.2)); clear HO361; have HO361 := n_; clear n_; obtain ⟨hy15_, hz15_⟩ := Kd.R_celln 0 HO361.out (a1 : Int) (of_decide_eq_true (by first | (with_reducible assumption) | assumption)) (of_decide_eq_true (by first | (with_reducible assumption) | assumption)); have HP15 := Kd.R_putg HO361.out (a1 : Int) 0) | ((with_reducible refine gate_store (t := 3) (p := 18) rfl ?_); refine store_event (t := 3) (p := 18) (v := ?vo_w16) (w1 := (w14.setCell ⟨go7, (a1 : Int).toNat, none⟩ (.int .i64 0))) ?hg ?ho ?hn ?hr ?_; (case ho => rfl); (case hg => rfl); (case hn => rfl); (case hr => first | (go_simp; done) | (go_simp; rfl)); intro w16 hw; have hg : w14.grownBy w16 (some go7) := (by rw [hw]; exact HP15.2); have hp_ : Kd.R (Kd.int .i64) 3 w16 w.heap.size (fun k_ => some k_ ≠ (.slice Ao13 y355.length co13 : Value).ownBlock) (.slice (some ⟨go7, 0, none⟩) t359.length co7) y362 := (by rw [hw, Ny362.out]; exact HP15.1); clear HP15; have n0_ := Aside0.mk (blk_grown (g := gb354) (o := .cells #[.int .i64 a0_0, .int .i64 a0_1, .int .i64 a0_2] 29 (0, 0)) (kb_ BK354.out) hg (Kd.R_ne HO361.out BK354.out (by decide))); have n1_ := Aside0.mk (Kd.R_after (v := (.slice (some ⟨go7, 0, none⟩) t359.length co7)) (v1 := (.slice (some ⟨go7, 0, none⟩) t359.length co7)) (ok := (fun _ => True)) (kr_ HO357.out) hg (.inl rfl)); have n2_ := Aside0.mk (hp_); have n3_ := Aside0.mk ((by rw [hw]; exact below_set (HB.out) GB7.out : Below w.heap.size w w16)); clear BK354; clear HO357; clear HO361; clear HB; have BK354 := n0_; have HO357 := n1_; have HO361 := n2_; have HB := n3_; clear n0_ n1_ n2_ n3_; clear hg hw hp_) | ((with_reducible refine gate_dst (N := 20) rfl ?_); refine Kd.R_lit (Kd.int .i64) _ 3 ?hg (N := 20) ?hd (xs := ([a1] : List Int)) (inner := [.int .i64 a1]) (ok := fun _ => True) (okp := fun _ => True) ?hr ?hp (fun _ hk => hk) trivial (Below.refl _ _) (Nat.le_refl _) (by simp) ?_; (case hd => rfl); (case hg => rfl); (case hr => first | (go_simp; done) | (go_simp; rfl)); (case hp => exact (Reps.one (show Kd.M (Kd.int .i64) _ _ _ a1 [.int .i64 a1] from rfl) (Reps.none _ _))); intro v364 w17 ho18 hb hg_ hnew_; clear hg_ hnew_; (first | rw [← Ny363.out] at ho18 | (simp only [Int.reduceToNat] at ho18; rw [← Ny363.out] at ho18)); have n0_ := Aside0.mk (Kd.R_elder' (kr_ HO357.out) (Kd.R_base ho18) hb); have n1_ := Aside0.mk (Kd.R_elder' (kr_ HO361.out) (Kd.R_base ho18) hb); have n2_ := Aside0.mk (Kd.R_lower (Kd.R_new' (Kd.R_new' ho18 (Kd.R_lt (kr_ HO357.out))) (Kd.R_lt (kr_ HO361.out))) (below_size hb_)); have n3_ := Aside0.mk (blk_below (g := gb354) (o := .cells #[.int .i64 a0_0, .int .i64 a0_1, .int .i64 a0_2] 29 (0, 0)) (kb_ BK354.out) hb); have n4_ := Aside0.mk (below_step hb_ hb); clear HO357; clear HO361; clear BK354; clear HB; have HO357 := n0_; have HO361 := n1_; have HO365 := n2_; have BK354 := n3_; have HB := n4_; clear n0_ n1_ n2_ n3_ n4_; clear hb ho18))
   go_loopg [6, 7] k (fun kq v6 v7 w' => ∃ (x5_1 : List Int) (x6_1 : List Int) (x7_1 : Int), v7 = .int .i64 x7_1 ∧ Aside0 (impl_distances.l0 kq x5_1 x6_1 x7_1 a0_0 a0_1 a0_2 = some r) ∧ Aside0 (kq ≤ k) ∧ Aside0 (Kd.R (Kd.int .i64) 3 w' w.heap.size (fun k_ => some k_ ≠ (v6 : Value).ownBlock) (.slice (some ⟨go7, 0, none⟩) t359.length co7) x5_1) ∧ Aside0 (Kd.R (Kd.int .i64) 3 w' w.heap.size (fun k_ => some k_ ≠ ((.slice (some ⟨go7, 0, none⟩) t359.length co7) : Value).ownBlock) v6 x6_1) ∧ Aside0 (w'.heap[gb354]? = some (.cells #[.int .i64 a0_0, .int .i64 a0_1, .int .i64 a0_2] 29 (0, 0))) ∧ Aside0 (Below w.heap.size w w'))
   case atStart => exact ⟨(y362), (y363), (0), (by first | rfl | (simp; done) | (simp [*]; done)), H', ⟨Nat.le_refl _⟩, ⟨by (with_reducible repeat (first | apply Kd.R_alloc | apply Kd.R_drewN | apply Kd.R_drew)); exact Kd.R_mono HO361.out (fun _ hk => hk.2)⟩, ⟨by (with_reducible repeat (first | apply Kd.R_alloc | apply Kd.R_drewN | apply Kd.R_drew)); exact Kd.R_mono HO365.out (fun _ hk => hk.2)⟩, ⟨kb_ BK354.out⟩, ⟨hb_⟩⟩
   case round =>
    clear H'
    try clear p2
    try clear c4
    try clear c5
    try clear c5b0
    try clear c6
    try clear c6b0
    try clear c7
    try clear p7
    try clear q7
    try clear hx7
    try clear hf7
    try clear hcz11_0
    try clear hcz11_1
    try clear hcz11_2
    try clear hfz11_0
    try clear hfz11_1
    try clear hfz11_2
    try clear hx7_0
    try clear p7
    try clear q7
    obtain ⟨x5_1, x6_1, x7_1, rfl, HA, HK1, HO_5, HO_6, BK354, HB⟩ := hrel
    have hl5_1 := (Kd.R_reads' HO_5.out).1
    rw [hl5_1] at HO_5
    (try simp only [hl5_1])
    (try simp only [hl5_1] at BK354)
    (try simp only [hl5_1] at HO_6)
    cases gk with
    | zero => exact absurd HA.out (by simp [impl_distances.l0])
    | succ k1 =>
     have H := HA.out
     clear HA
     simp only [impl_distances.l0] at H
     by_cases c19 : x7_1 < (x6_1.length : Int)
     ·rw [if_pos c19] at H
      have c19b0 : decide (x7_1 < (x6_1.length : Int)) = true := decide_eq_true c19
      clear c19
      by_cases c20 : 0 ≤ x7_1
      ·rw [if_pos c20] at H
       have c20b0 : decide (0 ≤ x7_1) = true := decide_eq_true c20
       clear c20
       replace H := Option.bind_eq_some_iff.mp H
       obtain ⟨t367, A210, H⟩ := H
       replace H : (impl_distances.l1 k1 x5_1 x6_1 x7_1 t367 (t367.length : Int) 0 a0_0 a0_1 a0_2) = some r := H
       have A21 := Aside0.mk A210
       clear A210
       have H' := Aside0.mk H
       clear H
       obtain ⟨Ao22, co22, eo22⟩ := Kd.R_slice HO_6.out
       subst eo22
       try go_wp2
       have n0_ := Aside0.mk (Kd.R_drew HO_5.out)
       have n1_ := Aside0.mk (Kd.R_drew HO_6.out)
       have n2_ := Aside0.mk (blk_drew BK354.out)
       have n3_ := Aside0.mk (below_drew1 HB.out)
       clear HO_5
       clear HO_6
       clear BK354
       clear HB
       have HO_5 := n0_
       have HO_6 := n1_
       have BK354 := n2_
       have HB := n3_
       clear n0_ n1_ n2_ n3_
       have p366 : 0 ≤ (x7_1 : Int) := of_decide_eq_true (by first | (with_reducible assumption) | assumption)
       have q366 : x7_1 < (x6_1.length : Int) := of_decide_eq_true (by first | (with_reducible assumption) | assumption)
       obtain ⟨ad366, e366, hx366_0⟩ := Kd.at_int (Kd.R_reads' HO_6.out).2.2 x7_1 p366 q366
       cases e366
       replace p366 := eq_true p366
       replace q366 := eq_true q366
       refine start_ (n := 8) (S := fun w' => w'.cell? ⟨gb354, 0, none⟩ = some (.int .i64 a0_0) ∧ w'.cell? ⟨gb354, 1, none⟩ = some (.int .i64 a0_1) ∧ w'.cell? ⟨gb354, 2, none⟩ = some (.int .i64 a0_2) ∧ w'.cell? (ad366.add (x7_1).toNat) = some (.int .i64 (rd x6_1 x7_1))) (ds := []) #[false, false, false, false, false, false, false, false] (by kernel_rfl) rfl rfl ⟨(blk_cell BK354.out 0).trans rfl, (blk_cell BK354.out 1).trans rfl, (blk_cell BK354.out 2).trans rfl, hx366_0⟩ (fun hHeld => ?_); refine with_tabW impl_distances.tab7 impl_distances.bits7 (fun HT_ HW_ => ?_)
       generalize wr.drew = w23 at HO_5 HO_6 BK354 HB hx366_0 hHeld ⊢
       refine pure_ (i := 1) (N := some 28) (v := ?_) (a' := ?_) #[false, true, false, false, false, false, false, false] rfl rfl (any_of HT_.out (by kernel_rfl)) (fun _ _ _ h => h) (Or.inl ⟨by rfl, ?_⟩) ?_ ?_
       rotate_left
       ·intro w'
        go_simp
        with_reducible rfl
       rotate_left
       ·simp only [Act.put, List.setIfInBounds_toArray, List.set_cons_zero, List.set_cons_succ, i64_w, i32_w]
        rfl
       refine pure_ (i := 2) (N := some 29) (v := ?_) (a' := ?_) #[false, true, true, false, false, false, false, false] rfl rfl (any_of HT_.out (by kernel_rfl)) (fun _ _ _ h => h) (Or.inl ⟨by rfl, ?_⟩) ?_ ?_
       rotate_left
       ·intro w'
        go_simp
        with_reducible rfl
       rotate_left
       ·simp only [Act.put, List.setIfInBounds_toArray, List.set_cons_zero, List.set_cons_succ, i64_w, i32_w]
        rfl
       refine pure_ (i := 3) (N := some 30) (v := ?_) (a' := ?_) #[false, true, true, true, false, false, false, false] rfl rfl (any_of HT_.out (by kernel_rfl)) (fun _ _ _ h => h) (Or.inl ⟨by rfl, ?_⟩) ?_ ?_
       rotate_left
       ·intro w'
        go_simp
        with_reducible rfl
       rotate_left
       ·simp only [Act.put, List.setIfInBounds_toArray, List.set_cons_zero, List.set_cons_succ, i64_w, i32_w]
        rfl
       refine pure_ (i := 7) (N := some 34) (v := ?_) (a' := ?_) #[false, true, true, true, false, false, false, true] rfl rfl (any_of HT_.out (by kernel_rfl)) (fun _ _ _ h => h) (Or.inl ⟨by rfl, ?_⟩) ?_ ?_
       rotate_left
       ·intro w'
        go_simp
        with_reducible rfl
       rotate_left
       ·simp only [Act.put, List.setIfInBounds_toArray, List.set_cons_zero, List.set_cons_succ, i64_w, i32_w]
        rfl
       refine take_ (i := 0) (N := some 27) (v := ?_) (a' := ?_) #[true, true, true, true, false, false, false, true] rfl rfl (take_ofW HT_.out HW_.out (by kernel_rfl)) (fun _ _ _ h => h) (Or.inl ⟨by rfl, ?_⟩) hHeld ?_ ?_
       rotate_left
       ·rintro w' ⟨s0, s1, s2, s3⟩
        go_simp
        with_reducible rfl
       rotate_left
       ·simp only [Act.put, List.setIfInBounds_toArray, List.set_cons_zero, List.set_cons_succ, i64_w, i32_w]
        rfl
       refine take_ (i := 4) (N := some 31) (v := ?_) (a' := ?_) #[true, true, true, true, true, false, false, true] rfl rfl (take_ofW HT_.out HW_.out (by kernel_rfl)) (fun _ _ _ h => h) (Or.inl ⟨by rfl, ?_⟩) hHeld ?_ ?_
       rotate_left
       ·rintro w' ⟨s0, s1, s2, s3⟩
        go_simp
        with_reducible rfl
       rotate_left
       ·simp only [Act.put, List.setIfInBounds_toArray, List.set_cons_zero, List.set_cons_succ, i64_w, i32_w]
        rfl
       refine one_ (i := 5) (N := some 32) #[true, true, true, true, true, true, false, true] rfl rfl (one_of HT_.out (by kernel_rfl)) (by decide) (fun K hK => ?_)
       refine goes_ Try.func35 (by kernel_rfl) rfl #[.agg #[.int .i64 a0_0, .int .i64 a0_1, .int .i64 a0_2], .int .i64 (rd x6_1 x7_1)] (by rfl) rfl rfl mp_ ?_
       with_reducible refine (impl_WaysFrom.calls k1 a0_0 a0_1 a0_2 (rd x6_1 x7_1) t367 _ A21.out).mono ?_
       rintro e w24 ⟨v368, rfl, ho0, hb⟩
       have HS3_ := (hb.cell (World.block_lt_of_cell? _ _ (hHeld.2.2.2))).trans (hHeld.2.2.2)
       refine ⟨_, rfl, ?_⟩
       have n0_ := Aside0.mk (Kd.R_elder' (kr_ HO_5.out) (Kd.R_base ho0) hb)
       have n1_ := Aside0.mk (Kd.R_elder' (kr_ HO_6.out) (Kd.R_base ho0) hb)
       have n2_ := Aside0.mk (Kd.R_lower (Kd.R_new' (Kd.R_new' ho0 (Kd.R_lt (kr_ HO_5.out))) (Kd.R_lt (kr_ HO_6.out))) (below_size hb_))
       have n3_ := Aside0.mk (blk_below (g := gb354) (o := .cells #[.int .i64 a0_0, .int .i64 a0_1, .int .i64 a0_2] 29 (0, 0)) (kb_ BK354.out) hb)
       have n4_ := Aside0.mk (below_step hb_ hb)
       clear HO_5
       clear HO_6
       clear BK354
       clear HB
       have HO_5 := n0_
       have HO_6 := n1_
       have HO369 := n2_
       have BK354 := n3_
       have HB := n4_
       clear n0_ n1_ n2_ n3_ n4_
       (try clear hb)
       (try clear hb2)
       (try clear hk)
       (try clear hi)
       (try clear ho0)
       obtain ⟨Ao25, co25, eo25⟩ := Kd.R_slice HO369.out
       (first | subst eo25 | (injection eo25 with f1_ f2_ f3_; have f4_ := f1_.symm; have f5_ := f3_.symm; clear f1_ f2_ f3_; subst f4_; subst f5_))
       refine hK.out _ _ ⟨(blk_cell BK354.out 0).trans rfl, (blk_cell BK354.out 1).trans rfl, (blk_cell BK354.out 2).trans rfl, HS3_⟩ (fun hHeld => ?_)
       clear hK K
       refine norm_ (a' := ?_) ?_ ?_
       rotate_left
       ·show Act.put _ (some 32) _ = _
        simp only [Act.put, List.setIfInBounds_toArray, List.set_cons_zero, List.set_cons_succ, i64_w, i32_w]
        rfl
       refine pure_ (i := 6) (N := some 33) (v := ?_) (a' := ?_) #[true, true, true, true, true, true, true, true] rfl rfl (any_of HT_.out (by kernel_rfl)) (fun _ _ _ h => h) (Or.inl ⟨by rfl, ?_⟩) ?_ ?_
       rotate_left
       ·intro w'
        go_simp
        with_reducible rfl
       rotate_left
       ·simp only [Act.put, List.setIfInBounds_toArray, List.set_cons_zero, List.set_cons_succ, i64_w, i32_w]
        rfl
       refine done_ (done_of HT_.out (by kernel_rfl)) ?_
       try go_wp2
       go_loopg [6, 34] k1 (fun kq v6 v34 w' => ∃ (x5_2 : List Int) (x6_2 : List Int) (x34_2 : Int), v34 = .int .i64 x34_2 ∧ Aside0 (impl_distances.l1 kq x5_2 x6_2 x7_1 t367 (t367.length : Int) x34_2 a0_0 a0_1 a0_2 = some r) ∧ Aside0 (kq ≤ k1) ∧ Aside0 (Kd.R (Kd.int .i64) 3 w' w.heap.size (fun k_ => some k_ ≠ (v6 : Value).ownBlock ∧ some k_ ≠ ((.slice Ao25 t367.length co25) : Value).ownBlock) (.slice (some ⟨go7, 0, none⟩) x5_1.length co7) x5_2) ∧ Aside0 (Kd.R (Kd.int .i64) 3 w' w.heap.size (fun k_ => some k_ ≠ ((.slice (some ⟨go7, 0, none⟩) x5_1.length co7) : Value).ownBlock ∧ some k_ ≠ ((.slice Ao25 t367.length co25) : Value).ownBlock) v6 x6_2) ∧ Aside0 (Kd.R (Kd.int .i64) 3 w' w.heap.size (fun k_ => some k_ ≠ ((.slice (some ⟨go7, 0, none⟩) x5_1.length co7) : Value).ownBlock ∧ some k_ ≠ (v6 : Value).ownBlock) (.slice Ao25 t367.length co25) t367) ∧ Aside0 (w'.heap[gb354]? = some (.cells #[.int .i64 a0_0, .int .i64 a0_1, .int .i64 a0_2] 29 (0, 0))) ∧ Aside0 (Below w.heap.size w w'))
       case atStart => exact ⟨(x5_1), (x6_1), (0), (by first | rfl | (simp; done) | (simp [*]; done)), H', ⟨Nat.le_refl _⟩, ⟨by (try simp only [hl5_1]); (with_reducible repeat (first | apply Kd.R_alloc | apply Kd.R_drewN | apply Kd.R_drew)); exact HO_5.out⟩, ⟨by (try simp only [hl5_1]); (with_reducible repeat (first | apply Kd.R_alloc | apply Kd.R_drewN | apply Kd.R_drew)); exact HO_6.out⟩, ⟨by (try simp only [hl5_1]); (with_reducible repeat (first | apply Kd.R_alloc | apply Kd.R_drewN | apply Kd.R_drew)); exact Kd.R_mono HO369.out (fun _ hk => ⟨hk.1.2, hk.2⟩)⟩, ⟨by (try simp only [hl5_1]); (with_reducible repeat (first | refine blk_drewN ?_ _ | refine blk_drew ?_ | refine blk_alloc ?_ _)); exact BK354.out⟩, ⟨hb_⟩⟩
       case round =>
        clear H'
        try clear c1
        try clear c2
        try clear p2
        try clear c3
        try clear p3
        try clear q3
        try clear hx3
        try clear c4
        try clear c5
        try clear c5b0
        try clear c6
        try clear c6b0
        try clear c7
        try clear p7
        try clear q7
        try clear hx7
        try clear hf7
        try clear c19
        try clear c19b0
        try clear c20
        try clear c20b0
        try clear hcz11_0
        try clear hcz11_1
        try clear hcz11_2
        try clear hfz11_0
        try clear hfz11_1
        try clear hfz11_2
        try clear hx366_0
        try clear hx7_0
        try clear p2
        try clear p366
        try clear p7
        try clear q366
        try clear q7
        obtain ⟨x5_2, x6_2, x34_2, rfl, HA, HK2, HO_5, HO_6, HO_32, BK354, HB⟩ := hrel
        have hl5_2 := (Kd.R_reads' HO_5.out).1
        rw [hl5_2] at HO_5
        (try simp only [hl5_2])
        (try simp only [hl5_2] at BK354)
        (try simp only [hl5_2] at HO_6)
        (try simp only [hl5_2] at HO_32)
        cases gk with
        | zero => exact absurd HA.out (by simp [impl_distances.l1])
        | succ k2 =>
         have H := HA.out
         clear HA
         simp only [impl_distances.l1] at H
         by_cases c26 : x34_2 < (t367.length : Int)
         ·rw [if_pos c26] at H
          have c26b0 : decide (x34_2 < (t367.length : Int)) = true := decide_eq_true c26
          clear c26
          by_cases c27 : 0 ≤ x34_2
          ·rw [if_pos c27] at H
           have c27b0 : decide (0 ≤ x34_2) = true := decide_eq_true c27
           clear c27
           by_cases c28 : x34_2 < (t367.length : Int)
           ·rw [if_pos c28] at H
            have c28b0 : decide (x34_2 < (t367.length : Int)) = true := decide_eq_true c28
            clear c28
            by_cases c29 : 0 ≤ x7_1
            ·rw [if_pos c29] at H
             have c29b0 : decide (0 ≤ x7_1) = true := decide_eq_true c29
             clear c29
             by_cases c30 : x7_1 < (x6_2.length : Int)
             ·rw [if_pos c30] at H
              have c30b0 : decide (x7_1 < (x6_2.length : Int)) = true := decide_eq_true c30
              clear c30
              replace H := Option.bind_eq_some_iff.mp H
              obtain ⟨t372, A310, H⟩ := H
              replace H : (if 0 ≤ t372 then (if t372 < (x5_2.length : Int) then (if (rd x5_2 t372) < 0 then (if 0 ≤ (rd x6_2 x7_1) then (if (rd x6_2 x7_1) < (x5_2.length : Int) then (if x6_2.length < 17592186044416 then (impl_distances.l1 k2 (x5_2.set (t372 : Int).toNat (wrap64 ((rd x5_2 (rd x6_2 x7_1)) + 1))) (x6_2 ++ [t372]) x7_1 t367 (t367.length : Int) (wrap64 (x34_2 + 1)) a0_0 a0_1 a0_2) else (none)) else (none)) else (none)) else (impl_distances.l1 k2 x5_2 x6_2 x7_1 t367 (t367.length : Int) (wrap64 (x34_2 + 1)) a0_0 a0_1 a0_2)) else (none)) else (none)) = some r := H
              have A31 := Aside0.mk A310
              clear A310
              by_cases c32 : 0 ≤ t372
              ·rw [if_pos c32] at H
               have c32b0 : decide (0 ≤ t372) = true := decide_eq_true c32
               clear c32
               by_cases c33 : t372 < (x5_2.length : Int)
               ·rw [if_pos c33] at H
                have c33b0 : decide (t372 < (x5_2.length : Int)) = true := decide_eq_true c33
                clear c33
                by_cases c34 : (rd x5_2 t372) < 0
                ·rw [if_pos c34] at H
                 have c34b0 : decide ((rd x5_2 t372) < 0) = true := decide_eq_true c34
                 clear c34
                 by_cases c35 : 0 ≤ (rd x6_2 x7_1)
                 ·rw [if_pos c35] at H
                  have c35b0 : decide (0 ≤ (rd x6_2 x7_1)) = true := decide_eq_true c35
                  clear c35
                  by_cases c36 : (rd x6_2 x7_1) < (x5_2.length : Int)
                  ·rw [if_pos c36] at H
                   have c36b0 : decide ((rd x6_2 x7_1) < (x5_2.length : Int)) = true := decide_eq_true c36
                   clear c36
                   obtain ⟨y376, hy376⟩ : ∃ y_ : List Int, y_ = (x5_2.set (t372 : Int).toNat (wrap64 ((rd x5_2 (rd x6_2 x7_1)) + 1))) := ⟨_, rfl⟩
                   replace H : (if x6_2.length < 17592186044416 then (impl_distances.l1 k2 y376 (x6_2 ++ [t372]) x7_1 t367 (t367.length : Int) (wrap64 (x34_2 + 1)) a0_0 a0_1 a0_2) else (none)) = some r := by first | (rw [hy376]; with_reducible exact H) | (have H2_ := (Option.bind_some _ _).symm.trans H; rw [hy376]; with_reducible exact H2_) | (have H2_ := (Option.bind_some _ _).symm.trans H; with_reducible exact H2_) | with_reducible exact H | (rw [hy376]; exact H) | exact H
                   have Ny376 := Aside0.mk hy376
                   clear hy376
                   by_cases c38 : x6_2.length < 17592186044416
                   ·rw [if_pos c38] at H
                    have LMc38 := Aside0.mk c38
                    clear c38
                    obtain ⟨y377, hy377⟩ : ∃ y_ : List Int, y_ = (x6_2 ++ [t372]) := ⟨_, rfl⟩
                    replace H : (impl_distances.l1 k2 y376 y377 x7_1 t367 (t367.length : Int) (wrap64 (x34_2 + 1)) a0_0 a0_1 a0_2) = some r := by first | (rw [hy377]; with_reducible exact H) | (have H2_ := (Option.bind_some _ _).symm.trans H; rw [hy377]; with_reducible exact H2_) | (have H2_ := (Option.bind_some _ _).symm.trans H; with_reducible exact H2_) | with_reducible exact H | (rw [hy377]; exact H) | exact H
                    have Ny377 := Aside0.mk hy377
                    clear hy377
                    have H' := Aside0.mk H
                    clear H
                    have p370 : 0 ≤ (x34_2 : Int) := of_decide_eq_true (by first | (with_reducible assumption) | assumption)
                    have q370 : x34_2 < (t367.length : Int) := of_decide_eq_true (by first | (with_reducible assumption) | assumption)
                    obtain ⟨ad370, e370, hx370_0⟩ := Kd.at_int (Kd.R_reads' HO_32.out).2.2 x34_2 p370 q370
                    cases e370
                    replace p370 := eq_true p370
                    replace q370 := eq_true q370
                    try go_wp2
                    have n0_ := Aside0.mk (Kd.R_drew HO_5.out)
                    have n1_ := Aside0.mk (Kd.R_drew HO_6.out)
                    have n2_ := Aside0.mk (Kd.R_drew HO_32.out)
                    have n3_ := Aside0.mk (blk_drew BK354.out)
                    have n4_ := Aside0.mk (below_drew1 HB.out)
                    clear HO_5
                    clear HO_6
                    clear HO_32
                    clear BK354
                    clear HB
                    have HO_5 := n0_
                    have HO_6 := n1_
                    have HO_32 := n2_
                    have BK354 := n3_
                    have HB := n4_
                    clear n0_ n1_ n2_ n3_ n4_
                    obtain ⟨Ao40, co40, eo40⟩ := Kd.R_slice HO_6.out
                    (first | subst eo40 | (injection eo40 with f1_ f2_ f3_; have f4_ := f1_.symm; have f5_ := f3_.symm; clear f1_ f2_ f3_; subst f4_; subst f5_))
                    have p371 : 0 ≤ (x7_1 : Int) := of_decide_eq_true (by first | (with_reducible assumption) | assumption)
                    have q371 : x7_1 < (x6_2.length : Int) := of_decide_eq_true (by first | (with_reducible assumption) | assumption)
                    obtain ⟨ad371, e371, hx371_0⟩ := Kd.at_int (Kd.R_reads' HO_6.out).2.2 x7_1 p371 q371
                    cases e371
                    replace p371 := eq_true p371
                    replace q371 := eq_true q371
                    refine start_ (n := 8) (S := fun w' => w'.cell? ⟨gb354, 0, none⟩ = some (.int .i64 a0_0) ∧ w'.cell? ⟨gb354, 1, none⟩ = some (.int .i64 a0_1) ∧ w'.cell? ⟨gb354, 2, none⟩ = some (.int .i64 a0_2) ∧ w'.cell? (ad371.add (x7_1).toNat) = some (.int .i64 (rd x6_2 x7_1))) (ds := []) #[false, false, false, false, false, false, false, false] (by kernel_rfl) rfl rfl ⟨(blk_cell BK354.out 0).trans rfl, (blk_cell BK354.out 1).trans rfl, (blk_cell BK354.out 2).trans rfl, hx371_0⟩ (fun hHeld => ?_); refine with_tabW impl_distances.tab10 impl_distances.bits10 (fun HT_ HW_ => ?_)
                    generalize wr.drew = w39 at HO_5 HO_6 HO_32 BK354 HB hx371_0 hHeld ⊢
                    refine pure_ (i := 1) (N := some 39) (v := ?_) (a' := ?_) #[false, true, false, false, false, false, false, false] rfl rfl (any_of HT_.out (by kernel_rfl)) (fun _ _ _ h => h) (Or.inl ⟨by rfl, ?_⟩) ?_ ?_
                    rotate_left
                    ·intro w'
                     go_simp
                     with_reducible rfl
                    rotate_left
                    ·simp only [Act.put, List.setIfInBounds_toArray, List.set_cons_zero, List.set_cons_succ, i64_w, i32_w]
                     rfl
                    refine pure_ (i := 2) (N := some 40) (v := ?_) (a' := ?_) #[false, true, true, false, false, false, false, false] rfl rfl (any_of HT_.out (by kernel_rfl)) (fun _ _ _ h => h) (Or.inl ⟨by rfl, ?_⟩) ?_ ?_
                    rotate_left
                    ·intro w'
                     go_simp
                     with_reducible rfl
                    rotate_left
                    ·simp only [Act.put, List.setIfInBounds_toArray, List.set_cons_zero, List.set_cons_succ, i64_w, i32_w]
                     rfl
                    refine pure_ (i := 3) (N := some 41) (v := ?_) (a' := ?_) #[false, true, true, true, false, false, false, false] rfl rfl (any_of HT_.out (by kernel_rfl)) (fun _ _ _ h => h) (Or.inl ⟨by rfl, ?_⟩) ?_ ?_
                    rotate_left
                    ·intro w'
                     go_simp
                     with_reducible rfl
                    rotate_left
                    ·simp only [Act.put, List.setIfInBounds_toArray, List.set_cons_zero, List.set_cons_succ, i64_w, i32_w]
                     rfl
                    refine pure_ (i := 5) (N := some 43) (v := ?_) (a' := ?_) #[false, true, true, true, false, true, false, false] rfl rfl (any_of HT_.out (by kernel_rfl)) (fun _ _ _ h => h) (Or.inl ⟨by rfl, ?_⟩) ?_ ?_
                    rotate_left
                    ·intro w'
                     go_simp
                     with_reducible rfl
                    rotate_left
                    ·simp only [Act.put, List.setIfInBounds_toArray, List.set_cons_zero, List.set_cons_succ, i64_w, i32_w]
                     rfl
                    refine take_ (i := 0) (N := some 38) (v := ?_) (a' := ?_) #[true, true, true, true, false, true, false, false] rfl rfl (take_ofW HT_.out HW_.out (by kernel_rfl)) (fun _ _ _ h => h) (Or.inl ⟨by rfl, ?_⟩) hHeld ?_ ?_
                    rotate_left
                    ·rintro w' ⟨s0, s1, s2, s3⟩
                     go_simp
                     with_reducible rfl
                    rotate_left
                    ·simp only [Act.put, List.setIfInBounds_toArray, List.set_cons_zero, List.set_cons_succ, i64_w, i32_w]
                     rfl
                    refine take_ (i := 4) (N := some 42) (v := ?_) (a' := ?_) #[true, true, true, true, true, true, false, false] rfl rfl (take_ofW HT_.out HW_.out (by kernel_rfl)) (fun _ _ _ h => h) (Or.inl ⟨by rfl, ?_⟩) hHeld ?_ ?_
                    rotate_left
                    ·rintro w' ⟨s0, s1, s2, s3⟩
                     go_simp
                     with_reducible rfl
                    rotate_left
                    ·simp only [Act.put, List.setIfInBounds_toArray, List.set_cons_zero, List.set_cons_succ, i64_w, i32_w]
                     rfl
                    refine one_ (i := 6) (N := some 44) #[true, true, true, true, true, true, true, false] rfl rfl (one_of HT_.out (by kernel_rfl)) (by decide) (fun K hK => ?_)
                    refine goes_ Try.func61 (by kernel_rfl) rfl #[.agg #[.int .i64 a0_0, .int .i64 a0_1, .int .i64 a0_2], .int .i64 (rd x6_2 x7_1), .int .i64 (rd t367 x34_2)] (by rfl) rfl rfl mp_ ?_
                    with_reducible refine (impl_Step.calls k2 a0_0 a0_1 a0_2 (rd x6_2 x7_1) (rd t367 x34_2) t372 _ A31.out).mono ?_
                    rintro e w41 ⟨rfl, hb⟩
                    have HS3_ := (hb.cell (World.block_lt_of_cell? _ _ (hHeld.2.2.2))).trans (hHeld.2.2.2)
                    refine ⟨_, rfl, ?_⟩
                    have n0_ := Aside0.mk (Kd.R_below (kr_ HO_5.out) hb)
                    have n1_ := Aside0.mk (Kd.R_below (kr_ HO_6.out) hb)
                    have n2_ := Aside0.mk (Kd.R_below (kr_ HO_32.out) hb)
                    have n3_ := Aside0.mk (blk_below (g := gb354) (o := .cells #[.int .i64 a0_0, .int .i64 a0_1, .int .i64 a0_2] 29 (0, 0)) (kb_ BK354.out) hb)
                    have n4_ := Aside0.mk (below_step hb_ hb)
                    clear HO_5
                    clear HO_6
                    clear HO_32
                    clear BK354
                    clear HB
                    have HO_5 := n0_
                    have HO_6 := n1_
                    have HO_32 := n2_
                    have BK354 := n3_
                    have HB := n4_
                    clear n0_ n1_ n2_ n3_ n4_
                    (try clear hb)
                    (try clear hb2)
                    (try clear hk)
                    (try clear hi)
                    refine hK.out _ _ ⟨(blk_cell BK354.out 0).trans rfl, (blk_cell BK354.out 1).trans rfl, (blk_cell BK354.out 2).trans rfl, HS3_⟩ (fun hHeld => ?_)
                    clear hK K
                    refine norm_ (a' := ?_) ?_ ?_
                    rotate_left
                    ·show Act.put _ (some 44) _ = _
                     simp only [Act.put, List.setIfInBounds_toArray, List.set_cons_zero, List.set_cons_succ, i64_w, i32_w]
                     rfl
                    refine pure_ (i := 7) (N := some 10) (v := ?_) (a' := ?_) #[true, true, true, true, true, true, true, true] rfl rfl (any_of HT_.out (by kernel_rfl)) (fun _ _ _ h => h) (Or.inl ⟨by rfl, ?_⟩) ?_ ?_
                    rotate_left
                    ·intro w'
                     go_simp
                     with_reducible rfl
                    rotate_left
                    ·simp only [Act.put, List.setIfInBounds_toArray, List.set_cons_zero, List.set_cons_succ, i64_w, i32_w]
                     rfl
                    refine done_ (done_of HT_.out (by kernel_rfl)) ?_
                    have p373 : 0 ≤ (t372 : Int) := of_decide_eq_true (by first | (with_reducible assumption) | assumption)
                    have q373 : t372 < (x5_2.length : Int) := of_decide_eq_true (by first | (with_reducible assumption) | assumption)
                    obtain ⟨ad373, e373, hx373_0⟩ := Kd.at_int (Kd.R_reads' HO_5.out).2.2 t372 p373 q373
                    obtain rfl : (⟨go7, 0, none⟩ : Addr) = ad373 := (by injection e373)
                    (first | simp only [add_plain] at hx373_0 | simp only [add_at] at hx373_0 | simp only [Addr.add, Nat.zero_add] at hx373_0 | skip)
                    replace p373 := eq_true p373
                    replace q373 := eq_true q373
                    have p374 : 0 ≤ (x7_1 : Int) := of_decide_eq_true (by first | (with_reducible assumption) | assumption)
                    have q374 : x7_1 < (x6_2.length : Int) := of_decide_eq_true (by first | (with_reducible assumption) | assumption)
                    obtain ⟨ad374, e374, hx374_0⟩ := Kd.at_int (Kd.R_reads' HO_6.out).2.2 x7_1 p374 q374
                    obtain rfl : ad371 = ad374 := (by injection e374)
                    replace p374 := eq_true p374
                    replace q374 := eq_true q374
                    have p375 : 0 ≤ ((rd x6_2 x7_1) : Int) := of_decide_eq_true (by first | (with_reducible assumption) | assumption)
                    have q375 : (rd x6_2 x7_1) < (x5_2.length : Int) := of_decide_eq_true (by first | (with_reducible assumption) | assumption)
                    obtain ⟨ad375, e375, hx375_0⟩ := Kd.at_int (Kd.R_reads' HO_5.out).2.2 (rd x6_2 x7_1) p375 q375
                    obtain rfl : (⟨go7, 0, none⟩ : Addr) = ad375 := (by injection e375)
                    (first | simp only [add_plain] at hx375_0 | simp only [add_at] at hx375_0 | simp only [Addr.add, Nat.zero_add] at hx375_0 | skip)
                    replace p375 := eq_true p375
                    replace q375 := eq_true q375
                    have p37 : 0 ≤ (t372 : Int) := of_decide_eq_true (by first | (with_reducible assumption) | assumption)
                    have q37 : (t372 : Int) < ((x5_2.length : Int) : Int) := of_decide_eq_true (by first | (with_reducible assumption) | assumption)
                    obtain ⟨hx37_0, hf37_0⟩ := Kd.R_celln 0 HO_5.out (t372 : Int) p37 q37
                    replace p37 := eq_true p37
                    replace q37 := eq_true q37
                    obtain ⟨hy42_, hz42_⟩ := Kd.R_celln 0 HO_5.out (t372 : Int) (of_decide_eq_true (by first | (with_reducible assumption) | assumption)) (of_decide_eq_true (by first | (with_reducible assumption) | assumption))
                    have HP42 := Kd.R_putg HO_5.out (t372 : Int) (wrap64 ((rd x5_2 (rd x6_2 x7_1)) + 1))
                    try go_wp2_with (first | ((with_reducible refine gate_store (t := 3) (p := 60) rfl ?_); refine store_event (t := 3) (p := 60) (v := ?vo_w43) (w1 := (w41.setCell ⟨go7, (t372 : Int).toNat, none⟩ (.int .i64 (wrap64 ((rd x5_2 (rd x6_2 x7_1)) + 1))))) ?hg ?ho ?hn ?hr ?_; (case ho => rfl); (case hg => rfl); (case hn => rfl); (case hr => first | (go_simp; done) | (go_simp; rfl)); intro w43 hw; have hg : w41.grownBy w43 (some go7) := (by rw [hw]; exact HP42.2); have hp_ : Kd.R (Kd.int .i64) 3 w43 w.heap.size (fun k_ => some k_ ≠ (.slice (some ad371) x6_2.length co40 : Value).ownBlock ∧ some k_ ≠ (.slice (some ad370) t367.length co25 : Value).ownBlock) (.slice (some ⟨go7, 0, none⟩) x5_2.length co7) y376 := (by rw [hw, Ny376.out]; exact HP42.1); clear HP42; have n0_ := Aside0.mk (hp_); have n1_ := Aside0.mk (Kd.R_after (v := (.slice (some ⟨go7, 0, none⟩) x5_2.length co7)) (v1 := (.slice (some ⟨go7, 0, none⟩) x5_2.length co7)) (ok := (fun k_ => some k_ ≠ (.slice (some ad370) t367.length co25 : Value).ownBlock)) (by (with_reducible repeat (first | apply Kd.R_alloc | apply Kd.R_drewN | apply Kd.R_drew)); exact Kd.R_mono HO_6.out (fun _ hk => ⟨hk.2, hk.1⟩)) hg (.inl rfl)); have n2_ := Aside0.mk (Kd.R_after (v := (.slice (some ⟨go7, 0, none⟩) x5_2.length co7)) (v1 := (.slice (some ⟨go7, 0, none⟩) x5_2.length co7)) (ok := (fun k_ => some k_ ≠ (.slice (some ad371) x6_2.length co40 : Value).ownBlock)) (by (with_reducible repeat (first | apply Kd.R_alloc | apply Kd.R_drewN | apply Kd.R_drew)); exact Kd.R_mono HO_32.out (fun _ hk => ⟨hk.2, hk.1⟩)) hg (.inl rfl)); have n3_ := Aside0.mk (blk_grown (g := gb354) (o := .cells #[.int .i64 a0_0, .int .i64 a0_1, .int .i64 a0_2] 29 (0, 0)) (kb_ BK354.out) hg (Kd.R_ne HO_5.out BK354.out (by decide))); have n4_ := Aside0.mk ((by rw [hw]; exact below_set (HB.out) GB7.out : Below w.heap.size w w43)); clear HO_5; clear HO_6; clear HO_32; clear BK354; clear HB; have HO_5 := n0_; have HO_6 := n1_; have HO_32 := n2_; have BK354 := n3_; have HB := n4_; clear n0_ n1_ n2_ n3_ n4_; clear hg hw hp_) | ((with_reducible refine gate_builtin (b := .append) (xs := #[.tmp 61, .tmp 63]) rfl ?_); at_builtin; refine Kd.R_append (Kd.int .i64) (w0 := w) w.heap.size rfl (.tmp 61) (.tmp 63) 26 3 (.int .i64 0) 8 rfl Try.underlying26 info3 rfl (by decide) (by omega) (.slice (some ad371) x6_2.length co40) x6_2 t372 [.int .i64 t372] (fun k_ => some k_ ≠ (.slice (some ⟨go7, 0, none⟩) x5_2.length co7 : Value).ownBlock ∧ some k_ ≠ (.slice (some ad370) t367.length co25 : Value).ownBlock) (fun _ => False) rfl rfl ?aP (fun _ hk => hk.elim) ?aF ?aO ?aB ?aS ?aL ?_; (case aP => exact rfl); (case aB => exact hb_); (case aF => exact (fun k_ hk => ⟨Kd.fresh' (Kd.R_lt (kr_ HO_5.out)) k_ hk, Kd.fresh' (Kd.R_lt (kr_ HO_32.out)) k_ hk⟩)); (case aO => exact (by (with_reducible repeat (first | apply Kd.R_alloc | apply Kd.R_drewN | apply Kd.R_drew)); exact Kd.R_mono HO_6.out (fun _ hk => ⟨hk.2, hk.1⟩))); (case aS => exact (below_size hb_)); (case aL => have := LMc38.out; omega); intro v378 w44 ho hb hg hat; rw [← Ny377.out] at ho; have n0_ := Aside0.mk (Kd.R_after (ok := (fun k_ => some k_ ≠ (.slice (some ad370) t367.length co25 : Value).ownBlock)) (by (with_reducible repeat (first | apply Kd.R_alloc | apply Kd.R_drewN | apply Kd.R_drew)); exact Kd.R_mono HO_5.out (fun _ hk => ⟨hk.2, hk.1⟩)) hg hat); have n1_ := Aside0.mk (Kd.R_after (ok := (fun k_ => some k_ ≠ (.slice (some ⟨go7, 0, none⟩) x5_2.length co7 : Value).ownBlock)) (by (with_reducible repeat (first | apply Kd.R_alloc | apply Kd.R_drewN | apply Kd.R_drew)); exact Kd.R_mono HO_32.out (fun _ hk => ⟨hk.2, hk.1⟩)) hg hat); have n2_ := Aside0.mk (blk_grown (g := gb354) (o := .cells #[.int .i64 a0_0, .int .i64 a0_1, .int .i64 a0_2] 29 (0, 0)) (kb_ BK354.out) hg (Kd.R_ne HO_6.out BK354.out (by decide))); have n3_ := Aside0.mk (hb); have n4_ := Aside0.mk (ho); clear HO_5; clear HO_32; clear BK354; clear HB; clear HO_6; have HO_5 := n0_; have HO_32 := n1_; have BK354 := n2_; have HB := n3_; have HO379 := n4_; clear n0_ n1_ n2_ n3_ n4_; clear ho hb hg hat))
                    (try simp only [← hl5_2])
                    go_roundg k2
                    case measure => have := HK1.out; have := HK2.out; omega
                    case rel => exact ⟨(y376), (y377), (wrap64 (x34_2 + 1)), (by first | rfl | (simp; done) | (simp [*]; done)), H', ⟨by have := HK1.out; have := HK2.out; omega⟩, ⟨by (try simp only [hl5_1]); (try simp only [hl5_2]); (with_reducible repeat (first | apply Kd.R_alloc | apply Kd.R_drewN | apply Kd.R_drew)); exact Kd.R_mono HO_5.out (fun _ hk => ⟨hk.2, hk.1⟩)⟩, ⟨by (try simp only [hl5_1]); (try simp only [hl5_2]); (with_reducible repeat (first | apply Kd.R_alloc | apply Kd.R_drewN | apply Kd.R_drew)); exact HO379.out⟩, ⟨by (try simp only [hl5_1]); (try simp only [hl5_2]); (with_reducible repeat (first | apply Kd.R_alloc | apply Kd.R_drewN | apply Kd.R_drew)); exact HO_32.out⟩, ⟨by (try simp only [hl5_1]); (try simp only [hl5_2]); (with_reducible repeat (first | refine blk_drewN ?_ _ | refine blk_drew ?_ | refine blk_alloc ?_ _)); exact BK354.out⟩, ⟨hb_⟩⟩
                   ·rw [if_neg c38] at H
                    exact absurd H (by simp)
                  ·rw [if_neg c36] at H
                   exact absurd H (by simp)
                 ·rw [if_neg c35] at H
                  exact absurd H (by simp)
                ·rw [if_neg c34] at H
                 have c34b0 : decide ((rd x5_2 t372) < 0) = false := decide_eq_false c34
                 clear c34
                 have H' := Aside0.mk H
                 clear H
                 have p370 : 0 ≤ (x34_2 : Int) := of_decide_eq_true (by first | (with_reducible assumption) | assumption)
                 have q370 : x34_2 < (t367.length : Int) := of_decide_eq_true (by first | (with_reducible assumption) | assumption)
                 obtain ⟨ad370, e370, hx370_0⟩ := Kd.at_int (Kd.R_reads' HO_32.out).2.2 x34_2 p370 q370
                 cases e370
                 replace p370 := eq_true p370
                 replace q370 := eq_true q370
                 try go_wp2
                 have n0_ := Aside0.mk (Kd.R_drew HO_5.out)
                 have n1_ := Aside0.mk (Kd.R_drew HO_6.out)
                 have n2_ := Aside0.mk (Kd.R_drew HO_32.out)
                 have n3_ := Aside0.mk (blk_drew BK354.out)
                 have n4_ := Aside0.mk (below_drew1 HB.out)
                 clear HO_5
                 clear HO_6
                 clear HO_32
                 clear BK354
                 clear HB
                 have HO_5 := n0_
                 have HO_6 := n1_
                 have HO_32 := n2_
                 have BK354 := n3_
                 have HB := n4_
                 clear n0_ n1_ n2_ n3_ n4_
                 obtain ⟨Ao46, co46, eo46⟩ := Kd.R_slice HO_6.out
                 (first | subst eo46 | (injection eo46 with f1_ f2_ f3_; have f4_ := f1_.symm; have f5_ := f3_.symm; clear f1_ f2_ f3_; subst f4_; subst f5_))
                 have p371 : 0 ≤ (x7_1 : Int) := of_decide_eq_true (by first | (with_reducible assumption) | assumption)
                 have q371 : x7_1 < (x6_2.length : Int) := of_decide_eq_true (by first | (with_reducible assumption) | assumption)
                 obtain ⟨ad371, e371, hx371_0⟩ := Kd.at_int (Kd.R_reads' HO_6.out).2.2 x7_1 p371 q371
                 cases e371
                 replace p371 := eq_true p371
                 replace q371 := eq_true q371
                 refine start_ (n := 8) (S := fun w' => w'.cell? ⟨gb354, 0, none⟩ = some (.int .i64 a0_0) ∧ w'.cell? ⟨gb354, 1, none⟩ = some (.int .i64 a0_1) ∧ w'.cell? ⟨gb354, 2, none⟩ = some (.int .i64 a0_2) ∧ w'.cell? (ad371.add (x7_1).toNat) = some (.int .i64 (rd x6_2 x7_1))) (ds := []) #[false, false, false, false, false, false, false, false] (by kernel_rfl) rfl rfl ⟨(blk_cell BK354.out 0).trans rfl, (blk_cell BK354.out 1).trans rfl, (blk_cell BK354.out 2).trans rfl, hx371_0⟩ (fun hHeld => ?_); refine with_tabW impl_distances.tab10 impl_distances.bits10 (fun HT_ HW_ => ?_)
                 generalize wr.drew = w45 at HO_5 HO_6 HO_32 BK354 HB hx371_0 hHeld ⊢
                 refine pure_ (i := 1) (N := some 39) (v := ?_) (a' := ?_) #[false, true, false, false, false, false, false, false] rfl rfl (any_of HT_.out (by kernel_rfl)) (fun _ _ _ h => h) (Or.inl ⟨by rfl, ?_⟩) ?_ ?_
                 rotate_left
                 ·intro w'
                  go_simp
                  with_reducible rfl
                 rotate_left
                 ·simp only [Act.put, List.setIfInBounds_toArray, List.set_cons_zero, List.set_cons_succ, i64_w, i32_w]
                  rfl
                 refine pure_ (i := 2) (N := some 40) (v := ?_) (a' := ?_) #[false, true, true, false, false, false, false, false] rfl rfl (any_of HT_.out (by kernel_rfl)) (fun _ _ _ h => h) (Or.inl ⟨by rfl, ?_⟩) ?_ ?_
                 rotate_left
                 ·intro w'
                  go_simp
                  with_reducible rfl
                 rotate_left
                 ·simp only [Act.put, List.setIfInBounds_toArray, List.set_cons_zero, List.set_cons_succ, i64_w, i32_w]
                  rfl
                 refine pure_ (i := 3) (N := some 41) (v := ?_) (a' := ?_) #[false, true, true, true, false, false, false, false] rfl rfl (any_of HT_.out (by kernel_rfl)) (fun _ _ _ h => h) (Or.inl ⟨by rfl, ?_⟩) ?_ ?_
                 rotate_left
                 ·intro w'
                  go_simp
                  with_reducible rfl
                 rotate_left
                 ·simp only [Act.put, List.setIfInBounds_toArray, List.set_cons_zero, List.set_cons_succ, i64_w, i32_w]
                  rfl
                 refine pure_ (i := 5) (N := some 43) (v := ?_) (a' := ?_) #[false, true, true, true, false, true, false, false] rfl rfl (any_of HT_.out (by kernel_rfl)) (fun _ _ _ h => h) (Or.inl ⟨by rfl, ?_⟩) ?_ ?_
                 rotate_left
                 ·intro w'
                  go_simp
                  with_reducible rfl
                 rotate_left
                 ·simp only [Act.put, List.setIfInBounds_toArray, List.set_cons_zero, List.set_cons_succ, i64_w, i32_w]
                  rfl
                 refine take_ (i := 0) (N := some 38) (v := ?_) (a' := ?_) #[true, true, true, true, false, true, false, false] rfl rfl (take_ofW HT_.out HW_.out (by kernel_rfl)) (fun _ _ _ h => h) (Or.inl ⟨by rfl, ?_⟩) hHeld ?_ ?_
                 rotate_left
                 ·rintro w' ⟨s0, s1, s2, s3⟩
                  go_simp
                  with_reducible rfl
                 rotate_left
                 ·simp only [Act.put, List.setIfInBounds_toArray, List.set_cons_zero, List.set_cons_succ, i64_w, i32_w]
                  rfl
                 refine take_ (i := 4) (N := some 42) (v := ?_) (a' := ?_) #[true, true, true, true, true, true, false, false] rfl rfl (take_ofW HT_.out HW_.out (by kernel_rfl)) (fun _ _ _ h => h) (Or.inl ⟨by rfl, ?_⟩) hHeld ?_ ?_
                 rotate_left
                 ·rintro w' ⟨s0, s1, s2, s3⟩
                  go_simp
                  with_reducible rfl
                 rotate_left
                 ·simp only [Act.put, List.setIfInBounds_toArray, List.set_cons_zero, List.set_cons_succ, i64_w, i32_w]
                  rfl
                 refine one_ (i := 6) (N := some 44) #[true, true, true, true, true, true, true, false] rfl rfl (one_of HT_.out (by kernel_rfl)) (by decide) (fun K hK => ?_)
                 refine goes_ Try.func61 (by kernel_rfl) rfl #[.agg #[.int .i64 a0_0, .int .i64 a0_1, .int .i64 a0_2], .int .i64 (rd x6_2 x7_1), .int .i64 (rd t367 x34_2)] (by rfl) rfl rfl mp_ ?_
                 with_reducible refine (impl_Step.calls k2 a0_0 a0_1 a0_2 (rd x6_2 x7_1) (rd t367 x34_2) t372 _ A31.out).mono ?_
                 rintro e w47 ⟨rfl, hb⟩
                 have HS3_ := (hb.cell (World.block_lt_of_cell? _ _ (hHeld.2.2.2))).trans (hHeld.2.2.2)
                 refine ⟨_, rfl, ?_⟩
                 have n0_ := Aside0.mk (Kd.R_below (kr_ HO_5.out) hb)
                 have n1_ := Aside0.mk (Kd.R_below (kr_ HO_6.out) hb)
                 have n2_ := Aside0.mk (Kd.R_below (kr_ HO_32.out) hb)
                 have n3_ := Aside0.mk (blk_below (g := gb354) (o := .cells #[.int .i64 a0_0, .int .i64 a0_1, .int .i64 a0_2] 29 (0, 0)) (kb_ BK354.out) hb)
                 have n4_ := Aside0.mk (below_step hb_ hb)
                 clear HO_5
                 clear HO_6
                 clear HO_32
                 clear BK354
                 clear HB
                 have HO_5 := n0_
                 have HO_6 := n1_
                 have HO_32 := n2_
                 have BK354 := n3_
                 have HB := n4_
                 clear n0_ n1_ n2_ n3_ n4_
                 (try clear hb)
                 (try clear hb2)
                 (try clear hk)
                 (try clear hi)
                 refine hK.out _ _ ⟨(blk_cell BK354.out 0).trans rfl, (blk_cell BK354.out 1).trans rfl, (blk_cell BK354.out 2).trans rfl, HS3_⟩ (fun hHeld => ?_)
                 clear hK K
                 refine norm_ (a' := ?_) ?_ ?_
                 rotate_left
                 ·show Act.put _ (some 44) _ = _
                  simp only [Act.put, List.setIfInBounds_toArray, List.set_cons_zero, List.set_cons_succ, i64_w, i32_w]
                  rfl
                 refine pure_ (i := 7) (N := some 10) (v := ?_) (a' := ?_) #[true, true, true, true, true, true, true, true] rfl rfl (any_of HT_.out (by kernel_rfl)) (fun _ _ _ h => h) (Or.inl ⟨by rfl, ?_⟩) ?_ ?_
                 rotate_left
                 ·intro w'
                  go_simp
                  with_reducible rfl
                 rotate_left
                 ·simp only [Act.put, List.setIfInBounds_toArray, List.set_cons_zero, List.set_cons_succ, i64_w, i32_w]
                  rfl
                 refine done_ (done_of HT_.out (by kernel_rfl)) ?_
                 have p373 : 0 ≤ (t372 : Int) := of_decide_eq_true (by first | (with_reducible assumption) | assumption)
                 have q373 : t372 < (x5_2.length : Int) := of_decide_eq_true (by first | (with_reducible assumption) | assumption)
                 obtain ⟨ad373, e373, hx373_0⟩ := Kd.at_int (Kd.R_reads' HO_5.out).2.2 t372 p373 q373
                 obtain rfl : (⟨go7, 0, none⟩ : Addr) = ad373 := (by injection e373)
                 (first | simp only [add_plain] at hx373_0 | simp only [add_at] at hx373_0 | simp only [Addr.add, Nat.zero_add] at hx373_0 | skip)
                 replace p373 := eq_true p373
                 replace q373 := eq_true q373
                 try go_wp2
                 (try simp only [← hl5_2])
                 go_roundg k2
                 case measure => have := HK1.out; have := HK2.out; omega
                 case rel => exact ⟨(x5_2), (x6_2), (wrap64 (x34_2 + 1)), (by first | rfl | (simp; done) | (simp [*]; done)), H', ⟨by have := HK1.out; have := HK2.out; omega⟩, ⟨by (try simp only [hl5_1]); (try simp only [hl5_2]); (with_reducible repeat (first | apply Kd.R_alloc | apply Kd.R_drewN | apply Kd.R_drew)); exact HO_5.out⟩, ⟨by (try simp only [hl5_1]); (try simp only [hl5_2]); (with_reducible repeat (first | apply Kd.R_alloc | apply Kd.R_drewN | apply Kd.R_drew)); exact HO_6.out⟩, ⟨by (try simp only [hl5_1]); (try simp only [hl5_2]); (with_reducible repeat (first | apply Kd.R_alloc | apply Kd.R_drewN | apply Kd.R_drew)); exact HO_32.out⟩, ⟨by (try simp only [hl5_1]); (try simp only [hl5_2]); (with_reducible repeat (first | refine blk_drewN ?_ _ | refine blk_drew ?_ | refine blk_alloc ?_ _)); exact BK354.out⟩, ⟨hb_⟩⟩
               ·rw [if_neg c33] at H
                exact absurd H (by simp)
              ·rw [if_neg c32] at H
               exact absurd H (by simp)
             ·rw [if_neg c30] at H
              exact absurd H (by simp)
            ·rw [if_neg c29] at H
             exact absurd H (by simp)
           ·rw [if_neg c28] at H
            exact absurd H (by simp)
          ·rw [if_neg c27] at H
           exact absurd H (by simp)
         ·rw [if_neg c26] at H
          have c26b0 : decide (x34_2 < (t367.length : Int)) = false := decide_eq_false c26
          clear c26
          have H' := Aside0.mk H
          clear H
          go_wp2
          (try simp only [← hl5_1, ← hl5_2])
          go_roundg k2
          case measure => have := HK1.out; have := HK2.out; omega
          case rel => exact ⟨(x5_2), (x6_2), (wrap64 (x7_1 + 1)), (by first | rfl | (simp; done) | (simp [*]; done)), H', ⟨by have := HK1.out; have := HK2.out; omega⟩, ⟨by (try simp only [hl5_1]); (try simp only [hl5_2]); (with_reducible repeat (first | apply Kd.R_alloc | apply Kd.R_drewN | apply Kd.R_drew)); exact Kd.R_mono HO_5.out (fun _ hk => hk.1)⟩, ⟨by (try simp only [hl5_1]); (try simp only [hl5_2]); (with_reducible repeat (first | apply Kd.R_alloc | apply Kd.R_drewN | apply Kd.R_drew)); exact Kd.R_mono HO_6.out (fun _ hk => hk.1)⟩, ⟨by (try simp only [hl5_1]); (try simp only [hl5_2]); (with_reducible repeat (first | refine blk_drewN ?_ _ | refine blk_drew ?_ | refine blk_alloc ?_ _)); exact BK354.out⟩, ⟨hb_⟩⟩
      ·rw [if_neg c20] at H
       exact absurd H (by simp)
     ·rw [if_neg c19] at H
      have c19b0 : decide (x7_1 < (x6_1.length : Int)) = false := decide_eq_false c19
      clear c19
      obtain rfl := Option.some.inj H
      obtain ⟨Ao48, co48, eo48⟩ := Kd.R_slice HO_6.out
      subst eo48
      go_wp2
      go_ret
      exact ⟨_, er_, by (with_reducible repeat (first | apply Kd.R_alloc | apply Kd.R_drewN | apply Kd.R_drew)); exact Kd.R_mono HO_5.out (fun _ hk => trivial), hb_⟩
  ·rw [if_neg c6] at H
   exact absurd H (by simp)
 ·rw [if_neg c5] at H
  exact absurd H (by simp)

end Go.Proofs.Ytkldibidhjonnaa.Q
