/- Plain Lean functions of Go functions, and for each the proof that its call comes to just that answer. Conditions: in each theorem's statement. -/
import Derived.Test.YtpaecckpdaiogaaQx0
import Derived.Test.YtpaecckpdaiogaaQx32
import Derived.Test.YtpaecckpdaiogaaQx42
namespace Go.Proofs.Ytpaecckpdaiogaa.Q
open Go.RowKit Go.Proofs.YtpaecckpdaiogaaW.PrintWords Go.Proofs.YtpaecckpdaiogaaW.PrintLast
attribute [local go_sem] max2_int min2_int max_two min_two   -- for this text's walks alone
set_option linter.unusedVariables false
set_option linter.unusedSimpArgs false

/-! ### impl_DistanceOf: function 51 -/
def impl_DistanceOf.f (k : Nat) (a0_0 : Int) (a0_1 : Int) (a0_2 : Int) (a1 : Int) (a2 : Int) : Option (Int) := (impl_isIn.f a0_0 a0_1 a0_2 (([a1, a2] : List Int))).bind fun t510 => (if t510 = true then ((impl_distances.f k a0_0 a0_1 a0_2 a1).bind fun t511 => (if 0 ≤ a2 then (if a2 < (t511.length : Int) then (some (rd t511 a2)) else (none)) else (none))) else (some (-1)))
theorem impl_DistanceOf.mono : ∀ a0 a1 a2 a3 a4 k, LeO (impl_DistanceOf.f k a0 a1 a2 a3 a4) (impl_DistanceOf.f (k + 1) a0 a1 a2 a3 a4) := by
 intro a0 a1 a2 a3 a4 k
 unfold impl_DistanceOf.f
 repeat' first
   | (with_reducible exact impl_distances.mono _ _ _ _ _)
   | (with_reducible exact LeO.refl _)
   | (with_reducible exact LeO.none _)
   | (with_reducible refine LeO.ite ?_ ?_)
   | (with_reducible refine LeO.bind ?_ (fun _ => ?_))
   | exact impl_distances.mono _ _ _ _ _
   | exact LeO.none _
   | refine LeO.ite ?_ ?_
   | refine LeO.bind ?_ (fun _ => ?_)
set_option maxHeartbeats 8000000 in
set_option maxRecDepth 100000 in
theorem impl_DistanceOf.calls (k : Nat) (a0_0 : Int) (a0_1 : Int) (a0_2 : Int) (a1 : Int) (a2 : Int) (r : Int) (w : World) (h : impl_DistanceOf.f k a0_0 a0_1 a0_2 a1 a2 = some r) :
  Calls Try.prog 51 #[.agg #[.int .i64 a0_0, .int .i64 a0_1, .int .i64 a0_2], .int .i64 a1, .int .i64 a2] w fun e w' => e = .returned (.int .i64 r) ∧ Below w.heap.size w w' := by
 have hu30 := Try.underlying30
 have HB := Aside0.mk (Below.refl w.heap.size w)
 have H : ((impl_isIn.f a0_0 a0_1 a0_2 (([a1, a2] : List Int))).bind fun t510 => (if t510 = true then ((impl_distances.f k a0_0 a0_1 a0_2 a1).bind fun t511 => (if 0 ≤ a2 then (if a2 < (t511.length : Int) then (some (rd t511 a2)) else (none)) else (none))) else (some (-1)))) = some r := h
 clear h
 obtain ⟨y507, hy507⟩ : ∃ y_ : List Int, y_ = (([a1, a2] : List Int)) := ⟨_, rfl⟩
 replace H : ((impl_isIn.f a0_0 a0_1 a0_2 y507).bind fun t510 => (if t510 = true then ((impl_distances.f k a0_0 a0_1 a0_2 a1).bind fun t511 => (if 0 ≤ a2 then (if a2 < (t511.length : Int) then (some (rd t511 a2)) else (none)) else (none))) else (some (-1)))) = some r := by first | (rw [hy507]; with_reducible exact H) | (have H2_ := (Option.bind_some _ _).symm.trans H; rw [hy507]; with_reducible exact H2_) | (have H2_ := (Option.bind_some _ _).symm.trans H; with_reducible exact H2_) | with_reducible exact H | (rw [hy507]; exact H) | exact H
 have Ny507 := Aside0.mk hy507
 clear hy507
 replace H := Option.bind_eq_some_iff.mp H
 obtain ⟨t510, A40, H⟩ := H
 replace H : (if t510 = true then ((impl_distances.f k a0_0 a0_1 a0_2 a1).bind fun t511 => (if 0 ≤ a2 then (if a2 < (t511.length : Int) then (some (rd t511 a2)) else (none)) else (none))) else (some (-1))) = some r := H
 have A4 := Aside0.mk A40
 clear A40
 by_cases c5 : t510 = true
 ·subst c5
  have H1 : ((impl_distances.f k a0_0 a0_1 a0_2 a1).bind fun t511 => (if 0 ≤ a2 then (if a2 < (t511.length : Int) then (some (rd t511 a2)) else (none)) else (none))) = some r := by rw [if_pos rfl] at H; exact H
  clear H
  have H := H1
  clear H1
  replace H := Option.bind_eq_some_iff.mp H
  obtain ⟨t511, A60, H⟩ := H
  replace H : (if 0 ≤ a2 then (if a2 < (t511.length : Int) then (some (rd t511 a2)) else (none)) else (none)) = some r := H
  have A6 := Aside0.mk A60
  clear A60
  by_cases c7 : 0 ≤ a2
  ·rw [if_pos c7] at H
   have c7b0 : decide (0 ≤ a2) = true := decide_eq_true c7
   clear c7
   by_cases c8 : a2 < (t511.length : Int)
   ·rw [if_pos c8] at H
    have c8b0 : decide (a2 < (t511.length : Int)) = true := decide_eq_true c8
    clear c8
    obtain rfl := Option.some.inj H
    go_enter Try.func51, Try.ntmps51
    go_wp2_with (first | ((with_reducible refine gate_dst (N := 3) rfl ?_); refine box_event ?hg (N := 3) ?hd (cs := #[.int .i64 a0_0, .int .i64 a0_1, .int .i64 a0_2]) (t := 30) ?hr ?_; (case hd => rfl); (case hg => rfl); (case hr => first | (go_simp; done) | (go_simp; rfl)); intro gb506 hg w9 hbox hb; have n0_ := Aside0.mk (below_step hb_ hb); have n1_ := Aside0.mk (hbox); have n2_ := Aside0.mk ((by rw [hg]; exact (below_size hb_) : w.heap.size ≤ gb506)); have n3_ := Aside0.mk ((by rw [hg]; exact (below_size hb_) : w.heap.size ≤ gb506)); clear HB; have HB := n0_; have BK506 := n1_; have GW506 := n2_; have GE506 := n3_; clear n0_ n1_ n2_ n3_; clear hb hbox hg; have hcz10_0 := cz_ (.int .i64 a0_0) BK506.out 0; have hcz10_1 := cz_ (.int .i64 a0_1) BK506.out 1; have hcz10_2 := cz_ (.int .i64 a0_2) BK506.out 2; have hfz10_0 := blk_frozen BK506.out 0; have hfz10_1 := blk_frozen BK506.out 1; have hfz10_2 := blk_frozen BK506.out 2) | ((with_reducible refine gate_dst (N := 10) rfl ?_); refine Kd.R_lit (Kd.int .i64) _ 3 ?hg (N := 10) ?hd (xs := ([a1, a2] : List Int)) (inner := [.int .i64 a1, .int .i64 a2]) (ok := fun _ => True) (okp := fun _ => True) ?hr ?hp (fun _ hk => hk) trivial (Below.refl _ _) (Nat.le_refl _) (by simp) ?_; (case hd => rfl); (case hg => rfl); (case hr => first | (go_simp; done) | (go_simp; rfl)); (case hp => exact (Reps.one (show Kd.M (Kd.int .i64) _ _ _ a1 [.int .i64 a1] from rfl) (Reps.one (show Kd.M (Kd.int .i64) _ _ _ a2 [.int .i64 a2] from rfl) (Reps.none _ _)))); intro v508 w11 ho12 hb hg_ hnew_; clear hg_ hnew_; (first | rw [← Ny507.out] at ho12 | (simp only [Int.reduceToNat] at ho12; rw [← Ny507.out] at ho12)); have n0_ := Aside0.mk (Kd.R_lower ho12 (below_size hb_)); have n1_ := Aside0.mk (blk_below (g := gb506) (o := .cells #[.int .i64 a0_0, .int .i64 a0_1, .int .i64 a0_2] 30 (0, 0)) (kb_ BK506.out) hb); have n2_ := Aside0.mk (below_step hb_ hb); clear BK506; clear HB; have HO509 := n0_; have BK506 := n1_; have HB := n2_; clear n0_ n1_ n2_; clear hb ho12; obtain ⟨Ao13, co13, eo13⟩ := Kd.R_slice HO509.out; subst eo13) | ((with_reducible refine gate_callee (f := 76) rfl ?_); refine goesL_ (some 11) rfl rfl Try.func76 (by kernel_rfl) rfl #[.agg #[.int .i64 a0_0, .int .i64 a0_1, .int .i64 a0_2], .slice Ao13 y507.length co13] rfl mp_ ?_; (with_reducible refine (impl_isIn.calls a0_0 a0_1 a0_2 _ _ y507 true _ ?side1 ?side2 A4.out).mono ?_); (case side1 => repeat (first | exact (Kd.R_reads' HO509.out).2.2 | (with_reducible refine Kd.C_alloc ?_ _) | (with_reducible refine Kd.C_drewN ?_ _) | (with_reducible refine Kd.C_drew ?_))); (case side2 => exact (Kd.R_reads' HO509.out).2.1); rintro e w14 ⟨rfl, hb⟩; refine ⟨_, rfl, ?_⟩; have n0_ := Aside0.mk (Kd.R_below (kr_ HO509.out) hb); have n1_ := Aside0.mk (blk_below (g := gb506) (o := .cells #[.int .i64 a0_0, .int .i64 a0_1, .int .i64 a0_2] 30 (0, 0)) (kb_ BK506.out) hb); have n2_ := Aside0.mk (below_step hb_ hb); clear HO509; clear BK506; clear HB; have HO509 := n0_; have BK506 := n1_; have HB := n2_; clear n0_ n1_ n2_; (try clear hb); (try clear hb2); (try clear hk); (try clear hi); have hcz15_0 := cz_ (.int .i64 a0_0) BK506.out 0; have hcz15_1 := cz_ (.int .i64 a0_1) BK506.out 1; have hcz15_2 := cz_ (.int .i64 a0_2) BK506.out 2; have hfz15_0 := blk_frozen BK506.out 0; have hfz15_1 := blk_frozen BK506.out 1; have hfz15_2 := blk_frozen BK506.out 2) | ((with_reducible refine gate_callee (f := 102) rfl ?_); refine goesL_ (some 15) rfl rfl Try.func102 (by kernel_rfl) rfl #[.agg #[.int .i64 a0_0, .int .i64 a0_1, .int .i64 a0_2], .int .i64 a1] rfl mp_ ?_; (with_reducible refine (impl_distances.calls k a0_0 a0_1 a0_2 a1 t511 _ A6.out).mono ?_); rintro e w16 ⟨v512, rfl, ho0, hb⟩; refine ⟨_, rfl, ?_⟩; have n0_ := Aside0.mk (Kd.R_elder' (kr_ HO509.out) (Kd.R_base ho0) hb); have n1_ := Aside0.mk (Kd.R_lower (Kd.R_new' ho0 (Kd.R_lt (kr_ HO509.out))) (below_size hb_)); have n2_ := Aside0.mk (blk_below (g := gb506) (o := .cells #[.int .i64 a0_0, .int .i64 a0_1, .int .i64 a0_2] 30 (0, 0)) (kb_ BK506.out) hb); have n3_ := Aside0.mk (below_step hb_ hb); clear HO509; clear BK506; clear HB; have HO509 := n0_; have HO513 := n1_; have BK506 := n2_; have HB := n3_; clear n0_ n1_ n2_ n3_; (try clear hb); (try clear hb2); (try clear hk); (try clear hi); (try clear ho0); obtain ⟨Ao17, co17, eo17⟩ := Kd.R_slice HO513.out; subst eo17; have p514 : 0 ≤ (a2 : Int) := of_decide_eq_true (by first | (with_reducible assumption) | assumption); have q514 : a2 < (t511.length : Int) := of_decide_eq_true (by first | (with_reducible assumption) | assumption); obtain ⟨ad514, e514, hx514_0⟩ := Kd.at_int (Kd.R_reads' HO513.out).2.2 a2 p514 q514; cases e514; replace p514 := eq_true p514; replace q514 := eq_true q514))
    go_ret
    exact ⟨er_, hb_⟩
   ·rw [if_neg c8] at H
    exact absurd H (by simp)
  ·rw [if_neg c7] at H
   exact absurd H (by simp)
 ·replace c5 := Bool.eq_false_iff.mpr c5
  subst c5
  have H1 : (some (-1)) = some r := by rw [if_neg (show ¬ (false = true) by decide)] at H; exact H
  clear H
  have H := H1
  clear H1
  obtain rfl := Option.some.inj H
  go_enter Try.func51, Try.ntmps51
  go_wp2_with (first | ((with_reducible refine gate_dst (N := 3) rfl ?_); refine box_event ?hg (N := 3) ?hd (cs := #[.int .i64 a0_0, .int .i64 a0_1, .int .i64 a0_2]) (t := 30) ?hr ?_; (case hd => rfl); (case hg => rfl); (case hr => first | (go_simp; done) | (go_simp; rfl)); intro gb506 hg w18 hbox hb; have n0_ := Aside0.mk (below_step hb_ hb); have n1_ := Aside0.mk (hbox); have n2_ := Aside0.mk ((by rw [hg]; exact (below_size hb_) : w.heap.size ≤ gb506)); have n3_ := Aside0.mk ((by rw [hg]; exact (below_size hb_) : w.heap.size ≤ gb506)); clear HB; have HB := n0_; have BK506 := n1_; have GW506 := n2_; have GE506 := n3_; clear n0_ n1_ n2_ n3_; clear hb hbox hg; have hcz19_0 := cz_ (.int .i64 a0_0) BK506.out 0; have hcz19_1 := cz_ (.int .i64 a0_1) BK506.out 1; have hcz19_2 := cz_ (.int .i64 a0_2) BK506.out 2; have hfz19_0 := blk_frozen BK506.out 0; have hfz19_1 := blk_frozen BK506.out 1; have hfz19_2 := blk_frozen BK506.out 2) | ((with_reducible refine gate_dst (N := 10) rfl ?_); refine Kd.R_lit (Kd.int .i64) _ 3 ?hg (N := 10) ?hd (xs := ([a1, a2] : List Int)) (inner := [.int .i64 a1, .int .i64 a2]) (ok := fun _ => True) (okp := fun _ => True) ?hr ?hp (fun _ hk => hk) trivial (Below.refl _ _) (Nat.le_refl _) (by simp) ?_; (case hd => rfl); (case hg => rfl); (case hr => first | (go_simp; done) | (go_simp; rfl)); (case hp => exact (Reps.one (show Kd.M (Kd.int .i64) _ _ _ a1 [.int .i64 a1] from rfl) (Reps.one (show Kd.M (Kd.int .i64) _ _ _ a2 [.int .i64 a2] from rfl) (Reps.none _ _)))); intro v508 w20 ho21 hb hg_ hnew_; clear hg_ hnew_; (first | rw [← Ny507.out] at ho21 | (simp only [Int.reduceToNat] at ho21; rw [← Ny507.out] at ho21)); have n0_ := Aside0.mk (Kd.R_lower ho21 (below_size hb_)); have n1_ := Aside0.mk (blk_below (g := gb506) (o := .cells #[.int .i64 a0_0, .int .i64 a0_1, .int .i64 a0_2] 30 (0, 0)) (kb_ BK506.out) hb); have n2_ := Aside0.mk (below_step hb_ hb); clear BK506; clear HB; have HO509 := n0_; have BK506 := n1_; have HB := n2_; clear n0_ n1_ n2_; clear hb ho21; obtain ⟨Ao22, co22, eo22⟩ := Kd.R_slice HO509.out; subst eo22) | ((with_reducible refine gate_callee (f := 76) rfl ?_); refine goesL_ (some 11) rfl rfl Try.func76 (by kernel_rfl) rfl #[.agg #[.int .i64 a0_0, .int .i64 a0_1, .int .i64 a0_2], .slice Ao22 y507.length co22] rfl mp_ ?_; (with_reducible refine (impl_isIn.calls a0_0 a0_1 a0_2 _ _ y507 false _ ?side1 ?side2 A4.out).mono ?_); (case side1 => repeat (first | exact (Kd.R_reads' HO509.out).2.2 | (with_reducible refine Kd.C_alloc ?_ _) | (with_reducible refine Kd.C_drewN ?_ _) | (with_reducible refine Kd.C_drew ?_))); (case side2 => exact (Kd.R_reads' HO509.out).2.1); rintro e w23 ⟨rfl, hb⟩; refine ⟨_, rfl, ?_⟩; have n0_ := Aside0.mk (Kd.R_below (kr_ HO509.out) hb); have n1_ := Aside0.mk (blk_below (g := gb506) (o := .cells #[.int .i64 a0_0, .int .i64 a0_1, .int .i64 a0_2] 30 (0, 0)) (kb_ BK506.out) hb); have n2_ := Aside0.mk (below_step hb_ hb); clear HO509; clear BK506; clear HB; have HO509 := n0_; have BK506 := n1_; have HB := n2_; clear n0_ n1_ n2_; (try clear hb); (try clear hb2); (try clear hk); (try clear hi)))
  go_ret
  exact ⟨er_, hb_⟩

end Go.Proofs.Ytpaecckpdaiogaa.Q
