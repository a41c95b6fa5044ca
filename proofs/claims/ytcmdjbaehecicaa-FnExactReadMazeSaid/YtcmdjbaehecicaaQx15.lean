/- Plain Lean functions of Go functions, and for each the proof that its call comes to just that answer. Conditions: in each theorem's statement. -/
import Derived.Test.YtcmdjbaehecicaaQx0
import Derived.Test.YtcmdjbaehecicaaQx6
import Derived.Test.YtcmdjbaehecicaaQx11
import Derived.Test.YtcmdjbaehecicaaQx12
import Derived.Test.YtcmdjbaehecicaaQx13
import Derived.Test.YtcmdjbaehecicaaQx14
import Derived.Test.YtcmdjbaehecicaaWApart
import Derived.Test.YtcmdjbaehecicaaWKept
import Derived.Test.YtcmdjbaehecicaaWMore
namespace Go.Proofs.Ytcmdjbaehecicaa.Q
open Go.RowKit Go.Proofs.YtcmdjbaehecicaaW.PrintWords Go.Proofs.YtcmdjbaehecicaaW.PrintLast
attribute [local go_sem] max2_int min2_int max_two min_two   -- for this text's walks alone
set_option linter.unusedVariables false
set_option linter.unusedSimpArgs false

/-! ### laws_FnExactMazeLines: function 3 -/
def laws_FnExactMazeLines.f (k : Nat) (a0_0 : Int) (a0_1 : Int) (a0_2 : Int) : Option (Bool) := (laws_toMaze.f a0_0 a0_1 a0_2).bind fun bt215 => ((spec_MazeLines.f k bt215.1 bt215.2.1 bt215.2.2).bind fun t218 => ((laws_toMaze.f a0_0 a0_1 a0_2).bind fun bt221 => ((impl_MazeLines.f k bt221.1 bt221.2.1 bt221.2.2).bind fun t224 => ((laws_eqStringS.f k t224 t218).bind fun t227 => (if t227 = true then ((laws_markStringS.f k t224 1).bind fun bt228 => ((laws_heldStringS.f k bt228.2 1).bind fun t230 => (if t230 < 0 then (some false) else (if t230 = bt228.1 then ((laws_toMaze.f a0_0 a0_1 a0_2).bind fun bt231 => ((impl_MazeLines.f k bt231.1 bt231.2.1 bt231.2.2).bind fun t234 => ((laws_eqStringS.f k t234 t218).bind fun t237 => (if t237 = true then ((laws_heldStringS.f k bt228.2 1).bind fun t238 => (if t238 < 0 then (some false) else (if t238 = bt228.1 then (some true) else (some false)))) else (some false))))) else (some false))))) else (some false))))))
theorem laws_FnExactMazeLines.mono : ∀ a0 a1 a2 k, LeO (laws_FnExactMazeLines.f k a0 a1 a2) (laws_FnExactMazeLines.f (k + 1) a0 a1 a2) := by
 intro a0 a1 a2 k
 unfold laws_FnExactMazeLines.f
 repeat' first
   | (with_reducible exact impl_MazeLines.mono _ _ _ _)
   | (with_reducible exact laws_eqStringS.mono _ _ _)
   | (with_reducible exact laws_heldStringS.mono _ _ _)
   | (with_reducible exact laws_markStringS.mono _ _ _)
   | (with_reducible exact spec_MazeLines.mono _ _ _ _)
   | (with_reducible exact LeO.refl _)
   | (with_reducible exact LeO.none _)
   | (with_reducible refine LeO.ite ?_ ?_)
   | (with_reducible refine LeO.bind ?_ (fun _ => ?_))
   | exact impl_MazeLines.mono _ _ _ _
   | exact laws_eqStringS.mono _ _ _
   | exact laws_heldStringS.mono _ _ _
   | exact laws_markStringS.mono _ _ _
   | exact spec_MazeLines.mono _ _ _ _
   | exact LeO.none _
   | refine LeO.ite ?_ ?_
   | refine LeO.bind ?_ (fun _ => ?_)
set_option maxHeartbeats 8000000 in
set_option maxRecDepth 100000 in
theorem laws_FnExactMazeLines.calls (k : Nat) (a0_0 : Int) (a0_1 : Int) (a0_2 : Int) (r : Bool) (w : World) (HT_ : Aside0 (r = true)) (h : laws_FnExactMazeLines.f k a0_0 a0_1 a0_2 = some r) :
  Calls Try.prog 3 #[.agg #[.int .i64 a0_0, .int .i64 a0_1, .int .i64 a0_2]] w fun e w' => e = .returned (.bool r) ∧ Below w.heap.size w w' := by
 have hu25 := Try.underlying25
 have HB := Aside0.mk (Below.refl w.heap.size w)
 have H : ((laws_toMaze.f a0_0 a0_1 a0_2).bind fun bt215 => ((spec_MazeLines.f k bt215.1 bt215.2.1 bt215.2.2).bind fun t218 => ((laws_toMaze.f a0_0 a0_1 a0_2).bind fun bt221 => ((impl_MazeLines.f k bt221.1 bt221.2.1 bt221.2.2).bind fun t224 => ((laws_eqStringS.f k t224 t218).bind fun t227 => (if t227 = true then ((laws_markStringS.f k t224 1).bind fun bt228 => ((laws_heldStringS.f k bt228.2 1).bind fun t230 => (if t230 < 0 then (some false) else (if t230 = bt228.1 then ((laws_toMaze.f a0_0 a0_1 a0_2).bind fun bt231 => ((impl_MazeLines.f k bt231.1 bt231.2.1 bt231.2.2).bind fun t234 => ((laws_eqStringS.f k t234 t218).bind fun t237 => (if t237 = true then ((laws_heldStringS.f k bt228.2 1).bind fun t238 => (if t238 < 0 then (some false) else (if t238 = bt228.1 then (some true) else (some false)))) else (some false))))) else (some false))))) else (some false))))))) = some r := h
 clear h
 replace H := Option.bind_eq_some_iff.mp H
 obtain ⟨⟨t215, t216, t217⟩, A20, H⟩ := H
 replace H : ((spec_MazeLines.f k t215 t216 t217).bind fun t218 => ((laws_toMaze.f a0_0 a0_1 a0_2).bind fun bt221 => ((impl_MazeLines.f k bt221.1 bt221.2.1 bt221.2.2).bind fun t224 => ((laws_eqStringS.f k t224 t218).bind fun t227 => (if t227 = true then ((laws_markStringS.f k t224 1).bind fun bt228 => ((laws_heldStringS.f k bt228.2 1).bind fun t230 => (if t230 < 0 then (some false) else (if t230 = bt228.1 then ((laws_toMaze.f a0_0 a0_1 a0_2).bind fun bt231 => ((impl_MazeLines.f k bt231.1 bt231.2.1 bt231.2.2).bind fun t234 => ((laws_eqStringS.f k t234 t218).bind fun t237 => (if t237 = true then ((laws_heldStringS.f k bt228.2 1).bind fun t238 => (if t238 < 0 then (some false) else (if t238 = bt228.1 then (some true) else (some false)))) else (some false))))) else (some false))))) else (some false)))))) = some r := H
 have A2 := Aside0.mk A20
 clear A20
 replace H := Option.bind_eq_some_iff.mp H
 obtain ⟨t218, A30, H⟩ := H
 replace H : ((laws_toMaze.f a0_0 a0_1 a0_2).bind fun bt221 => ((impl_MazeLines.f k bt221.1 bt221.2.1 bt221.2.2).bind fun t224 => ((laws_eqStringS.f k t224 t218).bind fun t227 => (if t227 = true then ((laws_markStringS.f k t224 1).bind fun bt228 => ((laws_heldStringS.f k bt228.2 1).bind fun t230 => (if t230 < 0 then (some false) else (if t230 = bt228.1 then ((laws_toMaze.f a0_0 a0_1 a0_2).bind fun bt231 => ((impl_MazeLines.f k bt231.1 bt231.2.1 bt231.2.2).bind fun t234 => ((laws_eqStringS.f k t234 t218).bind fun t237 => (if t237 = true then ((laws_heldStringS.f k bt228.2 1).bind fun t238 => (if t238 < 0 then (some false) else (if t238 = bt228.1 then (some true) else (some false)))) else (some false))))) else (some false))))) else (some false))))) = some r := H
 have A3 := Aside0.mk A30
 clear A30
 replace H := Option.bind_eq_some_iff.mp H
 obtain ⟨⟨t221, t222, t223⟩, A40, H⟩ := H
 replace H : ((impl_MazeLines.f k t221 t222 t223).bind fun t224 => ((laws_eqStringS.f k t224 t218).bind fun t227 => (if t227 = true then ((laws_markStringS.f k t224 1).bind fun bt228 => ((laws_heldStringS.f k bt228.2 1).bind fun t230 => (if t230 < 0 then (some false) else (if t230 = bt228.1 then ((laws_toMaze.f a0_0 a0_1 a0_2).bind fun bt231 => ((impl_MazeLines.f k bt231.1 bt231.2.1 bt231.2.2).bind fun t234 => ((laws_eqStringS.f k t234 t218).bind fun t237 => (if t237 = true then ((laws_heldStringS.f k bt228.2 1).bind fun t238 => (if t238 < 0 then (some false) else (if t238 = bt228.1 then (some true) else (some false)))) else (some false))))) else (some false))))) else (some false)))) = some r := H
 have A4 := Aside0.mk A40
 clear A40
 have EA4 := Aside0.mk (show t221 = t215 ∧ t222 = t216 ∧ t223 = t217 from by have e_ := Option.some.inj (A4.out.symm.trans A2.out); simpa only [Prod.mk.injEq] using e_)
 replace H := Option.bind_eq_some_iff.mp H
 obtain ⟨t224, A50, H⟩ := H
 replace H : ((laws_eqStringS.f k t224 t218).bind fun t227 => (if t227 = true then ((laws_markStringS.f k t224 1).bind fun bt228 => ((laws_heldStringS.f k bt228.2 1).bind fun t230 => (if t230 < 0 then (some false) else (if t230 = bt228.1 then ((laws_toMaze.f a0_0 a0_1 a0_2).bind fun bt231 => ((impl_MazeLines.f k bt231.1 bt231.2.1 bt231.2.2).bind fun t234 => ((laws_eqStringS.f k t234 t218).bind fun t237 => (if t237 = true then ((laws_heldStringS.f k bt228.2 1).bind fun t238 => (if t238 < 0 then (some false) else (if t238 = bt228.1 then (some true) else (some false)))) else (some false))))) else (some false))))) else (some false))) = some r := H
 have A5 := Aside0.mk A50
 clear A50
 replace H := Option.bind_eq_some_iff.mp H
 obtain ⟨t227, A60, H⟩ := H
 replace H : (if t227 = true then ((laws_markStringS.f k t224 1).bind fun bt228 => ((laws_heldStringS.f k bt228.2 1).bind fun t230 => (if t230 < 0 then (some false) else (if t230 = bt228.1 then ((laws_toMaze.f a0_0 a0_1 a0_2).bind fun bt231 => ((impl_MazeLines.f k bt231.1 bt231.2.1 bt231.2.2).bind fun t234 => ((laws_eqStringS.f k t234 t218).bind fun t237 => (if t237 = true then ((laws_heldStringS.f k bt228.2 1).bind fun t238 => (if t238 < 0 then (some false) else (if t238 = bt228.1 then (some true) else (some false)))) else (some false))))) else (some false))))) else (some false)) = some r := H
 have A6 := Aside0.mk A60
 clear A60
 by_cases c7 : t227 = true
 ·subst c7
  have H1 : ((laws_markStringS.f k t224 1).bind fun bt228 => ((laws_heldStringS.f k bt228.2 1).bind fun t230 => (if t230 < 0 then (some false) else (if t230 = bt228.1 then ((laws_toMaze.f a0_0 a0_1 a0_2).bind fun bt231 => ((impl_MazeLines.f k bt231.1 bt231.2.1 bt231.2.2).bind fun t234 => ((laws_eqStringS.f k t234 t218).bind fun t237 => (if t237 = true then ((laws_heldStringS.f k bt228.2 1).bind fun t238 => (if t238 < 0 then (some false) else (if t238 = bt228.1 then (some true) else (some false)))) else (some false))))) else (some false))))) = some r := by rw [if_pos rfl] at H; exact H
  clear H
  have H := H1
  clear H1
  replace H := Option.bind_eq_some_iff.mp H
  obtain ⟨⟨t228, t229⟩, A80, H⟩ := H
  replace H : ((laws_heldStringS.f k t229 1).bind fun t230 => (if t230 < 0 then (some false) else (if t230 = t228 then ((laws_toMaze.f a0_0 a0_1 a0_2).bind fun bt231 => ((impl_MazeLines.f k bt231.1 bt231.2.1 bt231.2.2).bind fun t234 => ((laws_eqStringS.f k t234 t218).bind fun t237 => (if t237 = true then ((laws_heldStringS.f k t229 1).bind fun t238 => (if t238 < 0 then (some false) else (if t238 = t228 then (some true) else (some false)))) else (some false))))) else (some false)))) = some r := H
  have A8 := Aside0.mk A80
  clear A80
  replace H := Option.bind_eq_some_iff.mp H
  obtain ⟨t230, A90, H⟩ := H
  replace H : (if t230 < 0 then (some false) else (if t230 = t228 then ((laws_toMaze.f a0_0 a0_1 a0_2).bind fun bt231 => ((impl_MazeLines.f k bt231.1 bt231.2.1 bt231.2.2).bind fun t234 => ((laws_eqStringS.f k t234 t218).bind fun t237 => (if t237 = true then ((laws_heldStringS.f k t229 1).bind fun t238 => (if t238 < 0 then (some false) else (if t238 = t228 then (some true) else (some false)))) else (some false))))) else (some false))) = some r := H
  have A9 := Aside0.mk A90
  clear A90
  by_cases c10 : t230 < 0
  ·rw [if_pos c10] at H
   have c10b0 : decide (t230 < 0) = true := decide_eq_true c10
   clear c10
   exact absurd ((Option.some.inj H).trans HT_.out) (by decide)
  ·rw [if_neg c10] at H
   have c10b0 : decide (t230 < 0) = false := decide_eq_false c10
   clear c10
   by_cases c11 : t230 = t228
   ·rw [if_pos c11] at H
    have c11b0 : (t230 == t228) = true := beq_iff_eq.mpr c11
    have c11b1 : (t230 != t228) = false := bne_eq_false_iff_eq.mpr c11
    clear c11
    replace H := Option.bind_eq_some_iff.mp H
    obtain ⟨⟨t231, t232, t233⟩, A120, H⟩ := H
    replace H : ((impl_MazeLines.f k t231 t232 t233).bind fun t234 => ((laws_eqStringS.f k t234 t218).bind fun t237 => (if t237 = true then ((laws_heldStringS.f k t229 1).bind fun t238 => (if t238 < 0 then (some false) else (if t238 = t228 then (some true) else (some false)))) else (some false)))) = some r := H
    have A12 := Aside0.mk A120
    clear A120
    have EA12 := Aside0.mk (show t231 = t215 ∧ t232 = t216 ∧ t233 = t217 from by have e_ := Option.some.inj (A12.out.symm.trans A2.out); simpa only [Prod.mk.injEq] using e_)
    replace H := Option.bind_eq_some_iff.mp H
    obtain ⟨t234, A130, H⟩ := H
    replace H : ((laws_eqStringS.f k t234 t218).bind fun t237 => (if t237 = true then ((laws_heldStringS.f k t229 1).bind fun t238 => (if t238 < 0 then (some false) else (if t238 = t228 then (some true) else (some false)))) else (some false))) = some r := H
    have A13 := Aside0.mk A130
    clear A130
    replace H := Option.bind_eq_some_iff.mp H
    obtain ⟨t237, A140, H⟩ := H
    replace H : (if t237 = true then ((laws_heldStringS.f k t229 1).bind fun t238 => (if t238 < 0 then (some false) else (if t238 = t228 then (some true) else (some false)))) else (some false)) = some r := H
    have A14 := Aside0.mk A140
    clear A140
    by_cases c15 : t237 = true
    ·subst c15
     have H1 : ((laws_heldStringS.f k t229 1).bind fun t238 => (if t238 < 0 then (some false) else (if t238 = t228 then (some true) else (some false)))) = some r := by rw [if_pos rfl] at H; exact H
     clear H
     have H := H1
     clear H1
     replace H := Option.bind_eq_some_iff.mp H
     obtain ⟨t238, A160, H⟩ := H
     replace H : (if t238 < 0 then (some false) else (if t238 = t228 then (some true) else (some false))) = some r := H
     have A16 := Aside0.mk A160
     clear A160
     have EA16 := Aside0.mk (show t238 = t230 from by have e_ := Option.some.inj (A16.out.symm.trans A9.out); simpa only [Prod.mk.injEq] using e_)
     by_cases c17 : t238 < 0
     ·rw [if_pos c17] at H
      have c17b0 : decide (t238 < 0) = true := decide_eq_true c17
      clear c17
      exact absurd ((Option.some.inj H).trans HT_.out) (by decide)
     ·rw [if_neg c17] at H
      have c17b0 : decide (t238 < 0) = false := decide_eq_false c17
      clear c17
      by_cases c18 : t238 = t228
      ·rw [if_pos c18] at H
       have c18b0 : (t238 == t228) = true := beq_iff_eq.mpr c18
       have c18b1 : (t238 != t228) = false := bne_eq_false_iff_eq.mpr c18
       clear c18
       obtain rfl := Option.some.inj H
       go_enter Try.func3, Try.ntmps3
       go_wp2_with (first | ((with_reducible refine gate_dst (N := 1) rfl ?_); refine box_event ?hg (N := 1) ?hd (cs := #[.int .i64 a0_0, .int .i64 a0_1, .int .i64 a0_2]) (t := 25) ?hr ?_; (case hd => rfl); (case hg => rfl); (case hr => first | (go_simp; done) | (go_simp; rfl)); intro gb214 hg w19 hbox hb; have n0_ := Aside0.mk (below_step hb_ hb); have n1_ := Aside0.mk (hbox); have n2_ := Aside0.mk ((by rw [hg]; exact (below_size hb_) : w.heap.size ≤ gb214)); have n3_ := Aside0.mk ((by rw [hg]; exact (below_size hb_) : w.heap.size ≤ gb214)); clear HB; have HB := n0_; have BK214 := n1_; have GW214 := n2_; have GE214 := n3_; clear n0_ n1_ n2_ n3_; clear hb hbox hg; have hcz20_0 := cz_ (.int .i64 a0_0) BK214.out 0; have hcz20_1 := cz_ (.int .i64 a0_1) BK214.out 1; have hcz20_2 := cz_ (.int .i64 a0_2) BK214.out 2; have hfz20_0 := blk_frozen BK214.out 0; have hfz20_1 := blk_frozen BK214.out 1; have hfz20_2 := blk_frozen BK214.out 2) | ((with_reducible refine gate_callee (f := 6) rfl ?_); refine goesL_ (some 9) rfl rfl Try.func6 (by kernel_rfl) rfl #[.agg #[.int .i64 a0_0, .int .i64 a0_1, .int .i64 a0_2]] rfl mp_ ?_; (with_reducible refine (laws_toMaze.calls a0_0 a0_1 a0_2 t215 t216 t217 _ A2.out).mono ?_); rintro e w21 ⟨rfl, hb⟩; refine ⟨_, rfl, ?_⟩; have n0_ := Aside0.mk (blk_below (g := gb214) (o := .cells #[.int .i64 a0_0, .int .i64 a0_1, .int .i64 a0_2] 25 (0, 0)) (kb_ BK214.out) hb); have n1_ := Aside0.mk (below_step hb_ hb); clear BK214; clear HB; have BK214 := n0_; have HB := n1_; clear n0_ n1_; (try clear hb); (try clear hb2); (try clear hk); (try clear hi)) | ((with_reducible refine gate_callee (f := 5) rfl ?_); refine goesL_ (some 10) rfl rfl Try.func5 (by kernel_rfl) rfl #[.agg #[.int .i64 t215, .int .i64 t216, .int .i64 t217]] rfl mp_ ?_; (with_reducible refine (spec_MazeLines.calls k t215 t216 t217 t218 _ A3.out).mono ?_); rintro e w22 ⟨v219, rfl, ho0, hb⟩; refine ⟨_, rfl, ?_⟩; have n0_ := Aside0.mk (Kd.R_lower ho0 (below_size hb_)); have n1_ := Aside0.mk (blk_below (g := gb214) (o := .cells #[.int .i64 a0_0, .int .i64 a0_1, .int .i64 a0_2] 25 (0, 0)) (kb_ BK214.out) hb); have n2_ := Aside0.mk (below_step hb_ hb); clear BK214; clear HB; have HO220 := n0_; have BK214 := n1_; have HB := n2_; clear n0_ n1_ n2_; (try clear hb); (try clear hb2); (try clear hk); (try clear hi); (try clear ho0); have hcz23_0 := cz_ (.int .i64 a0_0) BK214.out 0; have hcz23_1 := cz_ (.int .i64 a0_1) BK214.out 1; have hcz23_2 := cz_ (.int .i64 a0_2) BK214.out 2; have hfz23_0 := blk_frozen BK214.out 0; have hfz23_1 := blk_frozen BK214.out 1; have hfz23_2 := blk_frozen BK214.out 2) | ((with_reducible refine gate_callee (f := 6) rfl ?_); refine goesL_ (some 12) rfl rfl Try.func6 (by kernel_rfl) rfl #[.agg #[.int .i64 a0_0, .int .i64 a0_1, .int .i64 a0_2]] rfl mp_ ?_; (with_reducible refine (laws_toMaze.calls a0_0 a0_1 a0_2 t221 t222 t223 _ A4.out).mono ?_); rintro e w24 ⟨rfl, hb⟩; refine ⟨_, rfl, ?_⟩; have n0_ := Aside0.mk (Kd.R_below (kr_ HO220.out) hb); have n1_ := Aside0.mk (blk_below (g := gb214) (o := .cells #[.int .i64 a0_0, .int .i64 a0_1, .int .i64 a0_2] 25 (0, 0)) (kb_ BK214.out) hb); have n2_ := Aside0.mk (below_step hb_ hb); clear HO220; clear BK214; clear HB; have HO220 := n0_; have BK214 := n1_; have HB := n2_; clear n0_ n1_ n2_; (try clear hb); (try clear hb2); (try clear hk); (try clear hi)) | ((with_reducible refine gate_callee (f := 7) rfl ?_); refine goesL_ (some 13) rfl rfl Try.func7 (by kernel_rfl) rfl #[.agg #[.int .i64 t221, .int .i64 t222, .int .i64 t223]] rfl mp_ ?_; (with_reducible refine (impl_MazeLines.calls k t221 t222 t223 t224 _ A5.out).mono ?_); rintro e w25 ⟨v225, rfl, ho0, hb⟩; refine ⟨_, rfl, ?_⟩; have n0_ := Aside0.mk (Kd.R_elder' (kr_ HO220.out) (Kd.R_base ho0) hb); have n1_ := Aside0.mk (Kd.R_lower (Kd.R_new' ho0 (Kd.R_lt (kr_ HO220.out))) (below_size hb_)); have n2_ := Aside0.mk (blk_below (g := gb214) (o := .cells #[.int .i64 a0_0, .int .i64 a0_1, .int .i64 a0_2] 25 (0, 0)) (kb_ BK214.out) hb); have n3_ := Aside0.mk (below_step hb_ hb); clear HO220; clear BK214; clear HB; have HO220 := n0_; have HO226 := n1_; have BK214 := n2_; have HB := n3_; clear n0_ n1_ n2_ n3_; (try clear hb); (try clear hb2); (try clear hk); (try clear hi); (try clear ho0); obtain ⟨Ao26, co26, eo26⟩ := Kd.R_slice HO226.out; subst eo26; obtain ⟨Ao27, co27, eo27⟩ := Kd.R_slice HO220.out; subst eo27) | ((with_reducible refine gate_callee (f := 8) rfl ?_); refine goesL_ (some 16) rfl rfl Try.func8 (by kernel_rfl) rfl #[.slice Ao26 t224.length co26, .slice Ao27 t218.length co27] rfl mp_ ?_; (with_reducible refine (laws_eqStringS.calls k _ _ t224 _ _ t218 true _ ?side1 ?side2 ?side3 ?side4 A6.out).mono ?_); (case side1 => repeat (first | exact (Kd.R_reads' HO226.out).2.2 | (with_reducible refine Kd.C_alloc ?_ _) | (with_reducible refine Kd.C_drewN ?_ _) | (with_reducible refine Kd.C_drew ?_))); (case side2 => exact (Kd.R_reads' HO226.out).2.1); (case side3 => repeat (first | exact (Kd.R_reads' HO220.out).2.2 | (with_reducible refine Kd.C_alloc ?_ _) | (with_reducible refine Kd.C_drewN ?_ _) | (with_reducible refine Kd.C_drew ?_))); (case side4 => exact (Kd.R_reads' HO220.out).2.1); rintro e w' ⟨rfl, ⟨nd, rfl⟩⟩; refine ⟨_, rfl, ?_⟩) | ((with_reducible refine gate_callee (f := 9) rfl ?_); refine goesL_ (some 20) rfl rfl Try.func9 (by kernel_rfl) rfl #[.slice Ao26 t224.length co26, .int .i64 1] rfl mp_ ?_; (with_reducible refine (laws_markStringS.calls k (fun k_ => some k_ = (.slice Ao26 t224.length co26 : Value).ownBlock) (.slice Ao26 t224.length co26) t224 1 t228 t229 w _ ?side1 ?side2 A8.out).mono ?_); (case side1 => repeat (first | (with_reducible first | exact HB.out | apply below_alloc | apply pw_below_drewN | apply below_drew1 | refine below_set ?_ GE214.out) | exact HB.out)); (case side2 => exact Kd.R_tight rfl HO226.out); rintro e w28 ⟨rfl, hy0, hb, hkp⟩; refine ⟨_, rfl, ?_⟩; have n0_ := Aside0.mk (blk_kept (kb_ BK214.out) hkp (fun hs_ => (fun e_ => (Kd.R_ne HO226.out BK214.out (by decide)) e_) hs_)); have n1_ := Aside0.mk (Kd.R_mono (ok' := fun k_ => some k_ ≠ (.slice Ao26 t224.length co26 : Value).ownBlock) (Kd.R_keptB (HO220.out) hkp (fun k_ hk_ hs_ => (hk_.2) hs_)) (fun k_ hk_ => hk_.1.2)); have n2_ := Aside0.mk (Kd.R_reok rfl hy0 (fun k_ e_ => HO226.out.1 k_ e_)); have n3_ := Aside0.mk (hb); clear BK214; clear HO220; clear HO226; clear HB; have BK214 := n0_; have HO220 := n1_; have HO226 := n2_; have HB := n3_; clear n0_ n1_ n2_ n3_; (try clear hb); (try clear hkp); (try clear hy0)) | ((with_reducible refine gate_callee (f := 10) rfl ?_); refine goesL_ (some 23) rfl rfl Try.func10 (by kernel_rfl) rfl #[.slice Ao26 t229.length co26, .int .i64 1] rfl (by (try simp only [List.map_toArray, List.map_cons, List.map_nil]); first | done | (rw [show t229.length = t224.length from (Kd.R_reads' HO226.out).1.symm] <;> rfl) | rfl | (simp only [List.length_drop, List.length_take]; rfl)) ?_; (with_reducible refine (laws_heldStringS.calls k _ _ t229 1 t230 _ ?side1 ?side2 A9.out).mono ?_); (case side1 => repeat (first | exact (Kd.R_reads' HO226.out).2.2 | (with_reducible refine Kd.C_alloc ?_ _) | (with_reducible refine Kd.C_drewN ?_ _) | (with_reducible refine Kd.C_drew ?_))); (case side2 => rw [show t229.length = t224.length from (Kd.R_reads' HO226.out).1.symm]; exact (Kd.R_reads' HO226.out).2.1); rintro e w29 ⟨rfl, hb⟩; refine ⟨_, rfl, ?_⟩; have n0_ := Aside0.mk (Kd.R_below (kr_ HO220.out) hb); have n1_ := Aside0.mk (Kd.R_below (kr_ HO226.out) hb); have n2_ := Aside0.mk (blk_below (g := gb214) (o := .cells #[.int .i64 a0_0, .int .i64 a0_1, .int .i64 a0_2] 25 (0, 0)) (kb_ BK214.out) hb); have n3_ := Aside0.mk (below_step hb_ hb); clear HO220; clear HO226; clear BK214; clear HB; have HO220 := n0_; have HO226 := n1_; have BK214 := n2_; have HB := n3_; clear n0_ n1_ n2_ n3_; (try clear hb); (try clear hb2); (try clear hk); (try clear hi); have hcz30_0 := cz_ (.int .i64 a0_0) BK214.out 0; have hcz30_1 := cz_ (.int .i64 a0_1) BK214.out 1; have hcz30_2 := cz_ (.int .i64 a0_2) BK214.out 2; have hfz30_0 := blk_frozen BK214.out 0; have hfz30_1 := blk_frozen BK214.out 1; have hfz30_2 := blk_frozen BK214.out 2) | ((with_reducible refine gate_callee (f := 6) rfl ?_); refine goesL_ (some 30) rfl rfl Try.func6 (by kernel_rfl) rfl #[.agg #[.int .i64 a0_0, .int .i64 a0_1, .int .i64 a0_2]] rfl mp_ ?_; (with_reducible refine (laws_toMaze.calls a0_0 a0_1 a0_2 t231 t232 t233 _ A12.out).mono ?_); rintro e w31 ⟨rfl, hb⟩; refine ⟨_, rfl, ?_⟩; have n0_ := Aside0.mk (Kd.R_below (kr_ HO220.out) hb); have n1_ := Aside0.mk (Kd.R_below (kr_ HO226.out) hb); have n2_ := Aside0.mk (blk_below (g := gb214) (o := .cells #[.int .i64 a0_0, .int .i64 a0_1, .int .i64 a0_2] 25 (0, 0)) (kb_ BK214.out) hb); have n3_ := Aside0.mk (below_step hb_ hb); clear HO220; clear HO226; clear BK214; clear HB; have HO220 := n0_; have HO226 := n1_; have BK214 := n2_; have HB := n3_; clear n0_ n1_ n2_ n3_; (try clear hb); (try clear hb2); (try clear hk); (try clear hi)) | ((with_reducible refine gate_callee (f := 7) rfl ?_); refine goesL_ (some 31) rfl rfl Try.func7 (by kernel_rfl) rfl #[.agg #[.int .i64 t231, .int .i64 t232, .int .i64 t233]] rfl mp_ ?_; (with_reducible refine (impl_MazeLines.calls k t231 t232 t233 t234 _ A13.out).mono ?_); rintro e w32 ⟨v235, rfl, ho0, hb⟩; refine ⟨_, rfl, ?_⟩; have n0_ := Aside0.mk (Kd.R_elder' (kr_ HO220.out) (Kd.R_base ho0) hb); have n1_ := Aside0.mk (Kd.R_elder' (kr_ HO226.out) (Kd.R_base ho0) hb); have n2_ := Aside0.mk (Kd.R_lower (Kd.R_new' (Kd.R_new' ho0 (Kd.R_lt (kr_ HO220.out))) (Kd.R_lt (kr_ HO226.out))) (below_size hb_)); have n3_ := Aside0.mk (blk_below (g := gb214) (o := .cells #[.int .i64 a0_0, .int .i64 a0_1, .int .i64 a0_2] 25 (0, 0)) (kb_ BK214.out) hb); have n4_ := Aside0.mk (below_step hb_ hb); clear HO220; clear HO226; clear BK214; clear HB; have HO220 := n0_; have HO226 := n1_; have HO236 := n2_; have BK214 := n3_; have HB := n4_; clear n0_ n1_ n2_ n3_ n4_; (try clear hb); (try clear hb2); (try clear hk); (try clear hi); (try clear ho0); obtain ⟨Ao33, co33, eo33⟩ := Kd.R_slice HO236.out; subst eo33) | ((with_reducible refine gate_callee (f := 8) rfl ?_); refine goesL_ (some 34) rfl rfl Try.func8 (by kernel_rfl) rfl #[.slice Ao33 t234.length co33, .slice Ao27 t218.length co27] rfl mp_ ?_; (with_reducible refine (laws_eqStringS.calls k _ _ t234 _ _ t218 true _ ?side1 ?side2 ?side3 ?side4 A14.out).mono ?_); (case side1 => repeat (first | exact (Kd.R_reads' HO236.out).2.2 | (with_reducible refine Kd.C_alloc ?_ _) | (with_reducible refine Kd.C_drewN ?_ _) | (with_reducible refine Kd.C_drew ?_))); (case side2 => exact (Kd.R_reads' HO236.out).2.1); (case side3 => repeat (first | exact (Kd.R_reads' HO220.out).2.2 | (with_reducible refine Kd.C_alloc ?_ _) | (with_reducible refine Kd.C_drewN ?_ _) | (with_reducible refine Kd.C_drew ?_))); (case side4 => exact (Kd.R_reads' HO220.out).2.1); rintro e w' ⟨rfl, ⟨nd, rfl⟩⟩; refine ⟨_, rfl, ?_⟩) | ((with_reducible refine gate_callee (f := 10) rfl ?_); refine goesL_ (some 38) rfl rfl Try.func10 (by kernel_rfl) rfl #[.slice Ao26 t229.length co26, .int .i64 1] rfl (by (try simp only [List.map_toArray, List.map_cons, List.map_nil]); first | done | (rw [show t229.length = t224.length from (Kd.R_reads' HO226.out).1.symm] <;> rfl) | rfl | (simp only [List.length_drop, List.length_take]; rfl)) ?_; (with_reducible refine (laws_heldStringS.calls k _ _ t229 1 t238 _ ?side1 ?side2 A16.out).mono ?_); (case side1 => repeat (first | exact (Kd.R_reads' HO226.out).2.2 | (with_reducible refine Kd.C_alloc ?_ _) | (with_reducible refine Kd.C_drewN ?_ _) | (with_reducible refine Kd.C_drew ?_))); (case side2 => rw [show t229.length = t224.length from (Kd.R_reads' HO226.out).1.symm]; exact (Kd.R_reads' HO226.out).2.1); rintro e w34 ⟨rfl, hb⟩; refine ⟨_, rfl, ?_⟩; have n0_ := Aside0.mk (Kd.R_below (kr_ HO220.out) hb); have n1_ := Aside0.mk (Kd.R_below (kr_ HO226.out) hb); have n2_ := Aside0.mk (Kd.R_below (kr_ HO236.out) hb); have n3_ := Aside0.mk (blk_below (g := gb214) (o := .cells #[.int .i64 a0_0, .int .i64 a0_1, .int .i64 a0_2] 25 (0, 0)) (kb_ BK214.out) hb); have n4_ := Aside0.mk (below_step hb_ hb); clear HO220; clear HO226; clear HO236; clear BK214; clear HB; have HO220 := n0_; have HO226 := n1_; have HO236 := n2_; have BK214 := n3_; have HB := n4_; clear n0_ n1_ n2_ n3_ n4_; (try clear hb); (try clear hb2); (try clear hk); (try clear hi)))
       go_ret
       exact ⟨by first | rfl | (simp [errW_none, errW_some] <;> rfl) | (simp only [EA4.out.1, EA4.out.2.1, EA4.out.2.2, EA12.out.1, EA12.out.2.1, EA12.out.2.2, EA16.out]; first | rfl | (simp [errW_none, errW_some] <;> rfl)) | (simp [*, errW_none, errW_some] <;> rfl), hb_⟩
      ·rw [if_neg c18] at H
       have c18b0 : (t238 == t228) = false := beq_eq_false_iff_ne.mpr c18
       have c18b1 : (t238 != t228) = true := bne_iff_ne.mpr c18
       exact absurd ((Option.some.inj H).trans HT_.out) (by decide)
    ·replace c15 := Bool.eq_false_iff.mpr c15
     subst c15
     have H1 : (some false) = some r := by rw [if_neg (show ¬ (false = true) by decide)] at H; exact H
     clear H
     have H := H1
     clear H1
     exact absurd ((Option.some.inj H).trans HT_.out) (by decide)
   ·rw [if_neg c11] at H
    have c11b0 : (t230 == t228) = false := beq_eq_false_iff_ne.mpr c11
    have c11b1 : (t230 != t228) = true := bne_iff_ne.mpr c11
    exact absurd ((Option.some.inj H).trans HT_.out) (by decide)
 ·replace c7 := Bool.eq_false_iff.mpr c7
  subst c7
  have H1 : (some false) = some r := by rw [if_neg (show ¬ (false = true) by decide)] at H; exact H
  clear H
  have H := H1
  clear H1
  exact absurd ((Option.some.inj H).trans HT_.out) (by decide)

/-- THE ONE PURE STATEMENT of laws_FnExactMazeLines: yours. -/
def laws_FnExactMazeLines.Pure : Prop := ∀ (a0_0 : Int) (a0_1 : Int) (a0_2 : Int), (Lit.int .i64 a0_0).wf = true → (Lit.int .i64 a0_1).wf = true → (Lit.int .i64 a0_2).wf = true → ∃ k, laws_FnExactMazeLines.f k a0_0 a0_1 a0_2 = some true
theorem laws_FnExactMazeLines.walk (P : laws_FnExactMazeLines.Pure) (a0_0 : Int) (a0_1 : Int) (a0_2 : Int) (w : World) (w0_0 : (Lit.int .i64 a0_0).wf = true) (w0_1 : (Lit.int .i64 a0_1).wf = true) (w0_2 : (Lit.int .i64 a0_2).wf = true) :
  Calls Try.prog 3 #[.agg #[.int .i64 a0_0, .int .i64 a0_1, .int .i64 a0_2]] w fun e w' => e = .returned (.bool true) ∧ Below w.heap.size w w' := by
 obtain ⟨k, h⟩ := P a0_0 a0_1 a0_2 w0_0 w0_1 w0_2
 refine (laws_FnExactMazeLines.calls k a0_0 a0_1 a0_2 true w ⟨rfl⟩ h).mono ?_
 rintro e w' ⟨rfl, hd⟩
 exact ⟨rfl, hd⟩

end Go.Proofs.Ytcmdjbaehecicaa.Q
