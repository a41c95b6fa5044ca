/- Plain Lean functions of Go functions, and for each the proof that its call comes to just that answer. Conditions: in each theorem's statement. -/
import Derived.Test.YtpaecckpdaiogaaQx0
import Derived.Test.YtpaecckpdaiogaaQx16
import Derived.Test.YtpaecckpdaiogaaQx19
import Derived.Test.YtpaecckpdaiogaaQx20
import Derived.Test.YtpaecckpdaiogaaQx22
import Derived.Test.YtpaecckpdaiogaaWApart
import Derived.Test.YtpaecckpdaiogaaWKept
import Derived.Test.YtpaecckpdaiogaaWMore
namespace Go.Proofs.Ytpaecckpdaiogaa.Q
open Go.RowKit Go.Proofs.YtpaecckpdaiogaaW.PrintWords Go.Proofs.YtpaecckpdaiogaaW.PrintLast
attribute [local go_sem] max2_int min2_int max_two min_two   -- for this text's walks alone
set_option linter.unusedVariables false
set_option linter.unusedSimpArgs false

/-! ### laws_FnExactJunctions: function 4 -/
def laws_FnExactJunctions.f (k : Nat) (a0_0 : Int) (a0_1 : Int) (a0_2 : Int) : Option (Bool) := (laws_toMaze.f a0_0 a0_1 a0_2).bind fun bt230 => ((spec_Junctions.f k bt230.1 bt230.2.1 bt230.2.2).bind fun t233 => ((laws_toMaze.f a0_0 a0_1 a0_2).bind fun bt236 => ((impl_Junctions.f k bt236.1 bt236.2.1 bt236.2.2).bind fun t239 => ((laws_eqIntS.f k t239 t233).bind fun t242 => (if t242 = true then ((laws_markIntS.f k t239 1).bind fun bt243 => ((laws_heldIntS.f k bt243.2 1).bind fun t245 => (if t245 < 0 then (some false) else (if t245 = bt243.1 then ((laws_toMaze.f a0_0 a0_1 a0_2).bind fun bt246 => ((impl_Junctions.f k bt246.1 bt246.2.1 bt246.2.2).bind fun t249 => ((laws_eqIntS.f k t249 t233).bind fun t252 => (if t252 = true then ((laws_heldIntS.f k bt243.2 1).bind fun t253 => (if t253 < 0 then (some false) else (if t253 = bt243.1 then (some true) else (some false)))) else (some false))))) else (some false))))) else (some false))))))
theorem laws_FnExactJunctions.mono : ∀ a0 a1 a2 k, LeO (laws_FnExactJunctions.f k a0 a1 a2) (laws_FnExactJunctions.f (k + 1) a0 a1 a2) := by
 intro a0 a1 a2 k
 unfold laws_FnExactJunctions.f
 repeat' first
   | (with_reducible exact impl_Junctions.mono _ _ _ _)
   | (with_reducible exact laws_eqIntS.mono _ _ _)
   | (with_reducible exact laws_heldIntS.mono _ _ _)
   | (with_reducible exact laws_markIntS.mono _ _ _)
   | (with_reducible exact spec_Junctions.mono _ _ _ _)
   | (with_reducible exact LeO.refl _)
   | (with_reducible exact LeO.none _)
   | (with_reducible refine LeO.ite ?_ ?_)
   | (with_reducible refine LeO.bind ?_ (fun _ => ?_))
   | exact impl_Junctions.mono _ _ _ _
   | exact laws_eqIntS.mono _ _ _
   | exact laws_heldIntS.mono _ _ _
   | exact laws_markIntS.mono _ _ _
   | exact spec_Junctions.mono _ _ _ _
   | exact LeO.none _
   | refine LeO.ite ?_ ?_
   | refine LeO.bind ?_ (fun _ => ?_)
set_option maxHeartbeats 8000000 in
set_option maxRecDepth 100000 in
theorem laws_FnExactJunctions.calls (k : Nat) (a0_0 : Int) (a0_1 : Int) (a0_2 : Int) (r : Bool) (w : World) (HT_ : Aside0 (r = true)) (h : laws_FnExactJunctions.f k a0_0 a0_1 a0_2 = some r) :
  Calls Try.prog 4 #[.agg #[.int .i64 a0_0, .int .i64 a0_1, .int .i64 a0_2]] w fun e w' => e = .returned (.bool r) ∧ Below w.heap.size w w' := by
 have hu25 := Try.underlying25
 have HB := Aside0.mk (Below.refl w.heap.size w)
 have H : ((laws_toMaze.f a0_0 a0_1 a0_2).bind fun bt230 => ((spec_Junctions.f k bt230.1 bt230.2.1 bt230.2.2).bind fun t233 => ((laws_toMaze.f a0_0 a0_1 a0_2).bind fun bt236 => ((impl_Junctions.f k bt236.1 bt236.2.1 bt236.2.2).bind fun t239 => ((laws_eqIntS.f k t239 t233).bind fun t242 => (if t242 = true then ((laws_markIntS.f k t239 1).bind fun bt243 => ((laws_heldIntS.f k bt243.2 1).bind fun t245 => (if t245 < 0 then (some false) else (if t245 = bt243.1 then ((laws_toMaze.f a0_0 a0_1 a0_2).bind fun bt246 => ((impl_Junctions.f k bt246.1 bt246.2.1 bt246.2.2).bind fun t249 => ((laws_eqIntS.f k t249 t233).bind fun t252 => (if t252 = true then ((laws_heldIntS.f k bt243.2 1).bind fun t253 => (if t253 < 0 then (some false) else (if t253 = bt243.1 then (some true) else (some false)))) else (some false))))) else (some false))))) else (some false))))))) = some r := h
 clear h
 replace H := Option.bind_eq_some_iff.mp H
 obtain ⟨⟨t230, t231, t232⟩, A20, H⟩ := H
 replace H : ((spec_Junctions.f k t230 t231 t232).bind fun t233 => ((laws_toMaze.f a0_0 a0_1 a0_2).bind fun bt236 => ((impl_Junctions.f k bt236.1 bt236.2.1 bt236.2.2).bind fun t239 => ((laws_eqIntS.f k t239 t233).bind fun t242 => (if t242 = true then ((laws_markIntS.f k t239 1).bind fun bt243 => ((laws_heldIntS.f k bt243.2 1).bind fun t245 => (if t245 < 0 then (some false) else (if t245 = bt243.1 then ((laws_toMaze.f a0_0 a0_1 a0_2).bind fun bt246 => ((impl_Junctions.f k bt246.1 bt246.2.1 bt246.2.2).bind fun t249 => ((laws_eqIntS.f k t249 t233).bind fun t252 => (if t252 = true then ((laws_heldIntS.f k bt243.2 1).bind fun t253 => (if t253 < 0 then (some false) else (if t253 = bt243.1 then (some true) else (some false)))) else (some false))))) else (some false))))) else (some false)))))) = some r := H
 have A2 := Aside0.mk A20
 clear A20
 replace H := Option.bind_eq_some_iff.mp H
 obtain ⟨t233, A30, H⟩ := H
 replace H : ((laws_toMaze.f a0_0 a0_1 a0_2).bind fun bt236 => ((impl_Junctions.f k bt236.1 bt236.2.1 bt236.2.2).bind fun t239 => ((laws_eqIntS.f k t239 t233).bind fun t242 => (if t242 = true then ((laws_markIntS.f k t239 1).bind fun bt243 => ((laws_heldIntS.f k bt243.2 1).bind fun t245 => (if t245 < 0 then (some false) else (if t245 = bt243.1 then ((laws_toMaze.f a0_0 a0_1 a0_2).bind fun bt246 => ((impl_Junctions.f k bt246.1 bt246.2.1 bt246.2.2).bind fun t249 => ((laws_eqIntS.f k t249 t233).bind fun t252 => (if t252 = true then ((laws_heldIntS.f k bt243.2 1).bind fun t253 => (if t253 < 0 then (some false) else (if t253 = bt243.1 then (some true) else (some false)))) else (some false))))) else (some false))))) else (some false))))) = some r := H
 have A3 := Aside0.mk A30
 clear A30
 replace H := Option.bind_eq_some_iff.mp H
 obtain ⟨⟨t236, t237, t238⟩, A40, H⟩ := H
 replace H : ((impl_Junctions.f k t236 t237 t238).bind fun t239 => ((laws_eqIntS.f k t239 t233).bind fun t242 => (if t242 = true then ((laws_markIntS.f k t239 1).bind fun bt243 => ((laws_heldIntS.f k bt243.2 1).bind fun t245 => (if t245 < 0 then (some false) else (if t245 = bt243.1 then ((laws_toMaze.f a0_0 a0_1 a0_2).bind fun bt246 => ((impl_Junctions.f k bt246.1 bt246.2.1 bt246.2.2).bind fun t249 => ((laws_eqIntS.f k t249 t233).bind fun t252 => (if t252 = true then ((laws_heldIntS.f k bt243.2 1).bind fun t253 => (if t253 < 0 then (some false) else (if t253 = bt243.1 then (some true) else (some false)))) else (some false))))) else (some false))))) else (some false)))) = some r := H
 have A4 := Aside0.mk A40
 clear A40
 have EA4 := Aside0.mk (show t236 = t230 ∧ t237 = t231 ∧ t238 = t232 from by have e_ := Option.some.inj (A4.out.symm.trans A2.out); simpa only [Prod.mk.injEq] using e_)
 replace H := Option.bind_eq_some_iff.mp H
 obtain ⟨t239, A50, H⟩ := H
 replace H : ((laws_eqIntS.f k t239 t233).bind fun t242 => (if t242 = true then ((laws_markIntS.f k t239 1).bind fun bt243 => ((laws_heldIntS.f k bt243.2 1).bind fun t245 => (if t245 < 0 then (some false) else (if t245 = bt243.1 then ((laws_toMaze.f a0_0 a0_1 a0_2).bind fun bt246 => ((impl_Junctions.f k bt246.1 bt246.2.1 bt246.2.2).bind fun t249 => ((laws_eqIntS.f k t249 t233).bind fun t252 => (if t252 = true then ((laws_heldIntS.f k bt243.2 1).bind fun t253 => (if t253 < 0 then (some false) else (if t253 = bt243.1 then (some true) else (some false)))) else (some false))))) else (some false))))) else (some false))) = some r := H
 have A5 := Aside0.mk A50
 clear A50
 replace H := Option.bind_eq_some_iff.mp H
 obtain ⟨t242, A60, H⟩ := H
 replace H : (if t242 = true then ((laws_markIntS.f k t239 1).bind fun bt243 => ((laws_heldIntS.f k bt243.2 1).bind fun t245 => (if t245 < 0 then (some false) else (if t245 = bt243.1 then ((laws_toMaze.f a0_0 a0_1 a0_2).bind fun bt246 => ((impl_Junctions.f k bt246.1 bt246.2.1 bt246.2.2).bind fun t249 => ((laws_eqIntS.f k t249 t233).bind fun t252 => (if t252 = true then ((laws_heldIntS.f k bt243.2 1).bind fun t253 => (if t253 < 0 then (some false) else (if t253 = bt243.1 then (some true) else (some false)))) else (some false))))) else (some false))))) else (some false)) = some r := H
 have A6 := Aside0.mk A60
 clear A60
 by_cases c7 : t242 = true
 ·subst c7
  have H1 : ((laws_markIntS.f k t239 1).bind fun bt243 => ((laws_heldIntS.f k bt243.2 1).bind fun t245 => (if t245 < 0 then (some false) else (if t245 = bt243.1 then ((laws_toMaze.f a0_0 a0_1 a0_2).bind fun bt246 => ((impl_Junctions.f k bt246.1 bt246.2.1 bt246.2.2).bind fun t249 => ((laws_eqIntS.f k t249 t233).bind fun t252 => (if t252 = true then ((laws_heldIntS.f k bt243.2 1).bind fun t253 => (if t253 < 0 then (some false) else (if t253 = bt243.1 then (some true) else (some false)))) else (some false))))) else (some false))))) = some r := by rw [if_pos rfl] at H; exact H
  clear H
  have H := H1
  clear H1
  replace H := Option.bind_eq_some_iff.mp H
  obtain ⟨⟨t243, t244⟩, A80, H⟩ := H
  replace H : ((laws_heldIntS.f k t244 1).bind fun t245 => (if t245 < 0 then (some false) else (if t245 = t243 then ((laws_toMaze.f a0_0 a0_1 a0_2).bind fun bt246 => ((impl_Junctions.f k bt246.1 bt246.2.1 bt246.2.2).bind fun t249 => ((laws_eqIntS.f k t249 t233).bind fun t252 => (if t252 = true then ((laws_heldIntS.f k t244 1).bind fun t253 => (if t253 < 0 then (some false) else (if t253 = t243 then (some true) else (some false)))) else (some false))))) else (some false)))) = some r := H
  have A8 := Aside0.mk A80
  clear A80
  replace H := Option.bind_eq_some_iff.mp H
  obtain ⟨t245, A90, H⟩ := H
  replace H : (if t245 < 0 then (some false) else (if t245 = t243 then ((laws_toMaze.f a0_0 a0_1 a0_2).bind fun bt246 => ((impl_Junctions.f k bt246.1 bt246.2.1 bt246.2.2).bind fun t249 => ((laws_eqIntS.f k t249 t233).bind fun t252 => (if t252 = true then ((laws_heldIntS.f k t244 1).bind fun t253 => (if t253 < 0 then (some false) else (if t253 = t243 then (some true) else (some false)))) else (some false))))) else (some false))) = some r := H
  have A9 := Aside0.mk A90
  clear A90
  by_cases c10 : t245 < 0
  ·rw [if_pos c10] at H
   have c10b0 : decide (t245 < 0) = true := decide_eq_true c10
   clear c10
   exact absurd ((Option.some.inj H).trans HT_.out) (by decide)
  ·rw [if_neg c10] at H
   have c10b0 : decide (t245 < 0) = false := decide_eq_false c10
   clear c10
   by_cases c11 : t245 = t243
   ·rw [if_pos c11] at H
    have c11b0 : (t245 == t243) = true := beq_iff_eq.mpr c11
    have c11b1 : (t245 != t243) = false := bne_eq_false_iff_eq.mpr c11
    clear c11
    replace H := Option.bind_eq_some_iff.mp H
    obtain ⟨⟨t246, t247, t248⟩, A120, H⟩ := H
    replace H : ((impl_Junctions.f k t246 t247 t248).bind fun t249 => ((laws_eqIntS.f k t249 t233).bind fun t252 => (if t252 = true then ((laws_heldIntS.f k t244 1).bind fun t253 => (if t253 < 0 then (some false) else (if t253 = t243 then (some true) else (some false)))) else (some false)))) = some r := H
    have A12 := Aside0.mk A120
    clear A120
    have EA12 := Aside0.mk (show t246 = t230 ∧ t247 = t231 ∧ t248 = t232 from by have e_ := Option.some.inj (A12.out.symm.trans A2.out); simpa only [Prod.mk.injEq] using e_)
    replace H := Option.bind_eq_some_iff.mp H
    obtain ⟨t249, A130, H⟩ := H
    replace H : ((laws_eqIntS.f k t249 t233).bind fun t252 => (if t252 = true then ((laws_heldIntS.f k t244 1).bind fun t253 => (if t253 < 0 then (some false) else (if t253 = t243 then (some true) else (some false)))) else (some false))) = some r := H
    have A13 := Aside0.mk A130
    clear A130
    replace H := Option.bind_eq_some_iff.mp H
    obtain ⟨t252, A140, H⟩ := H
    replace H : (if t252 = true then ((laws_heldIntS.f k t244 1).bind fun t253 => (if t253 < 0 then (some false) else (if t253 = t243 then (some true) else (some false)))) else (some false)) = some r := H
    have A14 := Aside0.mk A140
    clear A140
    by_cases c15 : t252 = true
    ·subst c15
     have H1 : ((laws_heldIntS.f k t244 1).bind fun t253 => (if t253 < 0 then (some false) else (if t253 = t243 then (some true) else (some false)))) = some r := by rw [if_pos rfl] at H; exact H
     clear H
     have H := H1
     clear H1
     replace H := Option.bind_eq_some_iff.mp H
     obtain ⟨t253, A160, H⟩ := H
     replace H : (if t253 < 0 then (some false) else (if t253 = t243 then (some true) else (some false))) = some r := H
     have A16 := Aside0.mk A160
     clear A160
     have EA16 := Aside0.mk (show t253 = t245 from by have e_ := Option.some.inj (A16.out.symm.trans A9.out); simpa only [Prod.mk.injEq] using e_)
     by_cases c17 : t253 < 0
     ·rw [if_pos c17] at H
      have c17b0 : decide (t253 < 0) = true := decide_eq_true c17
      clear c17
      exact absurd ((Option.some.inj H).trans HT_.out) (by decide)
     ·rw [if_neg c17] at H
      have c17b0 : decide (t253 < 0) = false := decide_eq_false c17
      clear c17
      by_cases c18 : t253 = t243
      ·rw [if_pos c18] at H
       have c18b0 : (t253 == t243) = true := beq_iff_eq.mpr c18
       have c18b1 : (t253 != t243) = false := bne_eq_false_iff_eq.mpr c18
       clear c18
       obtain rfl := Option.some.inj H
       go_enter Try.func4, Try.ntmps4
       go_wp2_with (first | ((with_reducible refine gate_dst (N := 1) rfl ?_); refine box_event ?hg (N := 1) ?hd (cs := #[.int .i64 a0_0, .int .i64 a0_1, .int .i64 a0_2]) (t := 25) ?hr ?_; (case hd => rfl); (case hg => rfl); (case hr => first | (go_simp; done) | (go_simp; rfl)); intro gb229 hg w19 hbox hb; have n0_ := Aside0.mk (below_step hb_ hb); have n1_ := Aside0.mk (hbox); have n2_ := Aside0.mk ((by rw [hg]; exact (below_size hb_) : w.heap.size ≤ gb229)); have n3_ := Aside0.mk ((by rw [hg]; exact (below_size hb_) : w.heap.size ≤ gb229)); clear HB; have HB := n0_; have BK229 := n1_; have GW229 := n2_; have GE229 := n3_; clear n0_ n1_ n2_ n3_; clear hb hbox hg; have hcz20_0 := cz_ (.int .i64 a0_0) BK229.out 0; have hcz20_1 := cz_ (.int .i64 a0_1) BK229.out 1; have hcz20_2 := cz_ (.int .i64 a0_2) BK229.out 2; have hfz20_0 := blk_frozen BK229.out 0; have hfz20_1 := blk_frozen BK229.out 1; have hfz20_2 := blk_frozen BK229.out 2) | ((with_reducible refine gate_callee (f := 16) rfl ?_); refine goesL_ (some 9) rfl rfl Try.func16 (by kernel_rfl) rfl #[.agg #[.int .i64 a0_0, .int .i64 a0_1, .int .i64 a0_2]] rfl mp_ ?_; (with_reducible refine (laws_toMaze.calls a0_0 a0_1 a0_2 t230 t231 t232 _ A2.out).mono ?_); rintro e w21 ⟨rfl, hb⟩; refine ⟨_, rfl, ?_⟩; have n0_ := Aside0.mk (blk_below (g := gb229) (o := .cells #[.int .i64 a0_0, .int .i64 a0_1, .int .i64 a0_2] 25 (0, 0)) (kb_ BK229.out) hb); have n1_ := Aside0.mk (below_step hb_ hb); clear BK229; clear HB; have BK229 := n0_; have HB := n1_; clear n0_ n1_; (try clear hb); (try clear hb2); (try clear hk); (try clear hi)) | ((with_reducible refine gate_callee (f := 21) rfl ?_); refine goesL_ (some 10) rfl rfl Try.func21 (by kernel_rfl) rfl #[.agg #[.int .i64 t230, .int .i64 t231, .int .i64 t232]] rfl mp_ ?_; (with_reducible refine (spec_Junctions.calls k t230 t231 t232 t233 _ A3.out).mono ?_); rintro e w22 ⟨v234, rfl, ho0, hb⟩; refine ⟨_, rfl, ?_⟩; have n0_ := Aside0.mk (Kd.R_lower ho0 (below_size hb_)); have n1_ := Aside0.mk (blk_below (g := gb229) (o := .cells #[.int .i64 a0_0, .int .i64 a0_1, .int .i64 a0_2] 25 (0, 0)) (kb_ BK229.out) hb); have n2_ := Aside0.mk (below_step hb_ hb); clear BK229; clear HB; have HO235 := n0_; have BK229 := n1_; have HB := n2_; clear n0_ n1_ n2_; (try clear hb); (try clear hb2); (try clear hk); (try clear hi); (try clear ho0); have hcz23_0 := cz_ (.int .i64 a0_0) BK229.out 0; have hcz23_1 := cz_ (.int .i64 a0_1) BK229.out 1; have hcz23_2 := cz_ (.int .i64 a0_2) BK229.out 2; have hfz23_0 := blk_frozen BK229.out 0; have hfz23_1 := blk_frozen BK229.out 1; have hfz23_2 := blk_frozen BK229.out 2) | ((with_reducible refine gate_callee (f := 16) rfl ?_); refine goesL_ (some 12) rfl rfl Try.func16 (by kernel_rfl) rfl #[.agg #[.int .i64 a0_0, .int .i64 a0_1, .int .i64 a0_2]] rfl mp_ ?_; (with_reducible refine (laws_toMaze.calls a0_0 a0_1 a0_2 t236 t237 t238 _ A4.out).mono ?_); rintro e w24 ⟨rfl, hb⟩; refine ⟨_, rfl, ?_⟩; have n0_ := Aside0.mk (Kd.R_below (kr_ HO235.out) hb); have n1_ := Aside0.mk (blk_below (g := gb229) (o := .cells #[.int .i64 a0_0, .int .i64 a0_1, .int .i64 a0_2] 25 (0, 0)) (kb_ BK229.out) hb); have n2_ := Aside0.mk (below_step hb_ hb); clear HO235; clear BK229; clear HB; have HO235 := n0_; have BK229 := n1_; have HB := n2_; clear n0_ n1_ n2_; (try clear hb); (try clear hb2); (try clear hk); (try clear hi)) | ((with_reducible refine gate_callee (f := 22) rfl ?_); refine goesL_ (some 13) rfl rfl Try.func22 (by kernel_rfl) rfl #[.agg #[.int .i64 t236, .int .i64 t237, .int .i64 t238]] rfl mp_ ?_; (with_reducible refine (impl_Junctions.calls k t236 t237 t238 t239 _ A5.out).mono ?_); rintro e w25 ⟨v240, rfl, ho0, hb⟩; refine ⟨_, rfl, ?_⟩; have n0_ := Aside0.mk (Kd.R_elder' (kr_ HO235.out) (Kd.R_base ho0) hb); have n1_ := Aside0.mk (Kd.R_lower (Kd.R_new' ho0 (Kd.R_lt (kr_ HO235.out))) (below_size hb_)); have n2_ := Aside0.mk (blk_below (g := gb229) (o := .cells #[.int .i64 a0_0, .int .i64 a0_1, .int .i64 a0_2] 25 (0, 0)) (kb_ BK229.out) hb); have n3_ := Aside0.mk (below_step hb_ hb); clear HO235; clear BK229; clear HB; have HO235 := n0_; have HO241 := n1_; have BK229 := n2_; have HB := n3_; clear n0_ n1_ n2_ n3_; (try clear hb); (try clear hb2); (try clear hk); (try clear hi); (try clear ho0); obtain ⟨Ao26, co26, eo26⟩ := Kd.R_slice HO241.out; subst eo26; obtain ⟨Ao27, co27, eo27⟩ := Kd.R_slice HO235.out; subst eo27) | ((with_reducible refine gate_callee (f := 18) rfl ?_); refine goesL_ (some 16) rfl rfl Try.func18 (by kernel_rfl) rfl #[.slice Ao26 t239.length co26, .slice Ao27 t233.length co27] rfl mp_ ?_; (with_reducible refine (laws_eqIntS.calls k _ _ t239 _ _ t233 true _ ?side1 ?side2 ?side3 ?side4 A6.out).mono ?_); (case side1 => repeat (first | exact (Kd.R_reads' HO241.out).2.2 | (with_reducible refine Kd.C_alloc ?_ _) | (with_reducible refine Kd.C_drewN ?_ _) | (with_reducible refine Kd.C_drew ?_))); (case side2 => exact (Kd.R_reads' HO241.out).2.1); (case side3 => repeat (first | exact (Kd.R_reads' HO235.out).2.2 | (with_reducible refine Kd.C_alloc ?_ _) | (with_reducible refine Kd.C_drewN ?_ _) | (with_reducible refine Kd.C_drew ?_))); (case side4 => exact (Kd.R_reads' HO235.out).2.1); rintro e w' ⟨rfl, ⟨nd, rfl⟩⟩; refine ⟨_, rfl, ?_⟩) | ((with_reducible refine gate_callee (f := 19) rfl ?_); refine goesL_ (some 20) rfl rfl Try.func19 (by kernel_rfl) rfl #[.slice Ao26 t239.length co26, .int .i64 1] rfl mp_ ?_; (with_reducible refine (laws_markIntS.calls k (fun k_ => some k_ = (.slice Ao26 t239.length co26 : Value).ownBlock) (.slice Ao26 t239.length co26) t239 1 t243 t244 w _ ?side1 ?side2 A8.out).mono ?_); (case side1 => repeat (first | (with_reducible first | exact HB.out | apply below_alloc | apply pw_below_drewN | apply below_drew1 | refine below_set ?_ GE229.out) | exact HB.out)); (case side2 => exact Kd.R_tight rfl HO241.out); rintro e w28 ⟨rfl, hy0, hb, hkp⟩; refine ⟨_, rfl, ?_⟩; have n0_ := Aside0.mk (blk_kept (kb_ BK229.out) hkp (fun hs_ => (fun e_ => (Kd.R_ne HO241.out BK229.out (by decide)) e_) hs_)); have n1_ := Aside0.mk (Kd.R_mono (ok' := fun k_ => some k_ ≠ (.slice Ao26 t239.length co26 : Value).ownBlock) (Kd.R_keptB (HO235.out) hkp (fun k_ hk_ hs_ => (hk_.2) hs_)) (fun k_ hk_ => hk_.1.2)); have n2_ := Aside0.mk (Kd.R_reok rfl hy0 (fun k_ e_ => HO241.out.1 k_ e_)); have n3_ := Aside0.mk (hb); clear BK229; clear HO235; clear HO241; clear HB; have BK229 := n0_; have HO235 := n1_; have HO241 := n2_; have HB := n3_; clear n0_ n1_ n2_ n3_; (try clear hb); (try clear hkp); (try clear hy0)) | ((with_reducible refine gate_callee (f := 20) rfl ?_); refine goesL_ (some 23) rfl rfl Try.func20 (by kernel_rfl) rfl #[.slice Ao26 t244.length co26, .int .i64 1] rfl (by (try simp only [List.map_toArray, List.map_cons, List.map_nil]); first | done | (rw [show t244.length = t239.length from (Kd.R_reads' HO241.out).1.symm] <;> rfl) | rfl | (simp only [List.length_drop, List.length_take]; rfl)) ?_; (with_reducible refine (laws_heldIntS.calls k _ _ t244 1 t245 _ ?side1 ?side2 A9.out).mono ?_); (case side1 => repeat (first | exact (Kd.R_reads' HO241.out).2.2 | (with_reducible refine Kd.C_alloc ?_ _) | (with_reducible refine Kd.C_drewN ?_ _) | (with_reducible refine Kd.C_drew ?_))); (case side2 => rw [show t244.length = t239.length from (Kd.R_reads' HO241.out).1.symm]; exact (Kd.R_reads' HO241.out).2.1); rintro e w' ⟨rfl, ⟨nd, rfl⟩⟩; refine ⟨_, rfl, ?_⟩; have hcz29_0 := cz_ (.int .i64 a0_0) BK229.out 0; have hcz29_1 := cz_ (.int .i64 a0_1) BK229.out 1; have hcz29_2 := cz_ (.int .i64 a0_2) BK229.out 2; have hfz29_0 := blk_frozen BK229.out 0; have hfz29_1 := blk_frozen BK229.out 1; have hfz29_2 := blk_frozen BK229.out 2) | ((with_reducible refine gate_callee (f := 16) rfl ?_); refine goesL_ (some 30) rfl rfl Try.func16 (by kernel_rfl) rfl #[.agg #[.int .i64 a0_0, .int .i64 a0_1, .int .i64 a0_2]] rfl mp_ ?_; (with_reducible refine (laws_toMaze.calls a0_0 a0_1 a0_2 t246 t247 t248 _ A12.out).mono ?_); rintro e w30 ⟨rfl, hb⟩; refine ⟨_, rfl, ?_⟩; have n0_ := Aside0.mk (Kd.R_below (kr_ HO235.out) hb); have n1_ := Aside0.mk (Kd.R_below (kr_ HO241.out) hb); have n2_ := Aside0.mk (blk_below (g := gb229) (o := .cells #[.int .i64 a0_0, .int .i64 a0_1, .int .i64 a0_2] 25 (0, 0)) (kb_ BK229.out) hb); have n3_ := Aside0.mk (below_step hb_ hb); clear HO235; clear HO241; clear BK229; clear HB; have HO235 := n0_; have HO241 := n1_; have BK229 := n2_; have HB := n3_; clear n0_ n1_ n2_ n3_; (try clear hb); (try clear hb2); (try clear hk); (try clear hi)) | ((with_reducible refine gate_callee (f := 22) rfl ?_); refine goesL_ (some 31) rfl rfl Try.func22 (by kernel_rfl) rfl #[.agg #[.int .i64 t246, .int .i64 t247, .int .i64 t248]] rfl mp_ ?_; (with_reducible refine (impl_Junctions.calls k t246 t247 t248 t249 _ A13.out).mono ?_); rintro e w31 ⟨v250, rfl, ho0, hb⟩; refine ⟨_, rfl, ?_⟩; have n0_ := Aside0.mk (Kd.R_elder' (kr_ HO235.out) (Kd.R_base ho0) hb); have n1_ := Aside0.mk (Kd.R_elder' (kr_ HO241.out) (Kd.R_base ho0) hb); have n2_ := Aside0.mk (Kd.R_lower (Kd.R_new' (Kd.R_new' ho0 (Kd.R_lt (kr_ HO235.out))) (Kd.R_lt (kr_ HO241.out))) (below_size hb_)); have n3_ := Aside0.mk (blk_below (g := gb229) (o := .cells #[.int .i64 a0_0, .int .i64 a0_1, .int .i64 a0_2] 25 (0, 0)) (kb_ BK229.out) hb); have n4_ := Aside0.mk (below_step hb_ hb); clear HO235; clear HO241; clear BK229; clear HB; have HO235 := n0_; have HO241 := n1_; have HO251 := n2_; have BK229 := n3_; have HB := n4_; clear n0_ n1_ n2_ n3_ n4_; (try clear hb); (try clear hb2); (try clear hk); (try clear hi); (try clear ho0); obtain ⟨Ao32, co32, eo32⟩ := Kd.R_slice HO251.out; subst eo32) | ((with_reducible refine gate_callee (f := 18) rfl ?_); refine goesL_ (some 34) rfl rfl Try.func18 (by kernel_rfl) rfl #[.slice Ao32 t249.length co32, .slice Ao27 t233.length co27] rfl mp_ ?_; (with_reducible refine (laws_eqIntS.calls k _ _ t249 _ _ t233 true _ ?side1 ?side2 ?side3 ?side4 A14.out).mono ?_); (case side1 => repeat (first | exact (Kd.R_reads' HO251.out).2.2 | (with_reducible refine Kd.C_alloc ?_ _) | (with_reducible refine Kd.C_drewN ?_ _) | (with_reducible refine Kd.C_drew ?_))); (case side2 => exact (Kd.R_reads' HO251.out).2.1); (case side3 => repeat (first | exact (Kd.R_reads' HO235.out).2.2 | (with_reducible refine Kd.C_alloc ?_ _) | (with_reducible refine Kd.C_drewN ?_ _) | (with_reducible refine Kd.C_drew ?_))); (case side4 => exact (Kd.R_reads' HO235.out).2.1); rintro e w' ⟨rfl, ⟨nd, rfl⟩⟩; refine ⟨_, rfl, ?_⟩) | ((with_reducible refine gate_callee (f := 20) rfl ?_); refine goesL_ (some 38) rfl rfl Try.func20 (by kernel_rfl) rfl #[.slice Ao26 t244.length co26, .int .i64 1] rfl (by (try simp only [List.map_toArray, List.map_cons, List.map_nil]); first | done | (rw [show t244.length = t239.length from (Kd.R_reads' HO241.out).1.symm] <;> rfl) | rfl | (simp only [List.length_drop, List.length_take]; rfl)) ?_; (with_reducible refine (laws_heldIntS.calls k _ _ t244 1 t253 _ ?side1 ?side2 A16.out).mono ?_); (case side1 => repeat (first | exact (Kd.R_reads' HO241.out).2.2 | (with_reducible refine Kd.C_alloc ?_ _) | (with_reducible refine Kd.C_drewN ?_ _) | (with_reducible refine Kd.C_drew ?_))); (case side2 => rw [show t244.length = t239.length from (Kd.R_reads' HO241.out).1.symm]; exact (Kd.R_reads' HO241.out).2.1); rintro e w' ⟨rfl, ⟨nd, rfl⟩⟩; refine ⟨_, rfl, ?_⟩))
       go_ret
       exact ⟨by first | rfl | (simp [errW_none, errW_some] <;> rfl) | (simp only [EA4.out.1, EA4.out.2.1, EA4.out.2.2, EA12.out.1, EA12.out.2.1, EA12.out.2.2, EA16.out]; first | rfl | (simp [errW_none, errW_some] <;> rfl)) | (simp [*, errW_none, errW_some] <;> rfl), hb_⟩
      ·rw [if_neg c18] at H
       have c18b0 : (t253 == t243) = false := beq_eq_false_iff_ne.mpr c18
       have c18b1 : (t253 != t243) = true := bne_iff_ne.mpr c18
       exact absurd ((Option.some.inj H).trans HT_.out) (by decide)
    ·replace c15 := Bool.eq_false_iff.mpr c15
     subst c15
     have H1 : (some false) = some r := by rw [if_neg (show ¬ (false = true) by decide)] at H; exact H
     clear H
     have H := H1
     clear H1
     exact absurd ((Option.some.inj H).trans HT_.out) (by decide)
   ·rw [if_neg c11] at H
    have c11b0 : (t245 == t243) = false := beq_eq_false_iff_ne.mpr c11
    have c11b1 : (t245 != t243) = true := bne_iff_ne.mpr c11
    exact absurd ((Option.some.inj H).trans HT_.out) (by decide)
 ·replace c7 := Bool.eq_false_iff.mpr c7
  subst c7
  have H1 : (some false) = some r := by rw [if_neg (show ¬ (false = true) by decide)] at H; exact H
  clear H
  have H := H1
  clear H1
  exact absurd ((Option.some.inj H).trans HT_.out) (by decide)

/-- THE ONE PURE STATEMENT of laws_FnExactJunctions: yours. -/
def laws_FnExactJunctions.Pure : Prop := ∀ (a0_0 : Int) (a0_1 : Int) (a0_2 : Int), (Lit.int .i64 a0_0).wf = true → (Lit.int .i64 a0_1).wf = true → (Lit.int .i64 a0_2).wf = true → ∃ k, laws_FnExactJunctions.f k a0_0 a0_1 a0_2 = some true
theorem laws_FnExactJunctions.walk (P : laws_FnExactJunctions.Pure) (a0_0 : Int) (a0_1 : Int) (a0_2 : Int) (w : World) (w0_0 : (Lit.int .i64 a0_0).wf = true) (w0_1 : (Lit.int .i64 a0_1).wf = true) (w0_2 : (Lit.int .i64 a0_2).wf = true) :
  Calls Try.prog 4 #[.agg #[.int .i64 a0_0, .int .i64 a0_1, .int .i64 a0_2]] w fun e w' => e = .returned (.bool true) ∧ Below w.heap.size w w' := by
 obtain ⟨k, h⟩ := P a0_0 a0_1 a0_2 w0_0 w0_1 w0_2
 refine (laws_FnExactJunctions.calls k a0_0 a0_1 a0_2 true w ⟨rfl⟩ h).mono ?_
 rintro e w' ⟨rfl, hd⟩
 exact ⟨rfl, hd⟩

end Go.Proofs.Ytpaecckpdaiogaa.Q
