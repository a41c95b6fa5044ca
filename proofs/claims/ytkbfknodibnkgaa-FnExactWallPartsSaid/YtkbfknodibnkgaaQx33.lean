/- Plain Lean functions of Go functions, and for each the proof that its call comes to just that answer. Conditions: in each theorem's statement. -/
import Derived.Test.YtkbfknodibnkgaaQx0
import Derived.Test.YtkbfknodibnkgaaQx2
import Derived.Test.YtkbfknodibnkgaaQx30
import Derived.Test.YtkbfknodibnkgaaQx32
namespace Go.Proofs.Ytkbfknodibnkgaa.Q
open Go.RowKit Go.Proofs.YtkbfknodibnkgaaW.PrintWords Go.Proofs.YtkbfknodibnkgaaW.PrintLast
attribute [local go_sem] max2_int min2_int max_two min_two   -- for this text's walks alone
set_option linter.unusedVariables false
set_option linter.unusedSimpArgs false

/-! ### laws_FnExactWallParts: function 7 -/
def laws_FnExactWallParts.f (k : Nat) (a0_0 : Int) (a0_1 : Int) (a0_2 : Int) : Option (Bool) := (laws_toMaze.f a0_0 a0_1 a0_2).bind fun bt386 => ((spec_WallParts.f k bt386.1 bt386.2.1 bt386.2.2).bind fun t389 => ((laws_toMaze.f a0_0 a0_1 a0_2).bind fun bt390 => ((impl_WallParts.f k bt390.1 bt390.2.1 bt390.2.2).bind fun t393 => (if t393 = t389 then (some true) else (some false)))))
theorem laws_FnExactWallParts.mono : ∀ a0 a1 a2 k, LeO (laws_FnExactWallParts.f k a0 a1 a2) (laws_FnExactWallParts.f (k + 1) a0 a1 a2) := by
 intro a0 a1 a2 k
 unfold laws_FnExactWallParts.f
 repeat' first
   | (with_reducible exact impl_WallParts.mono _ _ _ _)
   | (with_reducible exact spec_WallParts.mono _ _ _ _)
   | (with_reducible exact LeO.refl _)
   | (with_reducible exact LeO.none _)
   | (with_reducible refine LeO.ite ?_ ?_)
   | (with_reducible refine LeO.bind ?_ (fun _ => ?_))
   | exact impl_WallParts.mono _ _ _ _
   | exact spec_WallParts.mono _ _ _ _
   | exact LeO.none _
   | refine LeO.ite ?_ ?_
   | refine LeO.bind ?_ (fun _ => ?_)
set_option maxHeartbeats 8000000 in
set_option maxRecDepth 100000 in
theorem laws_FnExactWallParts.calls (k : Nat) (a0_0 : Int) (a0_1 : Int) (a0_2 : Int) (r : Bool) (w : World) (HT_ : Aside0 (r = true)) (h : laws_FnExactWallParts.f k a0_0 a0_1 a0_2 = some r) :
  Calls Try.prog 7 #[.agg #[.int .i64 a0_0, .int .i64 a0_1, .int .i64 a0_2]] w fun e w' => e = .returned (.bool r) ∧ Below w.heap.size w w' := by
 have hu25 := Try.underlying25
 have HB := Aside0.mk (Below.refl w.heap.size w)
 have H : ((laws_toMaze.f a0_0 a0_1 a0_2).bind fun bt386 => ((spec_WallParts.f k bt386.1 bt386.2.1 bt386.2.2).bind fun t389 => ((laws_toMaze.f a0_0 a0_1 a0_2).bind fun bt390 => ((impl_WallParts.f k bt390.1 bt390.2.1 bt390.2.2).bind fun t393 => (if t393 = t389 then (some true) else (some false)))))) = some r := h
 clear h
 replace H := Option.bind_eq_some_iff.mp H
 obtain ⟨⟨t386, t387, t388⟩, A20, H⟩ := H
 replace H : ((spec_WallParts.f k t386 t387 t388).bind fun t389 => ((laws_toMaze.f a0_0 a0_1 a0_2).bind fun bt390 => ((impl_WallParts.f k bt390.1 bt390.2.1 bt390.2.2).bind fun t393 => (if t393 = t389 then (some true) else (some false))))) = some r := H
 have A2 := Aside0.mk A20
 clear A20
 replace H := Option.bind_eq_some_iff.mp H
 obtain ⟨t389, A30, H⟩ := H
 replace H : ((laws_toMaze.f a0_0 a0_1 a0_2).bind fun bt390 => ((impl_WallParts.f k bt390.1 bt390.2.1 bt390.2.2).bind fun t393 => (if t393 = t389 then (some true) else (some false)))) = some r := H
 have A3 := Aside0.mk A30
 clear A30
 replace H := Option.bind_eq_some_iff.mp H
 obtain ⟨⟨t390, t391, t392⟩, A40, H⟩ := H
 replace H : ((impl_WallParts.f k t390 t391 t392).bind fun t393 => (if t393 = t389 then (some true) else (some false))) = some r := H
 have A4 := Aside0.mk A40
 clear A40
 have EA4 := Aside0.mk (show t390 = t386 ∧ t391 = t387 ∧ t392 = t388 from by have e_ := Option.some.inj (A4.out.symm.trans A2.out); simpa only [Prod.mk.injEq] using e_)
 replace H := Option.bind_eq_some_iff.mp H
 obtain ⟨t393, A50, H⟩ := H
 replace H : (if t393 = t389 then (some true) else (some false)) = some r := H
 have A5 := Aside0.mk A50
 clear A50
 by_cases c6 : t393 = t389
 ·rw [if_pos c6] at H
  have c6b0 : (t393 == t389) = true := beq_iff_eq.mpr c6
  have c6b1 : (t393 != t389) = false := bne_eq_false_iff_eq.mpr c6
  clear c6
  obtain rfl := Option.some.inj H
  go_enter Try.func7, Try.ntmps7
  go_wp2_with (first | ((with_reducible refine gate_dst (N := 1) rfl ?_); refine box_event ?hg (N := 1) ?hd (cs := #[.int .i64 a0_0, .int .i64 a0_1, .int .i64 a0_2]) (t := 25) ?hr ?_; (case hd => rfl); (case hg => rfl); (case hr => first | (go_simp; done) | (go_simp; rfl)); intro gb385 hg w7 hbox hb; have n0_ := Aside0.mk (below_step hb_ hb); have n1_ := Aside0.mk (hbox); have n2_ := Aside0.mk ((by rw [hg]; exact (below_size hb_) : w.heap.size ≤ gb385)); have n3_ := Aside0.mk ((by rw [hg]; exact (below_size hb_) : w.heap.size ≤ gb385)); clear HB; have HB := n0_; have BK385 := n1_; have GW385 := n2_; have GE385 := n3_; clear n0_ n1_ n2_ n3_; clear hb hbox hg; have hcz8_0 := cz_ (.int .i64 a0_0) BK385.out 0; have hcz8_1 := cz_ (.int .i64 a0_1) BK385.out 1; have hcz8_2 := cz_ (.int .i64 a0_2) BK385.out 2; have hfz8_0 := blk_frozen BK385.out 0; have hfz8_1 := blk_frozen BK385.out 1; have hfz8_2 := blk_frozen BK385.out 2) | ((with_reducible refine gate_callee (f := 11) rfl ?_); refine goesL_ (some 6) rfl rfl Try.func11 (by kernel_rfl) rfl #[.agg #[.int .i64 a0_0, .int .i64 a0_1, .int .i64 a0_2]] rfl mp_ ?_; (with_reducible refine (laws_toMaze.calls a0_0 a0_1 a0_2 t386 t387 t388 _ A2.out).mono ?_); rintro e w9 ⟨rfl, hb⟩; refine ⟨_, rfl, ?_⟩; have n0_ := Aside0.mk (blk_below (g := gb385) (o := .cells #[.int .i64 a0_0, .int .i64 a0_1, .int .i64 a0_2] 25 (0, 0)) (kb_ BK385.out) hb); have n1_ := Aside0.mk (below_step hb_ hb); clear BK385; clear HB; have BK385 := n0_; have HB := n1_; clear n0_ n1_; (try clear hb); (try clear hb2); (try clear hk); (try clear hi)) | ((with_reducible refine gate_callee (f := 23) rfl ?_); refine goesL_ (some 7) rfl rfl Try.func23 (by kernel_rfl) rfl #[.agg #[.int .i64 t386, .int .i64 t387, .int .i64 t388]] rfl mp_ ?_; (with_reducible refine (spec_WallParts.calls k t386 t387 t388 t389 _ A3.out).mono ?_); rintro e w10 ⟨rfl, hb⟩; refine ⟨_, rfl, ?_⟩; have n0_ := Aside0.mk (blk_below (g := gb385) (o := .cells #[.int .i64 a0_0, .int .i64 a0_1, .int .i64 a0_2] 25 (0, 0)) (kb_ BK385.out) hb); have n1_ := Aside0.mk (below_step hb_ hb); clear BK385; clear HB; have BK385 := n0_; have HB := n1_; clear n0_ n1_; (try clear hb); (try clear hb2); (try clear hk); (try clear hi); have hcz11_0 := cz_ (.int .i64 a0_0) BK385.out 0; have hcz11_1 := cz_ (.int .i64 a0_1) BK385.out 1; have hcz11_2 := cz_ (.int .i64 a0_2) BK385.out 2; have hfz11_0 := blk_frozen BK385.out 0; have hfz11_1 := blk_frozen BK385.out 1; have hfz11_2 := blk_frozen BK385.out 2) | ((with_reducible refine gate_callee (f := 11) rfl ?_); refine goesL_ (some 9) rfl rfl Try.func11 (by kernel_rfl) rfl #[.agg #[.int .i64 a0_0, .int .i64 a0_1, .int .i64 a0_2]] rfl mp_ ?_; (with_reducible refine (laws_toMaze.calls a0_0 a0_1 a0_2 t390 t391 t392 _ A4.out).mono ?_); rintro e w12 ⟨rfl, hb⟩; refine ⟨_, rfl, ?_⟩; have n0_ := Aside0.mk (blk_below (g := gb385) (o := .cells #[.int .i64 a0_0, .int .i64 a0_1, .int .i64 a0_2] 25 (0, 0)) (kb_ BK385.out) hb); have n1_ := Aside0.mk (below_step hb_ hb); clear BK385; clear HB; have BK385 := n0_; have HB := n1_; clear n0_ n1_; (try clear hb); (try clear hb2); (try clear hk); (try clear hi)) | ((with_reducible refine gate_callee (f := 24) rfl ?_); refine goesL_ (some 10) rfl rfl Try.func24 (by kernel_rfl) rfl #[.agg #[.int .i64 t390, .int .i64 t391, .int .i64 t392]] rfl mp_ ?_; (with_reducible refine (impl_WallParts.calls k t390 t391 t392 t393 _ A5.out).mono ?_); rintro e w13 ⟨rfl, hb⟩; refine ⟨_, rfl, ?_⟩; have n0_ := Aside0.mk (blk_below (g := gb385) (o := .cells #[.int .i64 a0_0, .int .i64 a0_1, .int .i64 a0_2] 25 (0, 0)) (kb_ BK385.out) hb); have n1_ := Aside0.mk (below_step hb_ hb); clear BK385; clear HB; have BK385 := n0_; have HB := n1_; clear n0_ n1_; (try clear hb); (try clear hb2); (try clear hk); (try clear hi)))
  go_ret
  exact ⟨by first | rfl | (simp [errW_none, errW_some] <;> rfl) | (simp only [EA4.out.1, EA4.out.2.1, EA4.out.2.2]; first | rfl | (simp [errW_none, errW_some] <;> rfl)) | (simp [*, errW_none, errW_some] <;> rfl), hb_⟩
 ·rw [if_neg c6] at H
  have c6b0 : (t393 == t389) = false := beq_eq_false_iff_ne.mpr c6
  have c6b1 : (t393 != t389) = true := bne_iff_ne.mpr c6
  exact absurd ((Option.some.inj H).trans HT_.out) (by decide)

/-- THE ONE PURE STATEMENT of laws_FnExactWallParts: yours. -/
def laws_FnExactWallParts.Pure : Prop := ∀ (a0_0 : Int) (a0_1 : Int) (a0_2 : Int), (Lit.int .i64 a0_0).wf = true → (Lit.int .i64 a0_1).wf = true → (Lit.int .i64 a0_2).wf = true → ∃ k, laws_FnExactWallParts.f k a0_0 a0_1 a0_2 = some true
theorem laws_FnExactWallParts.walk (P : laws_FnExactWallParts.Pure) (a0_0 : Int) (a0_1 : Int) (a0_2 : Int) (w : World) (w0_0 : (Lit.int .i64 a0_0).wf = true) (w0_1 : (Lit.int .i64 a0_1).wf = true) (w0_2 : (Lit.int .i64 a0_2).wf = true) :
  Calls Try.prog 7 #[.agg #[.int .i64 a0_0, .int .i64 a0_1, .int .i64 a0_2]] w fun e w' => e = .returned (.bool true) ∧ Below w.heap.size w w' := by
 obtain ⟨k, h⟩ := P a0_0 a0_1 a0_2 w0_0 w0_1 w0_2
 refine (laws_FnExactWallParts.calls k a0_0 a0_1 a0_2 true w ⟨rfl⟩ h).mono ?_
 rintro e w' ⟨rfl, hd⟩
 exact ⟨rfl, hd⟩

end Go.Proofs.Ytkbfknodibnkgaa.Q
