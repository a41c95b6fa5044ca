/- Plain Lean functions of Go functions, and for each the proof that its call comes to just that answer. Conditions: in each theorem's statement. -/
import Derived.Test.YtkldibidhjonnaaQx0
import Derived.Test.YtkldibidhjonnaaQx1
import Derived.Test.YtkldibidhjonnaaQx8
import Derived.Test.YtkldibidhjonnaaQx11
import Derived.Test.YtkldibidhjonnaaQx22
import Derived.Test.YtkldibidhjonnaaQx25
import Derived.Test.YtkldibidhjonnaaQx26
import Derived.Test.YtkldibidhjonnaaQx29
namespace Go.Proofs.Ytkldibidhjonnaa.Q
open Go.RowKit Go.Proofs.YtkldibidhjonnaaW.PrintWords Go.Proofs.YtkldibidhjonnaaW.PrintLast
attribute [local go_sem] max2_int min2_int max_two min_two   -- for this text's walks alone
set_option linter.unusedVariables false
set_option linter.unusedSimpArgs false

/-! ### laws_FnDeadEnds: function 4 -/
mutual
def laws_FnDeadEnds.j0 : Nat → Int → Int → Int → Bool → Int → Int → Int → Int → Int → Int → Option (Bool)
 | 0, _, _, _, _, _, _, _, _, _, _ => none
 | k + 1, x4, x5, x6, x42, x394000, x394001, x394002, x404000, x404001, x404002 => if x42 = true then (some false) else ((impl_DeadEnds.f k x394000 x394001 x394002).bind fun t408 => (laws_FnDeadEnds.l0 k x4 x5 x6 t408 0 x394000 x394001 x394002 x404000 x404001 x404002))
def laws_FnDeadEnds.l0 : Nat → Int → Int → Int → List Int → Int → Int → Int → Int → Int → Int → Int → Option (Bool)
 | 0, _, _, _, _, _, _, _, _, _, _, _ => none
 | k + 1, x4, x5, x6, x8, x9, x394000, x394001, x394002, x404000, x404001, x404002 => if x9 < (x8.length : Int) then ((impl_Junctions.f k x394000 x394001 x394002).bind fun t411 => (if 0 ≤ x9 then ((laws_has.f k t411 (rd x8 x9)).bind fun t415 => (if t415 = true then (some false) else (laws_FnDeadEnds.l0 k x4 x5 x6 x8 (wrap64 (x9 + 1)) x394000 x394001 x394002 x404000 x404001 x404002))) else (none))) else ((impl_CountPassages.f x404000 x404001 x404002).bind fun t416 => ((impl_DistanceOf.f k x394000 x394001 x394002 x5 x6).bind fun t417 => (if t416 = t417 then ((impl_DistanceOf.f k x404000 x404001 x404002 x5 x6).bind fun t418 => ((impl_DistanceOf.f k x394000 x394001 x394002 x5 x6).bind fun t419 => (if t418 = t419 then ((impl_CountStraight.f k x394000 x394001 x394002).bind fun t420 => (if t420 ≤ x4 then ((impl_FillDeadEnds.f k x394000 x394001 x394002 ([] : List Int)).bind fun bt421 => ((impl_CountPassages.f bt421.1 bt421.2.1 bt421.2.2).bind fun t424 => (some (t424 == 0)))) else (some false))) else (some false)))) else (some false))))
end
def laws_FnDeadEnds.f (k : Nat) (l0 : List Int) : Option (Bool) := (laws_big.f l0).bind fun t389 => (if t389 = true then (some true) else ((spec_DrawPerfect.f k l0).bind fun bt390 => ((spec_CountCells.f bt390.1 bt390.2.1).bind fun t394 => ((laws_at.f l0 0).bind fun t395 => (if t394 = 0 then (none) else ((laws_at.f l0 1).bind fun t396 => ((impl_FillDeadEnds.f k bt390.1 bt390.2.1 bt390.2.2 (([Int.tmod t395 t394, Int.tmod t396 t394] : List Int))).bind fun bt400 => (if t394 > 1 then ((impl_BranchSum.f k bt390.1 bt390.2.1 bt390.2.2).bind fun t404 => (if t404 = (-2) then ((impl_DeadEnds.f k bt390.1 bt390.2.1 bt390.2.2).bind fun t405 => (laws_FnDeadEnds.j0 k t394 (Int.tmod t395 t394) (Int.tmod t396 t394) (decide ((t405.length : Int) < 2)) bt390.1 bt390.2.1 bt390.2.2 bt400.1 bt400.2.1 bt400.2.2)) else (laws_FnDeadEnds.j0 k t394 (Int.tmod t395 t394) (Int.tmod t396 t394) true bt390.1 bt390.2.1 bt390.2.2 bt400.1 bt400.2.1 bt400.2.2))) else (laws_FnDeadEnds.j0 k t394 (Int.tmod t395 t394) (Int.tmod t396 t394) false bt390.1 bt390.2.1 bt390.2.2 bt400.1 bt400.2.1 bt400.2.2)))))))))
theorem laws_FnDeadEnds.mono_l : ∀ k, (∀ y0 y1 y2 y3 y4 y5 y6 y7 y8 y9, LeO (laws_FnDeadEnds.j0 k y0 y1 y2 y3 y4 y5 y6 y7 y8 y9) (laws_FnDeadEnds.j0 (k + 1) y0 y1 y2 y3 y4 y5 y6 y7 y8 y9)) ∧ (∀ y0 y1 y2 y3 y4 y5 y6 y7 y8 y9 y10, LeO (laws_FnDeadEnds.l0 k y0 y1 y2 y3 y4 y5 y6 y7 y8 y9 y10) (laws_FnDeadEnds.l0 (k + 1) y0 y1 y2 y3 y4 y5 y6 y7 y8 y9 y10))
 | 0 => ⟨fun _ _ _ _ _ _ _ _ _ _ r h => by simp [laws_FnDeadEnds.j0] at h, fun _ _ _ _ _ _ _ _ _ _ _ r h => by simp [laws_FnDeadEnds.l0] at h⟩
 | k + 1 => by
  obtain ⟨ih0, ih1⟩ := laws_FnDeadEnds.mono_l k
  refine ⟨?_, ?_⟩
  ·intro y0 y1 y2 y3 y4 y5 y6 y7 y8 y9
   unfold laws_FnDeadEnds.j0
   repeat' first
   | (with_reducible exact ih0 _ _ _ _ _ _ _ _ _ _)
   | (with_reducible exact ih1 _ _ _ _ _ _ _ _ _ _ _)
   | (with_reducible exact impl_BranchSum.mono _ _ _ _)
   | (with_reducible exact impl_CountStraight.mono _ _ _ _)
   | (with_reducible exact impl_DeadEnds.mono _ _ _ _)
   | (with_reducible exact impl_DistanceOf.mono _ _ _ _ _ _)
   | (with_reducible exact impl_FillDeadEnds.mono _ _ _ _ _)
   | (with_reducible exact impl_Junctions.mono _ _ _ _)
   | (with_reducible exact laws_has.mono _ _ _)
   | (with_reducible exact spec_DrawPerfect.mono _ _)
   | (with_reducible exact LeO.refl _)
   | (with_reducible exact LeO.none _)
   | (with_reducible refine LeO.ite ?_ ?_)
   | (with_reducible refine LeO.bind ?_ (fun _ => ?_))
   | exact ih0 _ _ _ _ _ _ _ _ _ _
   | exact ih1 _ _ _ _ _ _ _ _ _ _ _
   | exact impl_BranchSum.mono _ _ _ _
   | exact impl_CountStraight.mono _ _ _ _
   | exact impl_DeadEnds.mono _ _ _ _
   | exact impl_DistanceOf.mono _ _ _ _ _ _
   | exact impl_FillDeadEnds.mono _ _ _ _ _
   | exact impl_Junctions.mono _ _ _ _
   | exact laws_has.mono _ _ _
   | exact spec_DrawPerfect.mono _ _
   | exact LeO.none _
   | refine LeO.ite ?_ ?_
   | refine LeO.bind ?_ (fun _ => ?_)
  ·intro y0 y1 y2 y3 y4 y5 y6 y7 y8 y9 y10
   unfold laws_FnDeadEnds.l0
   repeat' first
   | (with_reducible exact ih0 _ _ _ _ _ _ _ _ _ _)
   | (with_reducible exact ih1 _ _ _ _ _ _ _ _ _ _ _)
   | (with_reducible exact impl_BranchSum.mono _ _ _ _)
   | (with_reducible exact impl_CountStraight.mono _ _ _ _)
   | (with_reducible exact impl_DeadEnds.mono _ _ _ _)
   | (with_reducible exact impl_DistanceOf.mono _ _ _ _ _ _)
   | (with_reducible exact impl_FillDeadEnds.mono _ _ _ _ _)
   | (with_reducible exact impl_Junctions.mono _ _ _ _)
   | (with_reducible exact laws_has.mono _ _ _)
   | (with_reducible exact spec_DrawPerfect.mono _ _)
   | (with_reducible exact LeO.refl _)
   | (with_reducible exact LeO.none _)
   | (with_reducible refine LeO.ite ?_ ?_)
   | (with_reducible refine LeO.bind ?_ (fun _ => ?_))
   | exact ih0 _ _ _ _ _ _ _ _ _ _
   | exact ih1 _ _ _ _ _ _ _ _ _ _ _
   | exact impl_BranchSum.mono _ _ _ _
   | exact impl_CountStraight.mono _ _ _ _
   | exact impl_DeadEnds.mono _ _ _ _
   | exact impl_DistanceOf.mono _ _ _ _ _ _
   | exact impl_FillDeadEnds.mono _ _ _ _ _
   | exact impl_Junctions.mono _ _ _ _
   | exact laws_has.mono _ _ _
   | exact spec_DrawPerfect.mono _ _
   | exact LeO.none _
   | refine LeO.ite ?_ ?_
   | refine LeO.bind ?_ (fun _ => ?_)
theorem laws_FnDeadEnds.mono : ∀ a0 k, LeO (laws_FnDeadEnds.f k a0) (laws_FnDeadEnds.f (k + 1) a0) := by
 intro a0 k
 obtain ⟨ih0, ih1⟩ := laws_FnDeadEnds.mono_l k
 unfold laws_FnDeadEnds.f
 repeat' first
   | (with_reducible exact ih0 _ _ _ _ _ _ _ _ _ _)
   | (with_reducible exact ih1 _ _ _ _ _ _ _ _ _ _ _)
   | (with_reducible exact impl_BranchSum.mono _ _ _ _)
   | (with_reducible exact impl_CountStraight.mono _ _ _ _)
   | (with_reducible exact impl_DeadEnds.mono _ _ _ _)
   | (with_reducible exact impl_DistanceOf.mono _ _ _ _ _ _)
   | (with_reducible exact impl_FillDeadEnds.mono _ _ _ _ _)
   | (with_reducible exact impl_Junctions.mono _ _ _ _)
   | (with_reducible exact laws_has.mono _ _ _)
   | (with_reducible exact spec_DrawPerfect.mono _ _)
   | (with_reducible exact LeO.refl _)
   | (with_reducible exact LeO.none _)
   | (with_reducible refine LeO.ite ?_ ?_)
   | (with_reducible refine LeO.bind ?_ (fun _ => ?_))
   | exact ih0 _ _ _ _ _ _ _ _ _ _
   | exact ih1 _ _ _ _ _ _ _ _ _ _ _
   | exact impl_BranchSum.mono _ _ _ _
   | exact impl_CountStraight.mono _ _ _ _
   | exact impl_DeadEnds.mono _ _ _ _
   | exact impl_DistanceOf.mono _ _ _ _ _ _
   | exact impl_FillDeadEnds.mono _ _ _ _ _
   | exact impl_Junctions.mono _ _ _ _
   | exact laws_has.mono _ _ _
   | exact spec_DrawPerfect.mono _ _
   | exact LeO.none _
   | refine LeO.ite ?_ ?_
   | refine LeO.bind ?_ (fun _ => ?_)
def laws_FnDeadEnds.T16 : Bool × List (List Nat × List Nat) := (true, [([], []), ([0], [0]), ([], []), ([], []), ([], []), ([2, 3, 4, 1], [2, 3, 4]), ([1, 5], [1, 5]), ([6, 5], [6]), ([7], [7]), ([7], [7]), ([7], [7]), ([8, 9, 10, 7, 7], [7, 8, 9, 10]), ([7], [7]), ([7], [7]), ([7], [7]), ([12, 13, 14, 11, 7], [7, 12, 13, 14]), ([11, 15, 7], [7, 11, 15]), ([7, 16], [7, 16]), ([17, 15], [17]), ([18], [18]), ([19, 18, 18], [18, 19]), ([18], [18]), ([20, 21, 18], [18, 20, 21]), ([18, 22], [18, 22]), ([23, 20], [23]), ([24], [24]), ([25, 24, 24], [24, 25]), ([26, 26, 24], [24, 26]), ([27, 24], [24, 27]), ([24, 28], [24, 28]), ([29, 27, 0, 1, 2, 3, 4, 5, 6, 7, 8, 9, 10, 11, 12, 13, 14, 15, 16, 17, 18, 19, 20, 21, 22, 23, 24, 25, 26, 27, 28, 29], [29])])
def laws_FnDeadEnds.B16 : List Nat := [0, 1, 0, 0, 0, 31, 63, 127, 255, 255, 255, 2047, 255, 255, 255, 32767, 65535, 131071, 262143, 524287, 1048575, 524287, 4194303, 8388607, 16777215, 33554431, 67108863, 134217727, 268435455, 536870911, 1073741823]
theorem laws_FnDeadEnds.tab16 : rtab .any (opsOf Try.f4 16) = laws_FnDeadEnds.T16 := by kernel_rfl
theorem laws_FnDeadEnds.bits16 : waitsOk laws_FnDeadEnds.T16.2 laws_FnDeadEnds.B16 = true := by kernel_rfl
set_option maxHeartbeats 8000000 in
set_option maxRecDepth 100000 in
theorem laws_FnDeadEnds.calls (k : Nat) (A0 : Option Addr) (c0 : Nat) (l0 : List Int) (r : Bool) (w : World) (hr0 : Kd.C (Kd.int .u8) w A0 l0.length l0) (hc0 : l0.length ≤ c0) (HT_ : Aside0 (r = true)) (h : laws_FnDeadEnds.f k l0 = some r) :
  Calls Try.prog 4 #[.slice A0 l0.length c0] w fun e w' => e = .returned (.bool r) ∧ Below w.heap.size w w' := by
 have hu29 := Try.underlying29
 have hu27 := Try.underlying27
 have HR0 := Aside0.mk hr0
 have HC0 := Aside0.mk hc0
 clear hr0 hc0
 have HB := Aside0.mk (Below.refl w.heap.size w)
 have H : ((laws_big.f l0).bind fun t389 => (if t389 = true then (some true) else ((spec_DrawPerfect.f k l0).bind fun bt390 => ((spec_CountCells.f bt390.1 bt390.2.1).bind fun t394 => ((laws_at.f l0 0).bind fun t395 => (if t394 = 0 then (none) else ((laws_at.f l0 1).bind fun t396 => ((impl_FillDeadEnds.f k bt390.1 bt390.2.1 bt390.2.2 (([Int.tmod t395 t394, Int.tmod t396 t394] : List Int))).bind fun bt400 => (if t394 > 1 then ((impl_BranchSum.f k bt390.1 bt390.2.1 bt390.2.2).bind fun t404 => (if t404 = (-2) then ((impl_DeadEnds.f k bt390.1 bt390.2.1 bt390.2.2).bind fun t405 => (laws_FnDeadEnds.j0 k t394 (Int.tmod t395 t394) (Int.tmod t396 t394) (decide ((t405.length : Int) < 2)) bt390.1 bt390.2.1 bt390.2.2 bt400.1 bt400.2.1 bt400.2.2)) else (laws_FnDeadEnds.j0 k t394 (Int.tmod t395 t394) (Int.tmod t396 t394) true bt390.1 bt390.2.1 bt390.2.2 bt400.1 bt400.2.1 bt400.2.2))) else (laws_FnDeadEnds.j0 k t394 (Int.tmod t395 t394) (Int.tmod t396 t394) false bt390.1 bt390.2.1 bt390.2.2 bt400.1 bt400.2.1 bt400.2.2)))))))))) = some r := h
 clear h
 replace H := Option.bind_eq_some_iff.mp H
 obtain ⟨t389, A20, H⟩ := H
 replace H : (if t389 = true then (some true) else ((spec_DrawPerfect.f k l0).bind fun bt390 => ((spec_CountCells.f bt390.1 bt390.2.1).bind fun t394 => ((laws_at.f l0 0).bind fun t395 => (if t394 = 0 then (none) else ((laws_at.f l0 1).bind fun t396 => ((impl_FillDeadEnds.f k bt390.1 bt390.2.1 bt390.2.2 (([Int.tmod t395 t394, Int.tmod t396 t394] : List Int))).bind fun bt400 => (if t394 > 1 then ((impl_BranchSum.f k bt390.1 bt390.2.1 bt390.2.2).bind fun t404 => (if t404 = (-2) then ((impl_DeadEnds.f k bt390.1 bt390.2.1 bt390.2.2).bind fun t405 => (laws_FnDeadEnds.j0 k t394 (Int.tmod t395 t394) (Int.tmod t396 t394) (decide ((t405.length : Int) < 2)) bt390.1 bt390.2.1 bt390.2.2 bt400.1 bt400.2.1 bt400.2.2)) else (laws_FnDeadEnds.j0 k t394 (Int.tmod t395 t394) (Int.tmod t396 t394) true bt390.1 bt390.2.1 bt390.2.2 bt400.1 bt400.2.1 bt400.2.2))) else (laws_FnDeadEnds.j0 k t394 (Int.tmod t395 t394) (Int.tmod t396 t394) false bt390.1 bt390.2.1 bt390.2.2 bt400.1 bt400.2.1 bt400.2.2))))))))) = some r := H
 have A2 := Aside0.mk A20
 clear A20
 by_cases c3 : t389 = true
 ·subst c3
  have H1 : (some true) = some r := by rw [if_pos rfl] at H; exact H
  clear H
  have H := H1
  clear H1
  obtain rfl := Option.some.inj H
  go_enter Try.func4, Try.ntmps4
  go_wp2_with (first | ((with_reducible refine gate_callee (f := 11) rfl ?_); refine goesL_ (some 11) rfl rfl Try.func11 (by kernel_rfl) rfl #[.slice A0 l0.length c0] rfl mp_ ?_; (with_reducible refine (laws_big.calls _ _ l0 true _ ?side1 ?side2 A2.out).mono ?_); (case side1 => repeat (first | exact HR0.out | (with_reducible refine Kd.C_alloc ?_ _) | (with_reducible refine Kd.C_drewN ?_ _) | (with_reducible refine Kd.C_drew ?_))); (case side2 => exact HC0.out); rintro e w' ⟨rfl, ⟨nd, rfl⟩⟩; refine ⟨_, rfl, ?_⟩))
  go_ret
  exact ⟨er_, hb_⟩
 ·replace c3 := Bool.eq_false_iff.mpr c3
  subst c3
  have H1 : ((spec_DrawPerfect.f k l0).bind fun bt390 => ((spec_CountCells.f bt390.1 bt390.2.1).bind fun t394 => ((laws_at.f l0 0).bind fun t395 => (if t394 = 0 then (none) else ((laws_at.f l0 1).bind fun t396 => ((impl_FillDeadEnds.f k bt390.1 bt390.2.1 bt390.2.2 (([Int.tmod t395 t394, Int.tmod t396 t394] : List Int))).bind fun bt400 => (if t394 > 1 then ((impl_BranchSum.f k bt390.1 bt390.2.1 bt390.2.2).bind fun t404 => (if t404 = (-2) then ((impl_DeadEnds.f k bt390.1 bt390.2.1 bt390.2.2).bind fun t405 => (laws_FnDeadEnds.j0 k t394 (Int.tmod t395 t394) (Int.tmod t396 t394) (decide ((t405.length : Int) < 2)) bt390.1 bt390.2.1 bt390.2.2 bt400.1 bt400.2.1 bt400.2.2)) else (laws_FnDeadEnds.j0 k t394 (Int.tmod t395 t394) (Int.tmod t396 t394) true bt390.1 bt390.2.1 bt390.2.2 bt400.1 bt400.2.1 bt400.2.2))) else (laws_FnDeadEnds.j0 k t394 (Int.tmod t395 t394) (Int.tmod t396 t394) false bt390.1 bt390.2.1 bt390.2.2 bt400.1 bt400.2.1 bt400.2.2)))))))) = some r := by rw [if_neg (show ¬ (false = true) by decide)] at H; exact H
  clear H
  have H := H1
  clear H1
  replace H := Option.bind_eq_some_iff.mp H
  obtain ⟨⟨t390, t391, t392⟩, A40, H⟩ := H
  replace H : ((spec_CountCells.f t390 t391).bind fun t394 => ((laws_at.f l0 0).bind fun t395 => (if t394 = 0 then (none) else ((laws_at.f l0 1).bind fun t396 => ((impl_FillDeadEnds.f k t390 t391 t392 (([Int.tmod t395 t394, Int.tmod t396 t394] : List Int))).bind fun bt400 => (if t394 > 1 then ((impl_BranchSum.f k t390 t391 t392).bind fun t404 => (if t404 = (-2) then ((impl_DeadEnds.f k t390 t391 t392).bind fun t405 => (laws_FnDeadEnds.j0 k t394 (Int.tmod t395 t394) (Int.tmod t396 t394) (decide ((t405.length : Int) < 2)) t390 t391 t392 bt400.1 bt400.2.1 bt400.2.2)) else (laws_FnDeadEnds.j0 k t394 (Int.tmod t395 t394) (Int.tmod t396 t394) true t390 t391 t392 bt400.1 bt400.2.1 bt400.2.2))) else (laws_FnDeadEnds.j0 k t394 (Int.tmod t395 t394) (Int.tmod t396 t394) false t390 t391 t392 bt400.1 bt400.2.1 bt400.2.2))))))) = some r := H
  have A4 := Aside0.mk A40
  clear A40
  replace H := Option.bind_eq_some_iff.mp H
  obtain ⟨t394, A50, H⟩ := H
  replace H : ((laws_at.f l0 0).bind fun t395 => (if t394 = 0 then (none) else ((laws_at.f l0 1).bind fun t396 => ((impl_FillDeadEnds.f k t390 t391 t392 (([Int.tmod t395 t394, Int.tmod t396 t394] : List Int))).bind fun bt400 => (if t394 > 1 then ((impl_BranchSum.f k t390 t391 t392).bind fun t404 => (if t404 = (-2) then ((impl_DeadEnds.f k t390 t391 t392).bind fun t405 => (laws_FnDeadEnds.j0 k t394 (Int.tmod t395 t394) (Int.tmod t396 t394) (decide ((t405.length : Int) < 2)) t390 t391 t392 bt400.1 bt400.2.1 bt400.2.2)) else (laws_FnDeadEnds.j0 k t394 (Int.tmod t395 t394) (Int.tmod t396 t394) true t390 t391 t392 bt400.1 bt400.2.1 bt400.2.2))) else (laws_FnDeadEnds.j0 k t394 (Int.tmod t395 t394) (Int.tmod t396 t394) false t390 t391 t392 bt400.1 bt400.2.1 bt400.2.2)))))) = some r := H
  have A5 := Aside0.mk A50
  clear A50
  replace H := Option.bind_eq_some_iff.mp H
  obtain ⟨t395, A60, H⟩ := H
  replace H : (if t394 = 0 then (none) else ((laws_at.f l0 1).bind fun t396 => ((impl_FillDeadEnds.f k t390 t391 t392 (([Int.tmod t395 t394, Int.tmod t396 t394] : List Int))).bind fun bt400 => (if t394 > 1 then ((impl_BranchSum.f k t390 t391 t392).bind fun t404 => (if t404 = (-2) then ((impl_DeadEnds.f k t390 t391 t392).bind fun t405 => (laws_FnDeadEnds.j0 k t394 (Int.tmod t395 t394) (Int.tmod t396 t394) (decide ((t405.length : Int) < 2)) t390 t391 t392 bt400.1 bt400.2.1 bt400.2.2)) else (laws_FnDeadEnds.j0 k t394 (Int.tmod t395 t394) (Int.tmod t396 t394) true t390 t391 t392 bt400.1 bt400.2.1 bt400.2.2))) else (laws_FnDeadEnds.j0 k t394 (Int.tmod t395 t394) (Int.tmod t396 t394) false t390 t391 t392 bt400.1 bt400.2.1 bt400.2.2))))) = some r := H
  have A6 := Aside0.mk A60
  clear A60
  by_cases c7 : t394 = 0
  ·rw [if_pos c7] at H
   exact absurd H (by simp)
  ·rw [if_neg c7] at H
   have c7b0 : (t394 == 0) = false := beq_eq_false_iff_ne.mpr c7
   have c7b1 : (t394 != 0) = true := bne_iff_ne.mpr c7
   replace H := Option.bind_eq_some_iff.mp H
   obtain ⟨t396, A80, H⟩ := H
   replace H : ((impl_FillDeadEnds.f k t390 t391 t392 (([Int.tmod t395 t394, Int.tmod t396 t394] : List Int))).bind fun bt400 => (if t394 > 1 then ((impl_BranchSum.f k t390 t391 t392).bind fun t404 => (if t404 = (-2) then ((impl_DeadEnds.f k t390 t391 t392).bind fun t405 => (laws_FnDeadEnds.j0 k t394 (Int.tmod t395 t394) (Int.tmod t396 t394) (decide ((t405.length : Int) < 2)) t390 t391 t392 bt400.1 bt400.2.1 bt400.2.2)) else (laws_FnDeadEnds.j0 k t394 (Int.tmod t395 t394) (Int.tmod t396 t394) true t390 t391 t392 bt400.1 bt400.2.1 bt400.2.2))) else (laws_FnDeadEnds.j0 k t394 (Int.tmod t395 t394) (Int.tmod t396 t394) false t390 t391 t392 bt400.1 bt400.2.1 bt400.2.2))) = some r := H
   have A8 := Aside0.mk A80
   clear A80
   obtain ⟨y397, hy397⟩ : ∃ y_ : List Int, y_ = (([Int.tmod t395 t394, Int.tmod t396 t394] : List Int)) := ⟨_, rfl⟩
   replace H : ((impl_FillDeadEnds.f k t390 t391 t392 y397).bind fun bt400 => (if t394 > 1 then ((impl_BranchSum.f k t390 t391 t392).bind fun t404 => (if t404 = (-2) then ((impl_DeadEnds.f k t390 t391 t392).bind fun t405 => (laws_FnDeadEnds.j0 k t394 (Int.tmod t395 t394) (Int.tmod t396 t394) (decide ((t405.length : Int) < 2)) t390 t391 t392 bt400.1 bt400.2.1 bt400.2.2)) else (laws_FnDeadEnds.j0 k t394 (Int.tmod t395 t394) (Int.tmod t396 t394) true t390 t391 t392 bt400.1 bt400.2.1 bt400.2.2))) else (laws_FnDeadEnds.j0 k t394 (Int.tmod t395 t394) (Int.tmod t396 t394) false t390 t391 t392 bt400.1 bt400.2.1 bt400.2.2))) = some r := by first | (rw [hy397]; with_reducible exact H) | (have H2_ := (Option.bind_some _ _).symm.trans H; rw [hy397]; with_reducible exact H2_) | (have H2_ := (Option.bind_some _ _).symm.trans H; with_reducible exact H2_) | with_reducible exact H | (rw [hy397]; exact H) | exact H
   have Ny397 := Aside0.mk hy397
   clear hy397
   replace H := Option.bind_eq_some_iff.mp H
   obtain ⟨⟨t400, t401, t402⟩, A90, H⟩ := H
   replace H : (if t394 > 1 then ((impl_BranchSum.f k t390 t391 t392).bind fun t404 => (if t404 = (-2) then ((impl_DeadEnds.f k t390 t391 t392).bind fun t405 => (laws_FnDeadEnds.j0 k t394 (Int.tmod t395 t394) (Int.tmod t396 t394) (decide ((t405.length : Int) < 2)) t390 t391 t392 t400 t401 t402)) else (laws_FnDeadEnds.j0 k t394 (Int.tmod t395 t394) (Int.tmod t396 t394) true t390 t391 t392 t400 t401 t402))) else (laws_FnDeadEnds.j0 k t394 (Int.tmod t395 t394) (Int.tmod t396 t394) false t390 t391 t392 t400 t401 t402)) = some r := H
   have A9 := Aside0.mk A90
   clear A90
   have HC10 := Aside0.mk H
   clear H
   go_enter Try.func4, Try.ntmps4
   go_upto_region 8 with (first | ((with_reducible refine gate_callee (f := 11) rfl ?_); refine goesL_ (some 11) rfl rfl Try.func11 (by kernel_rfl) rfl #[.slice A0 l0.length c0] rfl mp_ ?_; (with_reducible refine (laws_big.calls _ _ l0 false _ ?side1 ?side2 A2.out).mono ?_); (case side1 => repeat (first | exact HR0.out | (with_reducible refine Kd.C_alloc ?_ _) | (with_reducible refine Kd.C_drewN ?_ _) | (with_reducible refine Kd.C_drew ?_))); (case side2 => exact HC0.out); rintro e w' ⟨rfl, ⟨nd, rfl⟩⟩; refine ⟨_, rfl, ?_⟩) | ((with_reducible refine gate_callee (f := 12) rfl ?_); refine goesL_ (some 13) rfl rfl Try.func12 (by kernel_rfl) rfl #[.slice A0 l0.length c0] rfl mp_ ?_; (with_reducible refine (spec_DrawPerfect.calls k _ _ l0 t390 t391 t392 _ ?side1 ?side2 A4.out).mono ?_); (case side1 => repeat (first | exact HR0.out | (with_reducible refine Kd.C_alloc ?_ _) | (with_reducible refine Kd.C_drewN ?_ _) | (with_reducible refine Kd.C_drew ?_))); (case side2 => exact HC0.out); rintro e w11 ⟨rfl, hb⟩; refine ⟨_, rfl, ?_⟩; have n0_ := Aside0.mk (below_step hb_ hb); clear HB; have HB := n0_; clear n0_; (try clear hb); (try clear hb2); (try clear hk); (try clear hi)) | ((with_reducible refine gate_dst (N := 3) rfl ?_); (try (refine gate_guard (by rfl) ?_; dsimp only)); refine box_event ?hg (N := 3) ?hd (cs := #[.int .i64 0, .int .i64 0, .int .i64 0]) (t := 29) ?hr ?_; (case hd => rfl); (case hg => rfl); (case hr => first | (go_simp; done) | (go_simp; rfl)); intro gb393 hg w12 hbox hb; have n0_ := Aside0.mk (below_step hb_ hb); have n1_ := Aside0.mk (hbox); have n2_ := Aside0.mk ((by rw [hg]; exact (below_size hb_) : w.heap.size ≤ gb393)); have n3_ := Aside0.mk ((by rw [hg]; exact (below_size hb_) : w.heap.size ≤ gb393)); clear HB; have HB := n0_; have BK393 := n1_; have GW393 := n2_; have GE393 := n3_; clear n0_ n1_ n2_ n3_; clear hb hbox hg; have hcz13_0 := cz_ (.int .i64 0) BK393.out 0; have hcz13_1 := cz_ (.int .i64 0) BK393.out 1; have hcz13_2 := cz_ (.int .i64 0) BK393.out 2; have hfz13_0 := blk_frozen BK393.out 0; have hfz13_1 := blk_frozen BK393.out 1; have hfz13_2 := blk_frozen BK393.out 2) | ((with_reducible refine gate_callee (f := 13) rfl ?_); refine goesL_ (some 16) rfl rfl Try.func13 (by kernel_rfl) rfl #[.agg #[.int .i64 t390, .int .i64 t391]] rfl mp_ ?_; (with_reducible refine (spec_CountCells.calls t390 t391 t394 _ A5.out).mono ?_); rintro e w14 ⟨rfl, hb⟩; refine ⟨_, rfl, ?_⟩; have n0_ := Aside0.mk (blk_below (g := gb393) (o := .cells #[.int .i64 t390, .int .i64 t391, .int .i64 t392] 29 (0, 0)) (by (with_reducible repeat (first | refine blk_drewN ?_ _ | refine blk_drew ?_ | refine blk_alloc ?_ _)); refine blk_put (cs := #[.int .i64 t390, .int .i64 t391, .int .i64 0]) ?_ 2 _ rfl; (with_reducible repeat (first | refine blk_drewN ?_ _ | refine blk_drew ?_ | refine blk_alloc ?_ _)); refine blk_put (cs := #[.int .i64 t390, .int .i64 0, .int .i64 0]) ?_ 1 _ rfl; (with_reducible repeat (first | refine blk_drewN ?_ _ | refine blk_drew ?_ | refine blk_alloc ?_ _)); refine blk_put (cs := #[.int .i64 0, .int .i64 0, .int .i64 0]) ?_ 0 _ rfl; (with_reducible repeat (first | refine blk_drewN ?_ _ | refine blk_drew ?_ | refine blk_alloc ?_ _)); exact BK393.out) hb); have n1_ := Aside0.mk (below_step hb_ hb); clear BK393; clear HB; have BK393 := n0_; have HB := n1_; clear n0_ n1_; (try clear hb); (try clear hb2); (try clear hk); (try clear hi)) | ((with_reducible refine gate_callee (f := 14) rfl ?_); refine goesL_ (some 18) rfl rfl Try.func14 (by kernel_rfl) rfl #[.slice A0 l0.length c0, .int .i64 0] rfl mp_ ?_; (with_reducible refine (laws_at.calls _ _ l0 0 t395 _ ?side1 ?side2 A6.out).mono ?_); (case side1 => repeat (first | exact (Kd.C_below HR0.out HB.out) | (with_reducible refine Kd.C_alloc ?_ _) | (with_reducible refine Kd.C_drewN ?_ _) | (with_reducible refine Kd.C_drew ?_))); (case side2 => exact HC0.out); rintro e w' ⟨rfl, ⟨nd, rfl⟩⟩; refine ⟨_, rfl, ?_⟩; (try (rw [drewN_self w14]; generalize hq_ : World.drewN w14 _ = w14; have n0_ : Aside0 (w14.heap[gb393]? = some (.cells #[.int .i64 t390, .int .i64 t391, .int .i64 t392] 29 (0, 0))) := ⟨by rw [← hq_]; exact (kb_ BK393.out)⟩; have n1_ : Aside0 (Below w.heap.size w w14) := ⟨by rw [← hq_]; exact hb_⟩; clear BK393 HB hq_; have BK393 := n0_; have HB := n1_; clear n0_ n1_))) | ((with_reducible refine gate_callee (f := 14) rfl ?_); refine goesL_ (some 22) rfl rfl Try.func14 (by kernel_rfl) rfl #[.slice A0 l0.length c0, .int .i64 1] rfl mp_ ?_; (with_reducible refine (laws_at.calls _ _ l0 1 t396 _ ?side1 ?side2 A8.out).mono ?_); (case side1 => repeat (first | exact (Kd.C_below HR0.out HB.out) | (with_reducible refine Kd.C_alloc ?_ _) | (with_reducible refine Kd.C_drewN ?_ _) | (with_reducible refine Kd.C_drew ?_))); (case side2 => exact HC0.out); rintro e w' ⟨rfl, ⟨nd, rfl⟩⟩; refine ⟨_, rfl, ?_⟩; (try (rw [drewN_self w14]; generalize hq_ : World.drewN w14 _ = w14; have n0_ : Aside0 (w14.heap[gb393]? = some (.cells #[.int .i64 t390, .int .i64 t391, .int .i64 t392] 29 (0, 0))) := ⟨by rw [← hq_]; exact (kb_ BK393.out)⟩; have n1_ : Aside0 (Below w.heap.size w w14) := ⟨by rw [← hq_]; exact hb_⟩; clear BK393 HB hq_; have BK393 := n0_; have HB := n1_; clear n0_ n1_)); have hcz15_0 := cz_ (.int .i64 t390) BK393.out 0; have hcz15_1 := cz_ (.int .i64 t391) BK393.out 1; have hcz15_2 := cz_ (.int .i64 t392) BK393.out 2; have hfz15_0 := blk_frozen BK393.out 0; have hfz15_1 := blk_frozen BK393.out 1; have hfz15_2 := blk_frozen BK393.out 2) | ((with_reducible refine gate_dst (N := 28) rfl ?_); (try (refine gate_guard (by rfl) ?_; dsimp only)); refine Kd.R_lit (Kd.int .i64) _ 3 ?hg (N := 28) ?hd (xs := ([Int.tmod t395 t394, Int.tmod t396 t394] : List Int)) (inner := [.int .i64 (Int.tmod t395 t394), .int .i64 (Int.tmod t396 t394)]) (ok := fun _ => True) (okp := fun _ => True) ?hr ?hp (fun _ hk => hk) trivial (Below.refl _ _) (Nat.le_refl _) (by simp) ?_; (case hd => rfl); (case hg => rfl); (case hr => first | (go_simp; done) | (go_simp; rfl)); (case hp => exact (Reps.one (show Kd.M (Kd.int .i64) _ _ _ (Int.tmod t395 t394) [.int .i64 (Int.tmod t395 t394)] from rfl) (Reps.one (show Kd.M (Kd.int .i64) _ _ _ (Int.tmod t396 t394) [.int .i64 (Int.tmod t396 t394)] from rfl) (Reps.none _ _)))); intro v398 w16 ho17 hb hg_ hnew_; clear hg_ hnew_; (first | rw [← Ny397.out] at ho17 | (simp only [Int.reduceToNat] at ho17; rw [← Ny397.out] at ho17)); have n0_ := Aside0.mk (Kd.R_lower ho17 (below_size hb_)); have n1_ := Aside0.mk (blk_below (g := gb393) (o := .cells #[.int .i64 t390, .int .i64 t391, .int .i64 t392] 29 (0, 0)) (kb_ BK393.out) hb); have n2_ := Aside0.mk (below_step hb_ hb); clear BK393; clear HB; have HO399 := n0_; have BK393 := n1_; have HB := n2_; clear n0_ n1_ n2_; clear hb ho17; obtain ⟨Ao18, co18, eo18⟩ := Kd.R_slice HO399.out; subst eo18) | ((with_reducible refine gate_callee (f := 8) rfl ?_); refine goesL_ (some 29) rfl rfl Try.func8 (by kernel_rfl) rfl #[.agg #[.int .i64 t390, .int .i64 t391, .int .i64 t392], .slice Ao18 y397.length co18] rfl mp_ ?_; (with_reducible refine (impl_FillDeadEnds.calls k t390 t391 t392 _ _ y397 t400 t401 t402 _ ?side1 ?side2 A9.out).mono ?_); (case side1 => repeat (first | exact (Kd.R_reads' HO399.out).2.2 | (with_reducible refine Kd.C_alloc ?_ _) | (with_reducible refine Kd.C_drewN ?_ _) | (with_reducible refine Kd.C_drew ?_))); (case side2 => exact (Kd.R_reads' HO399.out).2.1); rintro e w19 ⟨rfl, hb⟩; refine ⟨_, rfl, ?_⟩; have n0_ := Aside0.mk (Kd.R_below (kr_ HO399.out) hb); have n1_ := Aside0.mk (blk_below (g := gb393) (o := .cells #[.int .i64 t390, .int .i64 t391, .int .i64 t392] 29 (0, 0)) (kb_ BK393.out) hb); have n2_ := Aside0.mk (below_step hb_ hb); clear HO399; clear BK393; clear HB; have HO399 := n0_; have BK393 := n1_; have HB := n2_; clear n0_ n1_ n2_; (try clear hb); (try clear hb2); (try clear hk); (try clear hi)) | ((with_reducible refine gate_dst (N := 7) rfl ?_); (try (refine gate_guard (by rfl) ?_; dsimp only)); refine box_event ?hg (N := 7) ?hd (cs := #[.int .i64 0, .int .i64 0, .int .i64 0]) (t := 29) ?hr ?_; (case hd => rfl); (case hg => rfl); (case hr => first | (go_simp; done) | (go_simp; rfl)); intro gb403 hg w20 hbox hb; have n0_ := Aside0.mk (Kd.R_below (kr_ HO399.out) hb); have n1_ := Aside0.mk (blk_below (g := gb393) (o := .cells #[.int .i64 t390, .int .i64 t391, .int .i64 t392] 29 (0, 0)) (kb_ BK393.out) hb); have n2_ := Aside0.mk (below_step hb_ hb); have n3_ := Aside0.mk (hbox); have n4_ := Aside0.mk ((by rw [hg]; exact (below_size hb_) : w.heap.size ≤ gb403)); have n5_ := Aside0.mk ((by rw [hg]; exact (below_size hb_) : w.heap.size ≤ gb403)); have n6_ := Aside0.mk ((by rw [hg]; exact Nat.ne_of_lt (blk_lt (g := gb393) (o := .cells #[.int .i64 t390, .int .i64 t391, .int .i64 t392] 29 (0, 0)) (kb_ BK393.out)) : gb393 ≠ gb403)); have n7_ := Aside0.mk ((by rw [hg]; exact Nat.ne_of_gt (blk_lt (g := gb393) (o := .cells #[.int .i64 t390, .int .i64 t391, .int .i64 t392] 29 (0, 0)) (kb_ BK393.out)) : gb403 ≠ gb393)); clear HO399; clear BK393; clear HB; have HO399 := n0_; have BK393 := n1_; have HB := n2_; have BK403 := n3_; have GW403 := n4_; have GE403 := n5_; have NB393_403 := n6_; have NB403_393 := n7_; clear n0_ n1_ n2_ n3_ n4_ n5_ n6_ n7_; clear hb hbox hg; have hnb21 := NB403_393.out; have hnc21 := NB393_403.out; have hcz22_0 := cz_ (.int .i64 0) BK403.out 0; have hcz22_1 := cz_ (.int .i64 0) BK403.out 1; have hcz22_2 := cz_ (.int .i64 0) BK403.out 2; have hfz22_0 := blk_frozen BK403.out 0; have hfz22_1 := blk_frozen BK403.out 1; have hfz22_2 := blk_frozen BK403.out 2))
   (try simp only [Act.put, List.setIfInBounds_toArray, List.set_cons_zero, List.set_cons_succ])
   go_cut [42] (fun v42 wc => ∃ (kq : Nat) (x42_9 : Bool), v42 = .bool x42_9 ∧ Aside0 (laws_FnDeadEnds.j0 kq t394 (Int.tmod t395 t394) (Int.tmod t396 t394) x42_9 t390 t391 t392 t400 t401 t402 = some r) ∧ Aside0 (kq ≤ k) ∧ Aside0 (wc.heap[gb393]? = some (.cells #[.int .i64 t390, .int .i64 t391, .int .i64 t392] 29 (0, 0))) ∧ Aside0 (wc.heap[gb403]? = some (.cells #[.int .i64 t400, .int .i64 t401, .int .i64 t402] 29 (0, 0))) ∧ Aside0 (Below w.heap.size w wc))
   case first =>
    have H := HC10.out
    clear HC10
    by_cases c23 : t394 > 1
    ·rw [if_pos c23] at H
     have c23b0 : decide (1 < t394) = true := decide_eq_true c23
     clear c23
     (first | rw [c23b0] | (simp only [i64_w, i32_w]; rw [c23b0]) | skip)
     replace H := Option.bind_eq_some_iff.mp H
     obtain ⟨t404, A240, H⟩ := H
     replace H : (if t404 = (-2) then ((impl_DeadEnds.f k t390 t391 t392).bind fun t405 => (laws_FnDeadEnds.j0 k t394 (Int.tmod t395 t394) (Int.tmod t396 t394) (decide ((t405.length : Int) < 2)) t390 t391 t392 t400 t401 t402)) else (laws_FnDeadEnds.j0 k t394 (Int.tmod t395 t394) (Int.tmod t396 t394) true t390 t391 t392 t400 t401 t402)) = some r := H
     have A24 := Aside0.mk A240
     clear A240
     by_cases c25 : t404 = (-2)
     ·rw [if_pos c25] at H
      have c25b0 : (t404 == (-2)) = true := beq_iff_eq.mpr c25
      have c25b1 : (t404 != (-2)) = false := bne_eq_false_iff_eq.mpr c25
      clear c25
      replace H := Option.bind_eq_some_iff.mp H
      obtain ⟨t405, A260, H⟩ := H
      replace H : (laws_FnDeadEnds.j0 k t394 (Int.tmod t395 t394) (Int.tmod t396 t394) (decide ((t405.length : Int) < 2)) t390 t391 t392 t400 t401 t402) = some r := H
      have A26 := Aside0.mk A260
      clear A260
      have H' := Aside0.mk H
      clear H
      have hnb27 := NB393_403.out
      have hnc27 := NB403_393.out
      have hcz28_0 := cz_ (.int .i64 t390) BK393.out 0
      have hcz28_1 := cz_ (.int .i64 t391) BK393.out 1
      have hcz28_2 := cz_ (.int .i64 t392) BK393.out 2
      have hfz28_0 := blk_frozen BK393.out 0
      have hfz28_1 := blk_frozen BK393.out 1
      have hfz28_2 := blk_frozen BK393.out 2
      go_wp2_with (first | (go_at_call 15; (with_reducible refine (impl_BranchSum.calls k t390 t391 t392 t404 _ A24.out).mono ?_); rintro e w29 ⟨rfl, hb⟩; have n0_ := Aside0.mk (Kd.R_below (by (with_reducible repeat (first | apply Kd.R_alloc | apply Kd.R_drewN | apply Kd.R_drew)); exact (Kd.R_mono (Kd.R_far (p := ⟨gb403, 2, none⟩) (Kd.R_far (p := ⟨gb403, 1, none⟩) (Kd.R_far (p := ⟨gb403, 0, none⟩) (Kd.R_types HO399.out BK403.out (by decide)) (fun _ hk => hk.2) (.int .i64 t400)) (fun _ hk => hk.2) (.int .i64 t401)) (fun _ hk => hk.2) (.int .i64 t402)) (fun _ h_ => h_.1))) hb); have n1_ := Aside0.mk (blk_below (g := gb393) (o := .cells #[.int .i64 t390, .int .i64 t391, .int .i64 t392] 29 (0, 0)) (by (with_reducible repeat (first | refine blk_drewN ?_ _ | refine blk_drew ?_ | refine blk_alloc ?_ _)); refine blk_far ?_ NB393_403.out _; (with_reducible repeat (first | refine blk_drewN ?_ _ | refine blk_drew ?_ | refine blk_alloc ?_ _)); refine blk_far ?_ NB393_403.out _; (with_reducible repeat (first | refine blk_drewN ?_ _ | refine blk_drew ?_ | refine blk_alloc ?_ _)); refine blk_far ?_ NB393_403.out _; (with_reducible repeat (first | refine blk_drewN ?_ _ | refine blk_drew ?_ | refine blk_alloc ?_ _)); exact BK393.out) hb); have n2_ := Aside0.mk (blk_below (g := gb403) (o := .cells #[.int .i64 t400, .int .i64 t401, .int .i64 t402] 29 (0, 0)) (by (with_reducible repeat (first | refine blk_drewN ?_ _ | refine blk_drew ?_ | refine blk_alloc ?_ _)); refine blk_put (cs := #[.int .i64 t400, .int .i64 t401, .int .i64 0]) ?_ 2 _ rfl; (with_reducible repeat (first | refine blk_drewN ?_ _ | refine blk_drew ?_ | refine blk_alloc ?_ _)); refine blk_put (cs := #[.int .i64 t400, .int .i64 0, .int .i64 0]) ?_ 1 _ rfl; (with_reducible repeat (first | refine blk_drewN ?_ _ | refine blk_drew ?_ | refine blk_alloc ?_ _)); refine blk_put (cs := #[.int .i64 0, .int .i64 0, .int .i64 0]) ?_ 0 _ rfl; (with_reducible repeat (first | refine blk_drewN ?_ _ | refine blk_drew ?_ | refine blk_alloc ?_ _)); exact BK403.out) hb); have n3_ := Aside0.mk (below_step hb_ hb); clear HO399; clear BK393; clear BK403; clear HB; have HO399 := n0_; have BK393 := n1_; have BK403 := n2_; have HB := n3_; clear n0_ n1_ n2_ n3_; (try clear hb); (try clear hb2); (try clear hk); (try clear hi); have hcz30_0 := cz_ (.int .i64 t390) BK393.out 0; have hcz30_1 := cz_ (.int .i64 t391) BK393.out 1; have hcz30_2 := cz_ (.int .i64 t392) BK393.out 2; have hfz30_0 := blk_frozen BK393.out 0; have hfz30_1 := blk_frozen BK393.out 1; have hfz30_2 := blk_frozen BK393.out 2) | (go_at_call 16; (with_reducible refine (impl_DeadEnds.calls k t390 t391 t392 t405 _ A26.out).mono ?_); rintro e w31 ⟨v406, rfl, ho0, hb⟩; have n0_ := Aside0.mk (Kd.R_elder' (kr_ HO399.out) (Kd.R_base ho0) hb); have n1_ := Aside0.mk (Kd.R_lower (Kd.R_new' ho0 (Kd.R_lt (kr_ HO399.out))) (below_size hb_)); have n2_ := Aside0.mk (blk_below (g := gb393) (o := .cells #[.int .i64 t390, .int .i64 t391, .int .i64 t392] 29 (0, 0)) (kb_ BK393.out) hb); have n3_ := Aside0.mk (blk_below (g := gb403) (o := .cells #[.int .i64 t400, .int .i64 t401, .int .i64 t402] 29 (0, 0)) (kb_ BK403.out) hb); have n4_ := Aside0.mk (below_step hb_ hb); clear HO399; clear BK393; clear BK403; clear HB; have HO399 := n0_; have HO407 := n1_; have BK393 := n2_; have BK403 := n3_; have HB := n4_; clear n0_ n1_ n2_ n3_ n4_; (try clear hb); (try clear hb2); (try clear hk); (try clear hi); (try clear ho0); obtain ⟨Ao32, co32, eo32⟩ := Kd.R_slice HO407.out; subst eo32))
      go_meet
      case rel => exact ⟨_, (decide ((t405.length : Int) < 2)), (by first | rfl | (simp; done) | (simp [*]; done)), H', ⟨by first | omega | exact Nat.le_refl _⟩, ⟨kb_ BK393.out⟩, ⟨kb_ BK403.out⟩, ⟨hb_⟩⟩
     ·rw [if_neg c25] at H
      have c25b0 : (t404 == (-2)) = false := beq_eq_false_iff_ne.mpr c25
      have c25b1 : (t404 != (-2)) = true := bne_iff_ne.mpr c25
      have H' := Aside0.mk H
      clear H
      have hnb33 := NB393_403.out
      have hnc33 := NB403_393.out
      have hcz34_0 := cz_ (.int .i64 t390) BK393.out 0
      have hcz34_1 := cz_ (.int .i64 t391) BK393.out 1
      have hcz34_2 := cz_ (.int .i64 t392) BK393.out 2
      have hfz34_0 := blk_frozen BK393.out 0
      have hfz34_1 := blk_frozen BK393.out 1
      have hfz34_2 := blk_frozen BK393.out 2
      go_wp2_with (first | (go_at_call 15; (with_reducible refine (impl_BranchSum.calls k t390 t391 t392 t404 _ A24.out).mono ?_); rintro e w35 ⟨rfl, hb⟩; have n0_ := Aside0.mk (Kd.R_below (by (with_reducible repeat (first | apply Kd.R_alloc | apply Kd.R_drewN | apply Kd.R_drew)); exact (Kd.R_mono (Kd.R_far (p := ⟨gb403, 2, none⟩) (Kd.R_far (p := ⟨gb403, 1, none⟩) (Kd.R_far (p := ⟨gb403, 0, none⟩) (Kd.R_types HO399.out BK403.out (by decide)) (fun _ hk => hk.2) (.int .i64 t400)) (fun _ hk => hk.2) (.int .i64 t401)) (fun _ hk => hk.2) (.int .i64 t402)) (fun _ h_ => h_.1))) hb); have n1_ := Aside0.mk (blk_below (g := gb393) (o := .cells #[.int .i64 t390, .int .i64 t391, .int .i64 t392] 29 (0, 0)) (by (with_reducible repeat (first | refine blk_drewN ?_ _ | refine blk_drew ?_ | refine blk_alloc ?_ _)); refine blk_far ?_ NB393_403.out _; (with_reducible repeat (first | refine blk_drewN ?_ _ | refine blk_drew ?_ | refine blk_alloc ?_ _)); refine blk_far ?_ NB393_403.out _; (with_reducible repeat (first | refine blk_drewN ?_ _ | refine blk_drew ?_ | refine blk_alloc ?_ _)); refine blk_far ?_ NB393_403.out _; (with_reducible repeat (first | refine blk_drewN ?_ _ | refine blk_drew ?_ | refine blk_alloc ?_ _)); exact BK393.out) hb); have n2_ := Aside0.mk (blk_below (g := gb403) (o := .cells #[.int .i64 t400, .int .i64 t401, .int .i64 t402] 29 (0, 0)) (by (with_reducible repeat (first | refine blk_drewN ?_ _ | refine blk_drew ?_ | refine blk_alloc ?_ _)); refine blk_put (cs := #[.int .i64 t400, .int .i64 t401, .int .i64 0]) ?_ 2 _ rfl; (with_reducible repeat (first | refine blk_drewN ?_ _ | refine blk_drew ?_ | refine blk_alloc ?_ _)); refine blk_put (cs := #[.int .i64 t400, .int .i64 0, .int .i64 0]) ?_ 1 _ rfl; (with_reducible repeat (first | refine blk_drewN ?_ _ | refine blk_drew ?_ | refine blk_alloc ?_ _)); refine blk_put (cs := #[.int .i64 0, .int .i64 0, .int .i64 0]) ?_ 0 _ rfl; (with_reducible repeat (first | refine blk_drewN ?_ _ | refine blk_drew ?_ | refine blk_alloc ?_ _)); exact BK403.out) hb); have n3_ := Aside0.mk (below_step hb_ hb); clear HO399; clear BK393; clear BK403; clear HB; have HO399 := n0_; have BK393 := n1_; have BK403 := n2_; have HB := n3_; clear n0_ n1_ n2_ n3_; (try clear hb); (try clear hb2); (try clear hk); (try clear hi)))
      go_meet
      case rel => exact ⟨_, (true), (by first | rfl | (simp; done) | (simp [*]; done)), H', ⟨by first | omega | exact Nat.le_refl _⟩, ⟨kb_ BK393.out⟩, ⟨kb_ BK403.out⟩, ⟨hb_⟩⟩
    ·rw [if_neg c23] at H
     have c23b0 : decide (1 < t394) = false := decide_eq_false c23
     clear c23
     (first | rw [c23b0] | (simp only [i64_w, i32_w]; rw [c23b0]) | skip)
     have H' := Aside0.mk H
     clear H
     go_wp2
     go_meet
     case rel => exact ⟨_, (false), (by first | rfl | (simp; done) | (simp [*]; done)), H', ⟨by first | omega | exact Nat.le_refl _⟩, ⟨by (with_reducible repeat (first | refine blk_drewN ?_ _ | refine blk_drew ?_ | refine blk_alloc ?_ _)); refine blk_far ?_ NB393_403.out _; (with_reducible repeat (first | refine blk_drewN ?_ _ | refine blk_drew ?_ | refine blk_alloc ?_ _)); refine blk_far ?_ NB393_403.out _; (with_reducible repeat (first | refine blk_drewN ?_ _ | refine blk_drew ?_ | refine blk_alloc ?_ _)); refine blk_far ?_ NB393_403.out _; (with_reducible repeat (first | refine blk_drewN ?_ _ | refine blk_drew ?_ | refine blk_alloc ?_ _)); exact BK393.out⟩, ⟨by (with_reducible repeat (first | refine blk_drewN ?_ _ | refine blk_drew ?_ | refine blk_alloc ?_ _)); refine blk_put (cs := #[.int .i64 t400, .int .i64 t401, .int .i64 0]) ?_ 2 _ rfl; (with_reducible repeat (first | refine blk_drewN ?_ _ | refine blk_drew ?_ | refine blk_alloc ?_ _)); refine blk_put (cs := #[.int .i64 t400, .int .i64 0, .int .i64 0]) ?_ 1 _ rfl; (with_reducible repeat (first | refine blk_drewN ?_ _ | refine blk_drew ?_ | refine blk_alloc ?_ _)); refine blk_put (cs := #[.int .i64 0, .int .i64 0, .int .i64 0]) ?_ 0 _ rfl; (with_reducible repeat (first | refine blk_drewN ?_ _ | refine blk_drew ?_ | refine blk_alloc ?_ _)); exact BK403.out⟩, ⟨hb_⟩⟩
   case rest =>
    clear HC10
    try clear c1
    try clear c2
    try clear p2
    try clear c3
    try clear c4
    try clear c7
    try clear c7b0
    try clear c7b1
    try clear c8
    try clear c11
    try clear c12
    try clear c13
    try clear c14
    try clear c21
    try clear c23
    try clear c23b0
    try clear c25
    try clear c25b0
    try clear c25b1
    try clear c27
    try clear c33
    try clear hcz13_0
    try clear hcz13_1
    try clear hcz13_2
    try clear hcz15_0
    try clear hcz15_1
    try clear hcz15_2
    try clear hcz22_0
    try clear hcz22_1
    try clear hcz22_2
    try clear hcz28_0
    try clear hcz28_1
    try clear hcz28_2
    try clear hcz30_0
    try clear hcz30_1
    try clear hcz30_2
    try clear hcz34_0
    try clear hcz34_1
    try clear hcz34_2
    try clear hfz13_0
    try clear hfz13_1
    try clear hfz13_2
    try clear hfz15_0
    try clear hfz15_1
    try clear hfz15_2
    try clear hfz22_0
    try clear hfz22_1
    try clear hfz22_2
    try clear hfz28_0
    try clear hfz28_1
    try clear hfz28_2
    try clear hfz30_0
    try clear hfz30_1
    try clear hfz30_2
    try clear hfz34_0
    try clear hfz34_1
    try clear hfz34_2
    obtain ⟨kq, x42_9, rfl, HA, HJ9, BK393, BK403, HB⟩ := hcut
    cases kq with
    | zero => exact absurd HA.out (by simp [laws_FnDeadEnds.j0])
    | succ kj9 =>
     have H := HA.out
     clear HA
     simp only [laws_FnDeadEnds.j0] at H
     by_cases c36 : x42_9 = true
     ·subst c36
      have H1 : (some false) = some r := by rw [if_pos rfl] at H; exact H
      clear H
      have H := H1
      clear H1
      exact absurd ((Option.some.inj H).trans HT_.out) (by decide)
     ·replace c36 := Bool.eq_false_iff.mpr c36
      subst c36
      have H1 : ((impl_DeadEnds.f kj9 t390 t391 t392).bind fun t408 => (laws_FnDeadEnds.l0 kj9 t394 (Int.tmod t395 t394) (Int.tmod t396 t394) t408 0 t390 t391 t392 t400 t401 t402)) = some r := by rw [if_neg (show ¬ (false = true) by decide)] at H; exact H
      clear H
      have H := H1
      clear H1
      replace H := Option.bind_eq_some_iff.mp H
      obtain ⟨t408, A370, H⟩ := H
      replace H : (laws_FnDeadEnds.l0 kj9 t394 (Int.tmod t395 t394) (Int.tmod t396 t394) t408 0 t390 t391 t392 t400 t401 t402) = some r := H
      have A37 := Aside0.mk A370
      clear A370
      have H' := Aside0.mk H
      clear H
      have hnb38 := NB393_403.out
      have hnc38 := NB403_393.out
      have hcz39_0 : wc.cell? ⟨gb393, 0, none⟩ = some (.int .i64 t390) := (blk_cell BK393.out 0).trans rfl
      have hcz39_1 : wc.cell? ⟨gb393, 1, none⟩ = some (.int .i64 t391) := (blk_cell BK393.out 1).trans rfl
      have hcz39_2 : wc.cell? ⟨gb393, 2, none⟩ = some (.int .i64 t392) := (blk_cell BK393.out 2).trans rfl
      have hfz39_0 := blk_frozen BK393.out 0
      have hfz39_1 := blk_frozen BK393.out 1
      have hfz39_2 := blk_frozen BK393.out 2
      go_wp2_with (first | ((with_reducible refine gate_callee (f := 16) rfl ?_); refine goesL_ (some 44) rfl rfl Try.func16 (by kernel_rfl) rfl #[.agg #[.int .i64 t390, .int .i64 t391, .int .i64 t392]] rfl mp_ ?_; (with_reducible refine (impl_DeadEnds.calls kj9 t390 t391 t392 t408 _ A37.out).mono ?_); rintro e w40 ⟨v409, rfl, ho0, hb⟩; refine ⟨_, rfl, ?_⟩; have n0_ := Aside0.mk (Kd.R_lower ho0 (below_size hb_)); have n1_ := Aside0.mk (blk_below (g := gb393) (o := .cells #[.int .i64 t390, .int .i64 t391, .int .i64 t392] 29 (0, 0)) (kb_ BK393.out) hb); have n2_ := Aside0.mk (blk_below (g := gb403) (o := .cells #[.int .i64 t400, .int .i64 t401, .int .i64 t402] 29 (0, 0)) (kb_ BK403.out) hb); have n3_ := Aside0.mk (below_step hb_ hb); clear BK393; clear BK403; clear HB; have HO410 := n0_; have BK393 := n1_; have BK403 := n2_; have HB := n3_; clear n0_ n1_ n2_ n3_; (try clear hb); (try clear hb2); (try clear hk); (try clear hi); (try clear ho0)))
      go_loopg [9] kj9 (fun kq v9 w' => ∃ (x9_2 : Int), v9 = .int .i64 x9_2 ∧ Aside0 (laws_FnDeadEnds.l0 kq t394 (Int.tmod t395 t394) (Int.tmod t396 t394) t408 x9_2 t390 t391 t392 t400 t401 t402 = some r) ∧ Aside0 (kq ≤ kj9) ∧ Aside0 (Kd.R (Kd.int .i64) 3 w' w.heap.size (fun _ => True) v409 t408) ∧ Aside0 (w'.heap[gb393]? = some (.cells #[.int .i64 t390, .int .i64 t391, .int .i64 t392] 29 (0, 0))) ∧ Aside0 (w'.heap[gb403]? = some (.cells #[.int .i64 t400, .int .i64 t401, .int .i64 t402] 29 (0, 0))) ∧ Aside0 (Below w.heap.size w w'))
      case atStart => exact ⟨(0), (by first | rfl | (simp; done) | (simp [*]; done)), H', ⟨Nat.le_refl _⟩, ⟨kr_ HO410.out⟩, ⟨kb_ BK393.out⟩, ⟨kb_ BK403.out⟩, ⟨hb_⟩⟩
      case round =>
       clear H'
       try clear c1
       try clear c2
       try clear p2
       try clear c3
       try clear c4
       try clear c7
       try clear c7b0
       try clear c7b1
       try clear c8
       try clear c11
       try clear c12
       try clear c13
       try clear c14
       try clear c16
       try clear c21
       try clear c23
       try clear c23b0
       try clear c25
       try clear c25b0
       try clear c25b1
       try clear c27
       try clear c33
       try clear c36
       try clear c38
       try clear hcz13_0
       try clear hcz13_1
       try clear hcz13_2
       try clear hcz15_0
       try clear hcz15_1
       try clear hcz15_2
       try clear hcz22_0
       try clear hcz22_1
       try clear hcz22_2
       try clear hcz28_0
       try clear hcz28_1
       try clear hcz28_2
       try clear hcz30_0
       try clear hcz30_1
       try clear hcz30_2
       try clear hcz34_0
       try clear hcz34_1
       try clear hcz34_2
       try clear hcz39_0
       try clear hcz39_1
       try clear hcz39_2
       try clear hfz13_0
       try clear hfz13_1
       try clear hfz13_2
       try clear hfz15_0
       try clear hfz15_1
       try clear hfz15_2
       try clear hfz22_0
       try clear hfz22_1
       try clear hfz22_2
       try clear hfz28_0
       try clear hfz28_1
       try clear hfz28_2
       try clear hfz30_0
       try clear hfz30_1
       try clear hfz30_2
       try clear hfz34_0
       try clear hfz34_1
       try clear hfz34_2
       try clear hfz39_0
       try clear hfz39_1
       try clear hfz39_2
       try clear p2
       obtain ⟨x9_2, rfl, HA, HK2, HO_8, BK393, BK403, HB⟩ := hrel
       cases gk with
       | zero => exact absurd HA.out (by simp [laws_FnDeadEnds.l0])
       | succ k2 =>
        have H := HA.out
        clear HA
        simp only [laws_FnDeadEnds.l0] at H
        by_cases c41 : x9_2 < (t408.length : Int)
        ·rw [if_pos c41] at H
         have c41b0 : decide (x9_2 < (t408.length : Int)) = true := decide_eq_true c41
         clear c41
         replace H := Option.bind_eq_some_iff.mp H
         obtain ⟨t411, A420, H⟩ := H
         replace H : (if 0 ≤ x9_2 then ((laws_has.f k2 t411 (rd t408 x9_2)).bind fun t415 => (if t415 = true then (some false) else (laws_FnDeadEnds.l0 k2 t394 (Int.tmod t395 t394) (Int.tmod t396 t394) t408 (wrap64 (x9_2 + 1)) t390 t391 t392 t400 t401 t402))) else (none)) = some r := H
         have A42 := Aside0.mk A420
         clear A420
         by_cases c43 : 0 ≤ x9_2
         ·rw [if_pos c43] at H
          have c43b0 : decide (0 ≤ x9_2) = true := decide_eq_true c43
          clear c43
          replace H := Option.bind_eq_some_iff.mp H
          obtain ⟨t415, A440, H⟩ := H
          replace H : (if t415 = true then (some false) else (laws_FnDeadEnds.l0 k2 t394 (Int.tmod t395 t394) (Int.tmod t396 t394) t408 (wrap64 (x9_2 + 1)) t390 t391 t392 t400 t401 t402)) = some r := H
          have A44 := Aside0.mk A440
          clear A440
          by_cases c45 : t415 = true
          ·subst c45
           have H1 : (some false) = some r := by rw [if_pos rfl] at H; exact H
           clear H
           have H := H1
           clear H1
           exact absurd ((Option.some.inj H).trans HT_.out) (by decide)
          ·replace c45 := Bool.eq_false_iff.mpr c45
           subst c45
           have H1 : (laws_FnDeadEnds.l0 k2 t394 (Int.tmod t395 t394) (Int.tmod t396 t394) t408 (wrap64 (x9_2 + 1)) t390 t391 t392 t400 t401 t402) = some r := by rw [if_neg (show ¬ (false = true) by decide)] at H; exact H
           clear H
           have H := H1
           clear H1
           have H' := Aside0.mk H
           clear H
           obtain ⟨Ao46, co46, eo46⟩ := Kd.R_slice HO_8.out
           subst eo46
           try go_wp2
           have n0_ := Aside0.mk (Kd.R_drew HO_8.out)
           have n1_ := Aside0.mk (blk_drew BK393.out)
           have n2_ := Aside0.mk (blk_drew BK403.out)
           have n3_ := Aside0.mk (below_drew1 HB.out)
           clear HO_8
           clear BK393
           clear BK403
           clear HB
           have HO_8 := n0_
           have BK393 := n1_
           have BK403 := n2_
           have HB := n3_
           clear n0_ n1_ n2_ n3_
           have p414 : 0 ≤ (x9_2 : Int) := of_decide_eq_true (by first | (with_reducible assumption) | assumption)
           have q414 : x9_2 < (t408.length : Int) := of_decide_eq_true (by first | (with_reducible assumption) | assumption)
           obtain ⟨ad414, e414, hx414_0⟩ := Kd.at_int (Kd.R_reads' HO_8.out).2.2 x9_2 p414 q414
           cases e414
           replace p414 := eq_true p414
           replace q414 := eq_true q414
           refine start_ (n := 7) (S := fun w' => w'.cell? ⟨gb393, 0, none⟩ = some (.int .i64 t390) ∧ w'.cell? ⟨gb393, 1, none⟩ = some (.int .i64 t391) ∧ w'.cell? ⟨gb393, 2, none⟩ = some (.int .i64 t392) ∧ w'.cell? (ad414.add (x9_2).toNat) = some (.int .i64 (rd t408 x9_2))) (ds := []) #[false, false, false, false, false, false, false] (by kernel_rfl) rfl rfl ⟨(blk_cell BK393.out 0).trans rfl, (blk_cell BK393.out 1).trans rfl, (blk_cell BK393.out 2).trans rfl, hx414_0⟩ (fun hHeld => ?_)
           generalize wr.drew = w47 at HO_8 BK393 BK403 HB hx414_0 hHeld ⊢
           refine pure_ (i := 2) (N := some 53) (v := ?_) (a' := ?_) #[false, false, true, false, false, false, false] rfl rfl (by kernel_rfl) (fun _ _ _ h => h) (Or.inl ⟨by rfl, ?_⟩) ?_ ?_
           rotate_left
           ·intro w'
            go_simp
            with_reducible rfl
           rotate_left
           ·simp only [Act.put, List.setIfInBounds_toArray, List.set_cons_zero, List.set_cons_succ, i64_w, i32_w]
            rfl
           refine pure_ (i := 3) (N := some 54) (v := ?_) (a' := ?_) #[false, false, true, true, false, false, false] rfl rfl (by kernel_rfl) (fun _ _ _ h => h) (Or.inl ⟨by rfl, ?_⟩) ?_ ?_
           rotate_left
           ·intro w'
            go_simp
            with_reducible rfl
           rotate_left
           ·simp only [Act.put, List.setIfInBounds_toArray, List.set_cons_zero, List.set_cons_succ, i64_w, i32_w]
            rfl
           refine pure_ (i := 4) (N := some 55) (v := ?_) (a' := ?_) #[false, false, true, true, true, false, false] rfl rfl (by kernel_rfl) (fun _ _ _ h => h) (Or.inl ⟨by rfl, ?_⟩) ?_ ?_
           rotate_left
           ·intro w'
            go_simp
            with_reducible rfl
           rotate_left
           ·simp only [Act.put, List.setIfInBounds_toArray, List.set_cons_zero, List.set_cons_succ, i64_w, i32_w]
            rfl
           refine take_ (i := 0) (N := some 51) (v := ?_) (a' := ?_) #[true, false, true, true, true, false, false] rfl rfl (by kernel_rfl) (fun _ _ _ h => h) (Or.inl ⟨by rfl, ?_⟩) hHeld ?_ ?_
           rotate_left
           ·rintro w' ⟨s0, s1, s2, s3⟩
            go_simp
            with_reducible rfl
           rotate_left
           ·simp only [Act.put, List.setIfInBounds_toArray, List.set_cons_zero, List.set_cons_succ, i64_w, i32_w]
            rfl
           refine take_ (i := 5) (N := some 56) (v := ?_) (a' := ?_) #[true, false, true, true, true, true, false] rfl rfl (by kernel_rfl) (fun _ _ _ h => h) (Or.inl ⟨by rfl, ?_⟩) hHeld ?_ ?_
           rotate_left
           ·rintro w' ⟨s0, s1, s2, s3⟩
            go_simp
            with_reducible rfl
           rotate_left
           ·simp only [Act.put, List.setIfInBounds_toArray, List.set_cons_zero, List.set_cons_succ, i64_w, i32_w]
            rfl
           refine one_ (i := 1) (N := some 52) #[true, true, true, true, true, true, false] rfl rfl (by kernel_rfl) (by decide) (fun K hK => ?_)
           refine goes_ Try.func18 (by kernel_rfl) rfl #[.agg #[.int .i64 t390, .int .i64 t391, .int .i64 t392]] (by rfl) rfl rfl mp_ ?_
           with_reducible refine (impl_Junctions.calls k2 t390 t391 t392 t411 _ A42.out).mono ?_
           rintro e w48 ⟨v412, rfl, ho0, hb⟩
           have HS3_ := (hb.cell (World.block_lt_of_cell? _ _ (hHeld.2.2.2))).trans (hHeld.2.2.2)
           refine ⟨_, rfl, ?_⟩
           have n0_ := Aside0.mk (Kd.R_elder' (kr_ HO_8.out) (Kd.R_base ho0) hb)
           have n1_ := Aside0.mk (Kd.R_lower (Kd.R_new' ho0 (Kd.R_lt (kr_ HO_8.out))) (below_size hb_))
           have n2_ := Aside0.mk (blk_below (g := gb393) (o := .cells #[.int .i64 t390, .int .i64 t391, .int .i64 t392] 29 (0, 0)) (kb_ BK393.out) hb)
           have n3_ := Aside0.mk (blk_below (g := gb403) (o := .cells #[.int .i64 t400, .int .i64 t401, .int .i64 t402] 29 (0, 0)) (kb_ BK403.out) hb)
           have n4_ := Aside0.mk (below_step hb_ hb)
           clear HO_8
           clear BK393
           clear BK403
           clear HB
           have HO_8 := n0_
           have HO413 := n1_
           have BK393 := n2_
           have BK403 := n3_
           have HB := n4_
           clear n0_ n1_ n2_ n3_ n4_
           (try clear hb)
           (try clear hb2)
           (try clear hk)
           (try clear hi)
           (try clear ho0)
           obtain ⟨Ao49, co49, eo49⟩ := Kd.R_slice HO413.out
           (first | subst eo49 | (injection eo49 with f1_ f2_ f3_; have f4_ := f1_.symm; have f5_ := f3_.symm; clear f1_ f2_ f3_; subst f4_; subst f5_))
           refine hK.out _ _ ⟨(blk_cell BK393.out 0).trans rfl, (blk_cell BK393.out 1).trans rfl, (blk_cell BK393.out 2).trans rfl, HS3_⟩ (fun hHeld => ?_)
           clear hK K
           refine norm_ (a' := ?_) ?_ ?_
           rotate_left
           ·show Act.put _ (some 52) _ = _
            simp only [Act.put, List.setIfInBounds_toArray, List.set_cons_zero, List.set_cons_succ, i64_w, i32_w]
            rfl
           refine one_ (i := 6) (N := some 57) #[true, true, true, true, true, true, true] rfl rfl (by kernel_rfl) (by decide) (fun K hK => ?_)
           refine goes_ Try.func17 (by kernel_rfl) rfl #[.slice Ao49 t411.length co49, .int .i64 (rd t408 x9_2)] (by rfl) rfl rfl mp_ ?_
           with_reducible refine (laws_has.calls k2 _ _ t411 (rd t408 x9_2) false _ ?side1 ?side2 A44.out).mono ?_
           (case side1 => repeat (first | exact (Kd.R_reads' HO413.out).2.2 | (with_reducible refine Kd.C_alloc ?_ _) | (with_reducible refine Kd.C_drewN ?_ _) | (with_reducible refine Kd.C_drew ?_)))
           (case side2 => exact (Kd.R_reads' HO413.out).2.1)
           rintro e w' ⟨rfl, ⟨nd, rfl⟩⟩
           refine ⟨_, rfl, ?_⟩
           refine hK.out _ _ ⟨(blk_cell BK393.out 0).trans rfl, (blk_cell BK393.out 1).trans rfl, (blk_cell BK393.out 2).trans rfl, hHeld.2.2.2⟩ (fun hHeld => ?_)
           clear hK K
           refine norm_ (a' := ?_) ?_ ?_
           rotate_left
           ·show Act.put _ (some 57) _ = _
            simp only [Act.put, List.setIfInBounds_toArray, List.set_cons_zero, List.set_cons_succ, i64_w, i32_w]
            rfl
           refine done_ (by kernel_rfl) ?_
           try go_wp2
           go_roundg k2
           case measure => have := HJ9.out; have := HK2.out; omega
           case rel => exact ⟨(wrap64 (x9_2 + 1)), (by first | rfl | (simp; done) | (simp [*]; done)), H', ⟨by have := HJ9.out; have := HK2.out; omega⟩, ⟨by (with_reducible repeat (first | apply Kd.R_alloc | apply Kd.R_drewN | apply Kd.R_drew)); exact Kd.R_mono HO_8.out (fun _ hk => trivial)⟩, ⟨kb_ BK393.out⟩, ⟨kb_ BK403.out⟩, ⟨hb_⟩⟩
         ·rw [if_neg c43] at H
          exact absurd H (by simp)
        ·rw [if_neg c41] at H
         have c41b0 : decide (x9_2 < (t408.length : Int)) = false := decide_eq_false c41
         clear c41
         replace H := Option.bind_eq_some_iff.mp H
         obtain ⟨t416, A500, H⟩ := H
         replace H : ((impl_DistanceOf.f k2 t390 t391 t392 (Int.tmod t395 t394) (Int.tmod t396 t394)).bind fun t417 => (if t416 = t417 then ((impl_DistanceOf.f k2 t400 t401 t402 (Int.tmod t395 t394) (Int.tmod t396 t394)).bind fun t418 => ((impl_DistanceOf.f k2 t390 t391 t392 (Int.tmod t395 t394) (Int.tmod t396 t394)).bind fun t419 => (if t418 = t419 then ((impl_CountStraight.f k2 t390 t391 t392).bind fun t420 => (if t420 ≤ t394 then ((impl_FillDeadEnds.f k2 t390 t391 t392 ([] : List Int)).bind fun bt421 => ((impl_CountPassages.f bt421.1 bt421.2.1 bt421.2.2).bind fun t424 => (some (t424 == 0)))) else (some false))) else (some false)))) else (some false))) = some r := H
         have A50 := Aside0.mk A500
         clear A500
         replace H := Option.bind_eq_some_iff.mp H
         obtain ⟨t417, A510, H⟩ := H
         replace H : (if t416 = t417 then ((impl_DistanceOf.f k2 t400 t401 t402 (Int.tmod t395 t394) (Int.tmod t396 t394)).bind fun t418 => ((impl_DistanceOf.f k2 t390 t391 t392 (Int.tmod t395 t394) (Int.tmod t396 t394)).bind fun t419 => (if t418 = t419 then ((impl_CountStraight.f k2 t390 t391 t392).bind fun t420 => (if t420 ≤ t394 then ((impl_FillDeadEnds.f k2 t390 t391 t392 ([] : List Int)).bind fun bt421 => ((impl_CountPassages.f bt421.1 bt421.2.1 bt421.2.2).bind fun t424 => (some (t424 == 0)))) else (some false))) else (some false)))) else (some false)) = some r := H
         have A51 := Aside0.mk A510
         clear A510
         by_cases c52 : t416 = t417
         ·rw [if_pos c52] at H
          have c52b0 : (t416 == t417) = true := beq_iff_eq.mpr c52
          have c52b1 : (t416 != t417) = false := bne_eq_false_iff_eq.mpr c52
          clear c52
          replace H := Option.bind_eq_some_iff.mp H
          obtain ⟨t418, A530, H⟩ := H
          replace H : ((impl_DistanceOf.f k2 t390 t391 t392 (Int.tmod t395 t394) (Int.tmod t396 t394)).bind fun t419 => (if t418 = t419 then ((impl_CountStraight.f k2 t390 t391 t392).bind fun t420 => (if t420 ≤ t394 then ((impl_FillDeadEnds.f k2 t390 t391 t392 ([] : List Int)).bind fun bt421 => ((impl_CountPassages.f bt421.1 bt421.2.1 bt421.2.2).bind fun t424 => (some (t424 == 0)))) else (some false))) else (some false))) = some r := H
          have A53 := Aside0.mk A530
          clear A530
          replace H := Option.bind_eq_some_iff.mp H
          obtain ⟨t419, A540, H⟩ := H
          replace H : (if t418 = t419 then ((impl_CountStraight.f k2 t390 t391 t392).bind fun t420 => (if t420 ≤ t394 then ((impl_FillDeadEnds.f k2 t390 t391 t392 ([] : List Int)).bind fun bt421 => ((impl_CountPassages.f bt421.1 bt421.2.1 bt421.2.2).bind fun t424 => (some (t424 == 0)))) else (some false))) else (some false)) = some r := H
          have A54 := Aside0.mk A540
          clear A540
          have EA54 := Aside0.mk (show t419 = t417 from by have e_ := Option.some.inj (A54.out.symm.trans A51.out); simpa only [Prod.mk.injEq] using e_)
          by_cases c55 : t418 = t419
          ·rw [if_pos c55] at H
           have c55b0 : (t418 == t419) = true := beq_iff_eq.mpr c55
           have c55b1 : (t418 != t419) = false := bne_eq_false_iff_eq.mpr c55
           clear c55
           replace H := Option.bind_eq_some_iff.mp H
           obtain ⟨t420, A560, H⟩ := H
           replace H : (if t420 ≤ t394 then ((impl_FillDeadEnds.f k2 t390 t391 t392 ([] : List Int)).bind fun bt421 => ((impl_CountPassages.f bt421.1 bt421.2.1 bt421.2.2).bind fun t424 => (some (t424 == 0)))) else (some false)) = some r := H
           have A56 := Aside0.mk A560
           clear A560
           by_cases c57 : t420 ≤ t394
           ·rw [if_pos c57] at H
            have c57b0 : decide (t420 ≤ t394) = true := decide_eq_true c57
            clear c57
            replace H := Option.bind_eq_some_iff.mp H
            obtain ⟨⟨t421, t422, t423⟩, A580, H⟩ := H
            replace H : ((impl_CountPassages.f t421 t422 t423).bind fun t424 => (some (t424 == 0))) = some r := H
            have A58 := Aside0.mk A580
            clear A580
            replace H := Option.bind_eq_some_iff.mp H
            obtain ⟨t424, A590, H⟩ := H
            replace H : (some (t424 == 0)) = some r := H
            have A59 := Aside0.mk A590
            clear A590
            obtain rfl := Option.some.inj H
            obtain ⟨Ao60, co60, eo60⟩ := Kd.R_slice HO_8.out
            subst eo60
            try go_wp2
            have n0_ := Aside0.mk (Kd.R_drew HO_8.out)
            have n1_ := Aside0.mk (blk_drew BK393.out)
            have n2_ := Aside0.mk (blk_drew BK403.out)
            have n3_ := Aside0.mk (below_drew1 HB.out)
            clear HO_8
            clear BK393
            clear BK403
            clear HB
            have HO_8 := n0_
            have BK393 := n1_
            have BK403 := n2_
            have HB := n3_
            clear n0_ n1_ n2_ n3_
            refine start_ (n := 31) (S := fun w' => w'.cell? ⟨gb403, 0, none⟩ = some (.int .i64 t400) ∧ w'.cell? ⟨gb403, 1, none⟩ = some (.int .i64 t401) ∧ w'.cell? ⟨gb403, 2, none⟩ = some (.int .i64 t402) ∧ w'.cell? ⟨gb393, 0, none⟩ = some (.int .i64 t390) ∧ w'.cell? ⟨gb393, 1, none⟩ = some (.int .i64 t391) ∧ w'.cell? ⟨gb393, 2, none⟩ = some (.int .i64 t392)) (ds := []) #[false, false, false, false, false, false, false, false, false, false, false, false, false, false, false, false, false, false, false, false, false, false, false, false, false, false, false, false, false, false, false] (by kernel_rfl) rfl rfl ⟨(blk_cell BK403.out 0).trans rfl, (blk_cell BK403.out 1).trans rfl, (blk_cell BK403.out 2).trans rfl, (blk_cell BK393.out 0).trans rfl, (blk_cell BK393.out 1).trans rfl, (blk_cell BK393.out 2).trans rfl⟩ (fun hHeld => ?_); refine with_tabW laws_FnDeadEnds.tab16 laws_FnDeadEnds.bits16 (fun HT_ HW_ => ?_)
            generalize wr.drew = w61 at HO_8 BK393 BK403 HB hHeld ⊢
            refine pure_ (i := 3) (N := some 61) (v := ?_) (a' := ?_) #[false, false, false, true, false, false, false, false, false, false, false, false, false, false, false, false, false, false, false, false, false, false, false, false, false, false, false, false, false, false, false] rfl rfl (any_of HT_.out (by kernel_rfl)) (fun _ _ _ h => h) (Or.inl ⟨by rfl, ?_⟩) ?_ ?_
            rotate_left
            ·intro w'
             go_simp
             with_reducible rfl
            rotate_left
            ·simp only [Act.put, List.setIfInBounds_toArray, List.set_cons_zero, List.set_cons_succ, i64_w, i32_w]
             rfl
            refine pure_ (i := 4) (N := some 62) (v := ?_) (a' := ?_) #[false, false, false, true, true, false, false, false, false, false, false, false, false, false, false, false, false, false, false, false, false, false, false, false, false, false, false, false, false, false, false] rfl rfl (any_of HT_.out (by kernel_rfl)) (fun _ _ _ h => h) (Or.inl ⟨by rfl, ?_⟩) ?_ ?_
            rotate_left
            ·intro w'
             go_simp
             with_reducible rfl
            rotate_left
            ·simp only [Act.put, List.setIfInBounds_toArray, List.set_cons_zero, List.set_cons_succ, i64_w, i32_w]
             rfl
            refine take_ (i := 0) (N := some 58) (v := ?_) (a' := ?_) #[true, false, false, true, true, false, false, false, false, false, false, false, false, false, false, false, false, false, false, false, false, false, false, false, false, false, false, false, false, false, false] rfl rfl (take_ofW HT_.out HW_.out (by kernel_rfl)) (fun _ _ _ h => h) (Or.inl ⟨by rfl, ?_⟩) hHeld ?_ ?_
            rotate_left
            ·rintro w' ⟨s0, s1, s2, s3, s4, s5⟩
             go_simp
             with_reducible rfl
            rotate_left
            ·simp only [Act.put, List.setIfInBounds_toArray, List.set_cons_zero, List.set_cons_succ, i64_w, i32_w]
             rfl
            refine take_ (i := 2) (N := some 60) (v := ?_) (a' := ?_) #[true, false, true, true, true, false, false, false, false, false, false, false, false, false, false, false, false, false, false, false, false, false, false, false, false, false, false, false, false, false, false] rfl rfl (take_ofW HT_.out HW_.out (by kernel_rfl)) (fun _ _ _ h => h) (Or.inl ⟨by rfl, ?_⟩) hHeld ?_ ?_
            rotate_left
            ·rintro w' ⟨s0, s1, s2, s3, s4, s5⟩
             go_simp
             with_reducible rfl
            rotate_left
            ·simp only [Act.put, List.setIfInBounds_toArray, List.set_cons_zero, List.set_cons_succ, i64_w, i32_w]
             rfl
            refine one_ (i := 1) (N := some 59) #[true, true, true, true, true, false, false, false, false, false, false, false, false, false, false, false, false, false, false, false, false, false, false, false, false, false, false, false, false, false, false] rfl rfl (one_of HT_.out (by kernel_rfl)) (by decide) (fun K hK => ?_)
            refine goes_ Try.func19 (by kernel_rfl) rfl #[.agg #[.int .i64 t400, .int .i64 t401, .int .i64 t402]] (by rfl) rfl rfl mp_ ?_
            with_reducible refine (impl_CountPassages.calls t400 t401 t402 t416 _ A50.out).mono ?_
            rintro e w62 ⟨rfl, hb⟩
            refine ⟨_, rfl, ?_⟩
            have n0_ := Aside0.mk (Kd.R_below (kr_ HO_8.out) hb)
            have n1_ := Aside0.mk (blk_below (g := gb393) (o := .cells #[.int .i64 t390, .int .i64 t391, .int .i64 t392] 29 (0, 0)) (kb_ BK393.out) hb)
            have n2_ := Aside0.mk (blk_below (g := gb403) (o := .cells #[.int .i64 t400, .int .i64 t401, .int .i64 t402] 29 (0, 0)) (kb_ BK403.out) hb)
            have n3_ := Aside0.mk (below_step hb_ hb)
            clear HO_8
            clear BK393
            clear BK403
            clear HB
            have HO_8 := n0_
            have BK393 := n1_
            have BK403 := n2_
            have HB := n3_
            clear n0_ n1_ n2_ n3_
            (try clear hb)
            (try clear hb2)
            (try clear hk)
            (try clear hi)
            refine hK.out _ _ ⟨(blk_cell BK403.out 0).trans rfl, (blk_cell BK403.out 1).trans rfl, (blk_cell BK403.out 2).trans rfl, (blk_cell BK393.out 0).trans rfl, (blk_cell BK393.out 1).trans rfl, (blk_cell BK393.out 2).trans rfl⟩ (fun hHeld => ?_)
            clear hK K
            refine norm_ (a' := ?_) ?_ ?_
            rotate_left
            ·show Act.put _ (some 59) _ = _
             simp only [Act.put, List.setIfInBounds_toArray, List.set_cons_zero, List.set_cons_succ, i64_w, i32_w]
             rfl
            refine one_ (i := 5) (N := some 63) #[true, true, true, true, true, true, false, false, false, false, false, false, false, false, false, false, false, false, false, false, false, false, false, false, false, false, false, false, false, false, false] rfl rfl (one_of HT_.out (by kernel_rfl)) (by decide) (fun K hK => ?_)
            refine goes_ Try.func20 (by kernel_rfl) rfl #[.agg #[.int .i64 t390, .int .i64 t391, .int .i64 t392], .int .i64 (Int.tmod t395 t394), .int .i64 (Int.tmod t396 t394)] (by rfl) rfl rfl mp_ ?_
            with_reducible refine (impl_DistanceOf.calls k2 t390 t391 t392 (Int.tmod t395 t394) (Int.tmod t396 t394) t417 _ A51.out).mono ?_
            rintro e w63 ⟨rfl, hb⟩
            refine ⟨_, rfl, ?_⟩
            have n0_ := Aside0.mk (Kd.R_below (kr_ HO_8.out) hb)
            have n1_ := Aside0.mk (blk_below (g := gb393) (o := .cells #[.int .i64 t390, .int .i64 t391, .int .i64 t392] 29 (0, 0)) (kb_ BK393.out) hb)
            have n2_ := Aside0.mk (blk_below (g := gb403) (o := .cells #[.int .i64 t400, .int .i64 t401, .int .i64 t402] 29 (0, 0)) (kb_ BK403.out) hb)
            have n3_ := Aside0.mk (below_step hb_ hb)
            clear HO_8
            clear BK393
            clear BK403
            clear HB
            have HO_8 := n0_
            have BK393 := n1_
            have BK403 := n2_
            have HB := n3_
            clear n0_ n1_ n2_ n3_
            (try clear hb)
            (try clear hb2)
            (try clear hk)
            (try clear hi)
            refine hK.out _ _ ⟨(blk_cell BK403.out 0).trans rfl, (blk_cell BK403.out 1).trans rfl, (blk_cell BK403.out 2).trans rfl, (blk_cell BK393.out 0).trans rfl, (blk_cell BK393.out 1).trans rfl, (blk_cell BK393.out 2).trans rfl⟩ (fun hHeld => ?_)
            clear hK K
            refine norm_ (a' := ?_) ?_ ?_
            rotate_left
            ·show Act.put _ (some 63) _ = _
             simp only [Act.put, List.setIfInBounds_toArray, List.set_cons_zero, List.set_cons_succ, i64_w, i32_w]
             rfl
            refine pure_ (i := 6) (N := some 64) (v := ?_) (a' := ?_) #[true, true, true, true, true, true, true, false, false, false, false, false, false, false, false, false, false, false, false, false, false, false, false, false, false, false, false, false, false, false, false] rfl rfl (any_of HT_.out (by kernel_rfl)) (fun _ _ _ h => h) (Or.inl ⟨by rfl, ?_⟩) ?_ ?_
            rotate_left
            ·intro w'
             go_simp
             with_reducible rfl
            rotate_left
            ·simp only [Act.put, List.setIfInBounds_toArray, List.set_cons_zero, List.set_cons_succ, i64_w, i32_w]
             rfl
            refine pure_ (i := 7) (N := some 65) (v := ?_) (a' := ?_) #[true, true, true, true, true, true, true, true, false, false, false, false, false, false, false, false, false, false, false, false, false, false, false, false, false, false, false, false, false, false, false] rfl rfl (any_of HT_.out (by kernel_rfl)) (fun _ _ _ h => h) (Or.inl ⟨by rfl, ?_⟩) ?_ ?_
            rotate_left
            ·intro w'
             go_simp
             with_reducible rfl
            rotate_left
            ·simp only [Act.put, List.setIfInBounds_toArray, List.set_cons_zero, List.set_cons_succ, i64_w, i32_w]
             rfl
            refine pure_ (i := 9) (N := some 67) (v := ?_) (a' := ?_) #[true, true, true, true, true, true, true, true, false, true, false, false, false, false, false, false, false, false, false, false, false, false, false, false, false, false, false, false, false, false, false] rfl rfl (any_of HT_.out (by kernel_rfl)) (fun _ _ _ h => h) (Or.inl ⟨by rfl, ?_⟩) ?_ ?_
            rotate_left
            ·intro w'
             go_simp
             with_reducible rfl
            rotate_left
            ·simp only [Act.put, List.setIfInBounds_toArray, List.set_cons_zero, List.set_cons_succ, i64_w, i32_w]
             rfl
            refine pure_ (i := 10) (N := some 68) (v := ?_) (a' := ?_) #[true, true, true, true, true, true, true, true, false, true, true, false, false, false, false, false, false, false, false, false, false, false, false, false, false, false, false, false, false, false, false] rfl rfl (any_of HT_.out (by kernel_rfl)) (fun _ _ _ h => h) (Or.inl ⟨by rfl, ?_⟩) ?_ ?_
            rotate_left
            ·intro w'
             go_simp
             with_reducible rfl
            rotate_left
            ·simp only [Act.put, List.setIfInBounds_toArray, List.set_cons_zero, List.set_cons_succ, i64_w, i32_w]
             rfl
            refine pure_ (i := 13) (N := some 71) (v := ?_) (a' := ?_) #[true, true, true, true, true, true, true, true, false, true, true, false, false, true, false, false, false, false, false, false, false, false, false, false, false, false, false, false, false, false, false] rfl rfl (any_of HT_.out (by kernel_rfl)) (fun _ _ _ h => h) (Or.inl ⟨by rfl, ?_⟩) ?_ ?_
            rotate_left
            ·intro w'
             go_simp
             with_reducible rfl
            rotate_left
            ·simp only [Act.put, List.setIfInBounds_toArray, List.set_cons_zero, List.set_cons_succ, i64_w, i32_w]
             rfl
            refine pure_ (i := 14) (N := some 72) (v := ?_) (a' := ?_) #[true, true, true, true, true, true, true, true, false, true, true, false, false, true, true, false, false, false, false, false, false, false, false, false, false, false, false, false, false, false, false] rfl rfl (any_of HT_.out (by kernel_rfl)) (fun _ _ _ h => h) (Or.inl ⟨by rfl, ?_⟩) ?_ ?_
            rotate_left
            ·intro w'
             go_simp
             with_reducible rfl
            rotate_left
            ·simp only [Act.put, List.setIfInBounds_toArray, List.set_cons_zero, List.set_cons_succ, i64_w, i32_w]
             rfl
            refine take_ (i := 8) (N := some 66) (v := ?_) (a' := ?_) #[true, true, true, true, true, true, true, true, true, true, true, false, false, true, true, false, false, false, false, false, false, false, false, false, false, false, false, false, false, false, false] rfl rfl (take_ofW HT_.out HW_.out (by kernel_rfl)) (fun _ _ _ h => h) (Or.inl ⟨by rfl, ?_⟩) hHeld ?_ ?_
            rotate_left
            ·rintro w' ⟨s0, s1, s2, s3, s4, s5⟩
             go_simp
             with_reducible rfl
            rotate_left
            ·simp only [Act.put, List.setIfInBounds_toArray, List.set_cons_zero, List.set_cons_succ, i64_w, i32_w]
             rfl
            refine take_ (i := 12) (N := some 70) (v := ?_) (a' := ?_) #[true, true, true, true, true, true, true, true, true, true, true, false, true, true, true, false, false, false, false, false, false, false, false, false, false, false, false, false, false, false, false] rfl rfl (take_ofW HT_.out HW_.out (by kernel_rfl)) (fun _ _ _ h => h) (Or.inl ⟨by rfl, ?_⟩) hHeld ?_ ?_
            rotate_left
            ·rintro w' ⟨s0, s1, s2, s3, s4, s5⟩
             go_simp
             with_reducible rfl
            rotate_left
            ·simp only [Act.put, List.setIfInBounds_toArray, List.set_cons_zero, List.set_cons_succ, i64_w, i32_w]
             rfl
            refine one_ (i := 11) (N := some 69) #[true, true, true, true, true, true, true, true, true, true, true, true, true, true, true, false, false, false, false, false, false, false, false, false, false, false, false, false, false, false, false] rfl rfl (one_of HT_.out (by kernel_rfl)) (by decide) (fun K hK => ?_)
            refine goes_ Try.func20 (by kernel_rfl) rfl #[.agg #[.int .i64 t400, .int .i64 t401, .int .i64 t402], .int .i64 (Int.tmod t395 t394), .int .i64 (Int.tmod t396 t394)] (by rfl) rfl rfl mp_ ?_
            with_reducible refine (impl_DistanceOf.calls k2 t400 t401 t402 (Int.tmod t395 t394) (Int.tmod t396 t394) t418 _ A53.out).mono ?_
            rintro e w64 ⟨rfl, hb⟩
            refine ⟨_, rfl, ?_⟩
            have n0_ := Aside0.mk (Kd.R_below (kr_ HO_8.out) hb)
            have n1_ := Aside0.mk (blk_below (g := gb393) (o := .cells #[.int .i64 t390, .int .i64 t391, .int .i64 t392] 29 (0, 0)) (kb_ BK393.out) hb)
            have n2_ := Aside0.mk (blk_below (g := gb403) (o := .cells #[.int .i64 t400, .int .i64 t401, .int .i64 t402] 29 (0, 0)) (kb_ BK403.out) hb)
            have n3_ := Aside0.mk (below_step hb_ hb)
            clear HO_8
            clear BK393
            clear BK403
            clear HB
            have HO_8 := n0_
            have BK393 := n1_
            have BK403 := n2_
            have HB := n3_
            clear n0_ n1_ n2_ n3_
            (try clear hb)
            (try clear hb2)
            (try clear hk)
            (try clear hi)
            refine hK.out _ _ ⟨(blk_cell BK403.out 0).trans rfl, (blk_cell BK403.out 1).trans rfl, (blk_cell BK403.out 2).trans rfl, (blk_cell BK393.out 0).trans rfl, (blk_cell BK393.out 1).trans rfl, (blk_cell BK393.out 2).trans rfl⟩ (fun hHeld => ?_)
            clear hK K
            refine norm_ (a' := ?_) ?_ ?_
            rotate_left
            ·show Act.put _ (some 69) _ = _
             simp only [Act.put, List.setIfInBounds_toArray, List.set_cons_zero, List.set_cons_succ, i64_w, i32_w]
             rfl
            refine one_ (i := 15) (N := some 73) #[true, true, true, true, true, true, true, true, true, true, true, true, true, true, true, true, false, false, false, false, false, false, false, false, false, false, false, false, false, false, false] rfl rfl (one_of HT_.out (by kernel_rfl)) (by decide) (fun K hK => ?_)
            refine goes_ Try.func20 (by kernel_rfl) rfl #[.agg #[.int .i64 t390, .int .i64 t391, .int .i64 t392], .int .i64 (Int.tmod t395 t394), .int .i64 (Int.tmod t396 t394)] (by rfl) rfl rfl mp_ ?_
            with_reducible refine (impl_DistanceOf.calls k2 t390 t391 t392 (Int.tmod t395 t394) (Int.tmod t396 t394) t419 _ A54.out).mono ?_
            rintro e w65 ⟨rfl, hb⟩
            refine ⟨_, rfl, ?_⟩
            have n0_ := Aside0.mk (Kd.R_below (kr_ HO_8.out) hb)
            have n1_ := Aside0.mk (blk_below (g := gb393) (o := .cells #[.int .i64 t390, .int .i64 t391, .int .i64 t392] 29 (0, 0)) (kb_ BK393.out) hb)
            have n2_ := Aside0.mk (blk_below (g := gb403) (o := .cells #[.int .i64 t400, .int .i64 t401, .int .i64 t402] 29 (0, 0)) (kb_ BK403.out) hb)
            have n3_ := Aside0.mk (below_step hb_ hb)
            clear HO_8
            clear BK393
            clear BK403
            clear HB
            have HO_8 := n0_
            have BK393 := n1_
            have BK403 := n2_
            have HB := n3_
            clear n0_ n1_ n2_ n3_
            (try clear hb)
            (try clear hb2)
            (try clear hk)
            (try clear hi)
            refine hK.out _ _ ⟨(blk_cell BK403.out 0).trans rfl, (blk_cell BK403.out 1).trans rfl, (blk_cell BK403.out 2).trans rfl, (blk_cell BK393.out 0).trans rfl, (blk_cell BK393.out 1).trans rfl, (blk_cell BK393.out 2).trans rfl⟩ (fun hHeld => ?_)
            clear hK K
            refine norm_ (a' := ?_) ?_ ?_
            rotate_left
            ·show Act.put _ (some 73) _ = _
             simp only [Act.put, List.setIfInBounds_toArray, List.set_cons_zero, List.set_cons_succ, i64_w, i32_w]
             rfl
            refine pure_ (i := 16) (N := some 74) (v := ?_) (a' := ?_) #[true, true, true, true, true, true, true, true, true, true, true, true, true, true, true, true, true, false, false, false, false, false, false, false, false, false, false, false, false, false, false] rfl rfl (any_of HT_.out (by kernel_rfl)) (fun _ _ _ h => h) (Or.inl ⟨by rfl, ?_⟩) ?_ ?_
            rotate_left
            ·intro w'
             go_simp
             with_reducible rfl
            rotate_left
            ·simp only [Act.put, List.setIfInBounds_toArray, List.set_cons_zero, List.set_cons_succ, i64_w, i32_w]
             rfl
            refine pure_ (i := 17) (N := some 75) (v := ?_) (a' := ?_) #[true, true, true, true, true, true, true, true, true, true, true, true, true, true, true, true, true, true, false, false, false, false, false, false, false, false, false, false, false, false, false] rfl rfl (any_of HT_.out (by kernel_rfl)) (fun _ _ _ h => h) (Or.inl ⟨by rfl, ?_⟩) ?_ ?_
            rotate_left
            ·intro w'
             go_simp
             with_reducible rfl
            rotate_left
            ·simp only [Act.put, List.setIfInBounds_toArray, List.set_cons_zero, List.set_cons_succ, i64_w, i32_w]
             rfl
            refine pure_ (i := 18) (N := some 76) (v := ?_) (a' := ?_) #[true, true, true, true, true, true, true, true, true, true, true, true, true, true, true, true, true, true, true, false, false, false, false, false, false, false, false, false, false, false, false] rfl rfl (any_of HT_.out (by kernel_rfl)) (fun _ _ _ h => h) (Or.inl ⟨by rfl, ?_⟩) ?_ ?_
            rotate_left
            ·intro w'
             go_simp
             with_reducible rfl
            rotate_left
            ·simp only [Act.put, List.setIfInBounds_toArray, List.set_cons_zero, List.set_cons_succ, i64_w, i32_w]
             rfl
            refine pure_ (i := 21) (N := some 79) (v := ?_) (a' := ?_) #[true, true, true, true, true, true, true, true, true, true, true, true, true, true, true, true, true, true, true, false, false, true, false, false, false, false, false, false, false, false, false] rfl rfl (any_of HT_.out (by kernel_rfl)) (fun _ _ _ h => h) (Or.inl ⟨by rfl, ?_⟩) ?_ ?_
            rotate_left
            ·intro w'
             go_simp
             with_reducible rfl
            rotate_left
            ·simp only [Act.put, List.setIfInBounds_toArray, List.set_cons_zero, List.set_cons_succ, i64_w, i32_w]
             rfl
            refine take_ (i := 19) (N := some 77) (v := ?_) (a' := ?_) #[true, true, true, true, true, true, true, true, true, true, true, true, true, true, true, true, true, true, true, true, false, true, false, false, false, false, false, false, false, false, false] rfl rfl (take_ofW HT_.out HW_.out (by kernel_rfl)) (fun _ _ _ h => h) (Or.inl ⟨by rfl, ?_⟩) hHeld ?_ ?_
            rotate_left
            ·rintro w' ⟨s0, s1, s2, s3, s4, s5⟩
             go_simp
             with_reducible rfl
            rotate_left
            ·simp only [Act.put, List.setIfInBounds_toArray, List.set_cons_zero, List.set_cons_succ, i64_w, i32_w]
             rfl
            refine one_ (i := 20) (N := some 78) #[true, true, true, true, true, true, true, true, true, true, true, true, true, true, true, true, true, true, true, true, true, true, false, false, false, false, false, false, false, false, false] rfl rfl (one_of HT_.out (by kernel_rfl)) (by decide) (fun K hK => ?_)
            refine goes_ Try.func21 (by kernel_rfl) rfl #[.agg #[.int .i64 t390, .int .i64 t391, .int .i64 t392]] (by rfl) rfl rfl mp_ ?_
            with_reducible refine (impl_CountStraight.calls k2 t390 t391 t392 t420 _ A56.out).mono ?_
            rintro e w66 ⟨rfl, hb⟩
            refine ⟨_, rfl, ?_⟩
            have n0_ := Aside0.mk (Kd.R_below (kr_ HO_8.out) hb)
            have n1_ := Aside0.mk (blk_below (g := gb393) (o := .cells #[.int .i64 t390, .int .i64 t391, .int .i64 t392] 29 (0, 0)) (kb_ BK393.out) hb)
            have n2_ := Aside0.mk (blk_below (g := gb403) (o := .cells #[.int .i64 t400, .int .i64 t401, .int .i64 t402] 29 (0, 0)) (kb_ BK403.out) hb)
            have n3_ := Aside0.mk (below_step hb_ hb)
            clear HO_8
            clear BK393
            clear BK403
            clear HB
            have HO_8 := n0_
            have BK393 := n1_
            have BK403 := n2_
            have HB := n3_
            clear n0_ n1_ n2_ n3_
            (try clear hb)
            (try clear hb2)
            (try clear hk)
            (try clear hi)
            refine hK.out _ _ ⟨(blk_cell BK403.out 0).trans rfl, (blk_cell BK403.out 1).trans rfl, (blk_cell BK403.out 2).trans rfl, (blk_cell BK393.out 0).trans rfl, (blk_cell BK393.out 1).trans rfl, (blk_cell BK393.out 2).trans rfl⟩ (fun hHeld => ?_)
            clear hK K
            refine norm_ (a' := ?_) ?_ ?_
            rotate_left
            ·show Act.put _ (some 78) _ = _
             simp only [Act.put, List.setIfInBounds_toArray, List.set_cons_zero, List.set_cons_succ, i64_w, i32_w]
             rfl
            refine pure_ (i := 22) (N := some 80) (v := ?_) (a' := ?_) #[true, true, true, true, true, true, true, true, true, true, true, true, true, true, true, true, true, true, true, true, true, true, true, false, false, false, false, false, false, false, false] rfl rfl (any_of HT_.out (by kernel_rfl)) (fun _ _ _ h => h) (Or.inl ⟨by rfl, ?_⟩) ?_ ?_
            rotate_left
            ·intro w'
             go_simp
             with_reducible rfl
            rotate_left
            ·simp only [Act.put, List.setIfInBounds_toArray, List.set_cons_zero, List.set_cons_succ, i64_w, i32_w]
             rfl
            refine pure_ (i := 23) (N := some 81) (v := ?_) (a' := ?_) #[true, true, true, true, true, true, true, true, true, true, true, true, true, true, true, true, true, true, true, true, true, true, true, true, false, false, false, false, false, false, false] rfl rfl (any_of HT_.out (by kernel_rfl)) (fun _ _ _ h => h) (Or.inl ⟨by rfl, ?_⟩) ?_ ?_
            rotate_left
            ·intro w'
             go_simp
             with_reducible rfl
            rotate_left
            ·simp only [Act.put, List.setIfInBounds_toArray, List.set_cons_zero, List.set_cons_succ, i64_w, i32_w]
             rfl
            refine pure_ (i := 24) (N := some 82) (v := ?_) (a' := ?_) #[true, true, true, true, true, true, true, true, true, true, true, true, true, true, true, true, true, true, true, true, true, true, true, true, true, false, false, false, false, false, false] rfl rfl (any_of HT_.out (by kernel_rfl)) (fun _ _ _ h => h) (Or.inl ⟨by rfl, ?_⟩) ?_ ?_
            rotate_left
            ·intro w'
             go_simp
             with_reducible rfl
            rotate_left
            ·simp only [Act.put, List.setIfInBounds_toArray, List.set_cons_zero, List.set_cons_succ, i64_w, i32_w]
             rfl
            refine take_ (i := 25) (N := some 83) (v := ?_) (a' := ?_) #[true, true, true, true, true, true, true, true, true, true, true, true, true, true, true, true, true, true, true, true, true, true, true, true, true, true, false, false, false, false, false] rfl rfl (take_ofW HT_.out HW_.out (by kernel_rfl)) (fun _ _ _ h => h) (Or.inl ⟨by rfl, ?_⟩) hHeld ?_ ?_
            rotate_left
            ·rintro w' ⟨s0, s1, s2, s3, s4, s5⟩
             go_simp
             with_reducible rfl
            rotate_left
            ·simp only [Act.put, List.setIfInBounds_toArray, List.set_cons_zero, List.set_cons_succ, i64_w, i32_w]
             rfl
            refine one_ (i := 26) (N := some 84) #[true, true, true, true, true, true, true, true, true, true, true, true, true, true, true, true, true, true, true, true, true, true, true, true, true, true, true, false, false, false, false] rfl rfl (one_of HT_.out (by kernel_rfl)) (by decide) (fun K hK => ?_)
            refine goes_ Try.func8 (by kernel_rfl) rfl #[.agg #[.int .i64 t390, .int .i64 t391, .int .i64 t392], .slice none 0 0] (by rfl) rfl rfl mp_ ?_
            refine (impl_FillDeadEnds.calls k2 t390 t391 t392 _ _ ([] : List Int) t421 t422 t423 _ ?side1 ?side2 A58.out).mono ?_
            (case side1 => exact Kd.C_nil _ _)
            (case side2 => exact Nat.le_refl _)
            rintro e w67 ⟨rfl, hb⟩
            refine ⟨_, rfl, ?_⟩
            have n0_ := Aside0.mk (Kd.R_below (kr_ HO_8.out) hb)
            have n1_ := Aside0.mk (blk_below (g := gb393) (o := .cells #[.int .i64 t390, .int .i64 t391, .int .i64 t392] 29 (0, 0)) (kb_ BK393.out) hb)
            have n2_ := Aside0.mk (blk_below (g := gb403) (o := .cells #[.int .i64 t400, .int .i64 t401, .int .i64 t402] 29 (0, 0)) (kb_ BK403.out) hb)
            have n3_ := Aside0.mk (below_step hb_ hb)
            clear HO_8
            clear BK393
            clear BK403
            clear HB
            have HO_8 := n0_
            have BK393 := n1_
            have BK403 := n2_
            have HB := n3_
            clear n0_ n1_ n2_ n3_
            (try clear hb)
            (try clear hb2)
            (try clear hk)
            (try clear hi)
            refine hK.out _ _ ⟨(blk_cell BK403.out 0).trans rfl, (blk_cell BK403.out 1).trans rfl, (blk_cell BK403.out 2).trans rfl, (blk_cell BK393.out 0).trans rfl, (blk_cell BK393.out 1).trans rfl, (blk_cell BK393.out 2).trans rfl⟩ (fun hHeld => ?_)
            clear hK K
            refine norm_ (a' := ?_) ?_ ?_
            rotate_left
            ·show Act.put _ (some 84) _ = _
             simp only [Act.put, List.setIfInBounds_toArray, List.set_cons_zero, List.set_cons_succ, i64_w, i32_w]
             rfl
            refine one_ (i := 27) (N := some 85) #[true, true, true, true, true, true, true, true, true, true, true, true, true, true, true, true, true, true, true, true, true, true, true, true, true, true, true, true, false, false, false] rfl rfl (one_of HT_.out (by kernel_rfl)) (by decide) (fun K hK => ?_)
            refine goes_ Try.func19 (by kernel_rfl) rfl #[.agg #[.int .i64 t421, .int .i64 t422, .int .i64 t423]] (by rfl) rfl rfl mp_ ?_
            with_reducible refine (impl_CountPassages.calls t421 t422 t423 t424 _ A59.out).mono ?_
            rintro e w68 ⟨rfl, hb⟩
            refine ⟨_, rfl, ?_⟩
            have n0_ := Aside0.mk (Kd.R_below (kr_ HO_8.out) hb)
            have n1_ := Aside0.mk (blk_below (g := gb393) (o := .cells #[.int .i64 t390, .int .i64 t391, .int .i64 t392] 29 (0, 0)) (kb_ BK393.out) hb)
            have n2_ := Aside0.mk (blk_below (g := gb403) (o := .cells #[.int .i64 t400, .int .i64 t401, .int .i64 t402] 29 (0, 0)) (kb_ BK403.out) hb)
            have n3_ := Aside0.mk (below_step hb_ hb)
            clear HO_8
            clear BK393
            clear BK403
            clear HB
            have HO_8 := n0_
            have BK393 := n1_
            have BK403 := n2_
            have HB := n3_
            clear n0_ n1_ n2_ n3_
            (try clear hb)
            (try clear hb2)
            (try clear hk)
            (try clear hi)
            refine hK.out _ _ ⟨(blk_cell BK403.out 0).trans rfl, (blk_cell BK403.out 1).trans rfl, (blk_cell BK403.out 2).trans rfl, (blk_cell BK393.out 0).trans rfl, (blk_cell BK393.out 1).trans rfl, (blk_cell BK393.out 2).trans rfl⟩ (fun hHeld => ?_)
            clear hK K
            refine norm_ (a' := ?_) ?_ ?_
            rotate_left
            ·show Act.put _ (some 85) _ = _
             simp only [Act.put, List.setIfInBounds_toArray, List.set_cons_zero, List.set_cons_succ, i64_w, i32_w]
             rfl
            refine pure_ (i := 28) (N := some 86) (v := ?_) (a' := ?_) #[true, true, true, true, true, true, true, true, true, true, true, true, true, true, true, true, true, true, true, true, true, true, true, true, true, true, true, true, true, false, false] rfl rfl (any_of HT_.out (by kernel_rfl)) (fun _ _ _ h => h) (Or.inl ⟨by rfl, ?_⟩) ?_ ?_
            rotate_left
            ·intro w'
             go_simp
             with_reducible rfl
            rotate_left
            ·simp only [Act.put, List.setIfInBounds_toArray, List.set_cons_zero, List.set_cons_succ, i64_w, i32_w]
             rfl
            refine pure_ (i := 29) (N := some 87) (v := ?_) (a' := ?_) #[true, true, true, true, true, true, true, true, true, true, true, true, true, true, true, true, true, true, true, true, true, true, true, true, true, true, true, true, true, true, false] rfl rfl (any_of HT_.out (by kernel_rfl)) (fun _ _ _ h => h) (Or.inl ⟨by rfl, ?_⟩) ?_ ?_
            rotate_left
            ·intro w'
             go_simp
             with_reducible rfl
            rotate_left
            ·simp only [Act.put, List.setIfInBounds_toArray, List.set_cons_zero, List.set_cons_succ, i64_w, i32_w]
             rfl
            refine pure_ (i := 30) (N := some 2) (v := ?_) (a' := ?_) #[true, true, true, true, true, true, true, true, true, true, true, true, true, true, true, true, true, true, true, true, true, true, true, true, true, true, true, true, true, true, true] rfl rfl (any_of HT_.out (by kernel_rfl)) (fun _ _ _ h => h) (Or.inl ⟨by rfl, ?_⟩) ?_ ?_
            rotate_left
            ·intro w'
             go_simp
             with_reducible rfl
            rotate_left
            ·simp only [Act.put, List.setIfInBounds_toArray, List.set_cons_zero, List.set_cons_succ, i64_w, i32_w]
             rfl
            refine done_ (done_of HT_.out (by kernel_rfl)) ?_
            try go_wp2
            go_ret
            exact ⟨by first | rfl | (simp [errW_none, errW_some] <;> rfl) | (simp only [EA54.out]; first | rfl | (simp [errW_none, errW_some] <;> rfl)) | (simp [*, errW_none, errW_some] <;> rfl), hb_⟩
           ·rw [if_neg c57] at H
            have c57b0 : decide (t420 ≤ t394) = false := decide_eq_false c57
            clear c57
            exact absurd ((Option.some.inj H).trans HT_.out) (by decide)
          ·rw [if_neg c55] at H
           have c55b0 : (t418 == t419) = false := beq_eq_false_iff_ne.mpr c55
           have c55b1 : (t418 != t419) = true := bne_iff_ne.mpr c55
           exact absurd ((Option.some.inj H).trans HT_.out) (by decide)
         ·rw [if_neg c52] at H
          have c52b0 : (t416 == t417) = false := beq_eq_false_iff_ne.mpr c52
          have c52b1 : (t416 != t417) = true := bne_iff_ne.mpr c52
          exact absurd ((Option.some.inj H).trans HT_.out) (by decide)

/-- THE ONE PURE STATEMENT of laws_FnDeadEnds: yours. -/
def laws_FnDeadEnds.Pure : Prop := ∀ (l0 : List Int), l0.length ≤ maxLen → l0.length * 1 ≤ 140737488351232 → (∀ x ∈ l0, (Lit.int .u8 x).wf = true) → ∃ k, laws_FnDeadEnds.f k l0 = some true
theorem laws_FnDeadEnds.walk (P : laws_FnDeadEnds.Pure) (a0 : Option Addr) (len0 cap0 : Nat) (z0 : List Int) (w : World) (w0 : (a0 = none ∧ len0 = 0 ∧ cap0 = 0 ∧ z0 = []) ∨ ∃ x, a0 = some x ∧ len0 ≤ cap0 ∧ cap0 ≤ maxLen ∧ z0.length = cap0 ∧ (∀ i, i < z0.length → w.cell? (x.add i) = some (.int .u8 (z0.getD i 0))) ∧ ∀ n ∈ z0, (Lit.int .u8 n).wf = true) (y0 : len0 * 1 ≤ 140737488351232) :
  Calls Try.prog 4 #[.slice a0 len0 cap0] w fun e w' => e = .returned (.bool true) ∧ Below w.heap.size w w' := by
 obtain ⟨l0, rfl, hr0, hm0, hw0, hc0⟩ := ReadsInt.ofRowC w0
 obtain ⟨k, h⟩ := P l0 hm0 y0 hw0
 refine (laws_FnDeadEnds.calls k _ _ l0 true w (Kd.C_of_reads (d := (0 : Int)) (h1 := fun _ => rfl) hr0) hc0 ⟨rfl⟩ h).mono ?_
 rintro e w' ⟨rfl, hd⟩
 exact ⟨rfl, hd⟩

end Go.Proofs.Ytkldibidhjonnaa.Q
