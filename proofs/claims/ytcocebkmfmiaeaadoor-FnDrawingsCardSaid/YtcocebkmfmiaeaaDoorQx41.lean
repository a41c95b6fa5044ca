/- Plain Lean functions of Go functions, and for each the proof that its call comes to just that answer. Conditions: in each theorem's statement. -/
import Derived.Test.YtcocebkmfmiaeaaDoorQx0
import Derived.Test.YtcocebkmfmiaeaaDoorQx1
import Derived.Test.YtcocebkmfmiaeaaDoorQx10
import Derived.Test.YtcocebkmfmiaeaaDoorQx18
import Derived.Test.YtcocebkmfmiaeaaDoorQx19
import Derived.Test.YtcocebkmfmiaeaaDoorQx31
import Derived.Test.YtcocebkmfmiaeaaDoorQx34
import Derived.Test.YtcocebkmfmiaeaaDoorQx36
import Derived.Test.YtcocebkmfmiaeaaDoorQx39
import Derived.Test.YtcocebkmfmiaeaaDoorQx40
namespace Go.Proofs.YtcocebkmfmiaeaaDoor.Q
open Go.RowKit Go.Proofs.YtcocebkmfmiaeaaDoorW.PrintWords Go.Proofs.YtcocebkmfmiaeaaDoorW.PrintLast
attribute [local go_sem] max2_int min2_int max_two min_two   -- for this text's walks alone
set_option linter.unusedVariables false
set_option linter.unusedSimpArgs false

attribute [local go_sem high] eqA34
/-! ### laws_FnDrawings: function 10 -/
mutual
def laws_FnDrawings.l0 : Nat → List ByteArray → Bool → Bool → Int → Int → Int → Int → Int → Int → Int → Int → Int → Int → Int → Option (Bool)
 | 0, _, _, _, _, _, _, _, _, _, _, _, _, _, _ => none
 | k + 1, x4, x6, x8, x9, x10, x554000, x554001, x554002, x562000, x562001, x562002, x568000, x568001, x568002 => if x10 < (x4.length : Int) then (laws_FnDrawings.l1 k x4 x6 x8 x9 x10 0 x554000 x554001 x554002 x562000 x562001 x562002 x568000 x568001 x568002) else (if x6 = true then (if x8 = true then (if ((x562000 == x554000 && (x562001 == x554001)) && (x562002 == x554002)) = true then (if ((x568000 == x554000 && (x568001 == x554001)) && (x568002 == x554002)) = true then ((spec_CountCells.f x554000 x554001).bind fun t568 => ((impl_CountPassages.f x554000 x554001 x554002).bind fun t569 => (if x9 = (wrap64 (t568 + t569)) then (some ((x4.length : Int) == (wrap64 ((wrap64 (2 * x554001)) + 1)))) else (some false)))) else (some false)) else (some false)) else (some false)) else (some false))
def laws_FnDrawings.l1 : Nat → List ByteArray → Bool → Bool → Int → Int → Int → Int → Int → Int → Int → Int → Int → Int → Int → Int → Option (Bool)
 | 0, _, _, _, _, _, _, _, _, _, _, _, _, _, _, _ => none
 | k + 1, x4, x6, x8, x9, x10, x11, x554000, x554001, x554002, x562000, x562001, x562002, x568000, x568001, x568002 => if 0 ≤ x10 then (if x10 < (x4.length : Int) then (if x11 < ((rdOf ByteArray.empty x4 x10).size : Int) then (if 0 ≤ x11 then ((laws_btoi.f ((bt (rdOf ByteArray.empty x4 x10) x11) == 32)).bind fun t572 => (laws_FnDrawings.l1 k x4 x6 x8 (wrap64 (x9 + t572)) x10 (wrap64 (x11 + 1)) x554000 x554001 x554002 x562000 x562001 x562002 x568000 x568001 x568002)) else (none)) else (laws_FnDrawings.l0 k x4 x6 x8 x9 (wrap64 (x10 + 1)) x554000 x554001 x554002 x562000 x562001 x562002 x568000 x568001 x568002)) else (none)) else (none)
end
def laws_FnDrawings.f (k : Nat) (l0 : List Int) : Option (Bool) := (laws_big.f l0).bind fun t549 => (if t549 = true then (some true) else ((spec_DrawMaze.f k l0).bind fun bt550 => ((impl_MazeLines.f k bt550.1 bt550.2.1 bt550.2.2).bind fun t554 => ((impl_ReadMaze.f k t554).bind fun bt557 => ((impl_MazeText.f bt550.1 bt550.2.1 bt550.2.2).bind fun t562 => ((impl_ParseMaze.f k t562).bind fun bt563 => (laws_FnDrawings.l0 k t554 bt557.2.2.2 bt563.2.2.2 0 0 bt550.1 bt550.2.1 bt550.2.2 bt557.1 bt557.2.1 bt557.2.2.1 bt563.1 bt563.2.1 bt563.2.2.1)))))))
theorem laws_FnDrawings.mono_l : ∀ k, (∀ y0 y1 y2 y3 y4 y5 y6 y7 y8 y9 y10 y11 y12 y13, LeO (laws_FnDrawings.l0 k y0 y1 y2 y3 y4 y5 y6 y7 y8 y9 y10 y11 y12 y13) (laws_FnDrawings.l0 (k + 1) y0 y1 y2 y3 y4 y5 y6 y7 y8 y9 y10 y11 y12 y13)) ∧ (∀ y0 y1 y2 y3 y4 y5 y6 y7 y8 y9 y10 y11 y12 y13 y14, LeO (laws_FnDrawings.l1 k y0 y1 y2 y3 y4 y5 y6 y7 y8 y9 y10 y11 y12 y13 y14) (laws_FnDrawings.l1 (k + 1) y0 y1 y2 y3 y4 y5 y6 y7 y8 y9 y10 y11 y12 y13 y14))
 | 0 => ⟨fun _ _ _ _ _ _ _ _ _ _ _ _ _ _ r h => by simp [laws_FnDrawings.l0] at h, fun _ _ _ _ _ _ _ _ _ _ _ _ _ _ _ r h => by simp [laws_FnDrawings.l1] at h⟩
 | k + 1 => by
  obtain ⟨ih0, ih1⟩ := laws_FnDrawings.mono_l k
  refine ⟨?_, ?_⟩
  ·intro y0 y1 y2 y3 y4 y5 y6 y7 y8 y9 y10 y11 y12 y13
   unfold laws_FnDrawings.l0
   repeat' first
   | (with_reducible exact ih0 _ _ _ _ _ _ _ _ _ _ _ _ _ _)
   | (with_reducible exact ih1 _ _ _ _ _ _ _ _ _ _ _ _ _ _ _)
   | (with_reducible exact impl_MazeLines.mono _ _ _ _)
   | (with_reducible exact impl_ParseMaze.mono _ _)
   | (with_reducible exact impl_ReadMaze.mono _ _)
   | (with_reducible exact spec_DrawMaze.mono _ _)
   | (with_reducible exact LeO.refl _)
   | (with_reducible exact LeO.none _)
   | (with_reducible refine LeO.ite ?_ ?_)
   | (with_reducible refine LeO.bind ?_ (fun _ => ?_))
   | exact ih0 _ _ _ _ _ _ _ _ _ _ _ _ _ _
   | exact ih1 _ _ _ _ _ _ _ _ _ _ _ _ _ _ _
   | exact impl_MazeLines.mono _ _ _ _
   | exact impl_ParseMaze.mono _ _
   | exact impl_ReadMaze.mono _ _
   | exact spec_DrawMaze.mono _ _
   | exact LeO.none _
   | refine LeO.ite ?_ ?_
   | refine LeO.bind ?_ (fun _ => ?_)
  ·intro y0 y1 y2 y3 y4 y5 y6 y7 y8 y9 y10 y11 y12 y13 y14
   unfold laws_FnDrawings.l1
   repeat' first
   | (with_reducible exact ih0 _ _ _ _ _ _ _ _ _ _ _ _ _ _)
   | (with_reducible exact ih1 _ _ _ _ _ _ _ _ _ _ _ _ _ _ _)
   | (with_reducible exact impl_MazeLines.mono _ _ _ _)
   | (with_reducible exact impl_ParseMaze.mono _ _)
   | (with_reducible exact impl_ReadMaze.mono _ _)
   | (with_reducible exact spec_DrawMaze.mono _ _)
   | (with_reducible exact LeO.refl _)
   | (with_reducible exact LeO.none _)
   | (with_reducible refine LeO.ite ?_ ?_)
   | (with_reducible refine LeO.bind ?_ (fun _ => ?_))
   | exact ih0 _ _ _ _ _ _ _ _ _ _ _ _ _ _
   | exact ih1 _ _ _ _ _ _ _ _ _ _ _ _ _ _ _
   | exact impl_MazeLines.mono _ _ _ _
   | exact impl_ParseMaze.mono _ _
   | exact impl_ReadMaze.mono _ _
   | exact spec_DrawMaze.mono _ _
   | exact LeO.none _
   | refine LeO.ite ?_ ?_
   | refine LeO.bind ?_ (fun _ => ?_)
theorem laws_FnDrawings.mono : ∀ a0 k, LeO (laws_FnDrawings.f k a0) (laws_FnDrawings.f (k + 1) a0) := by
 intro a0 k
 obtain ⟨ih0, ih1⟩ := laws_FnDrawings.mono_l k
 unfold laws_FnDrawings.f
 repeat' first
   | (with_reducible exact ih0 _ _ _ _ _ _ _ _ _ _ _ _ _ _)
   | (with_reducible exact ih1 _ _ _ _ _ _ _ _ _ _ _ _ _ _ _)
   | (with_reducible exact impl_MazeLines.mono _ _ _ _)
   | (with_reducible exact impl_ParseMaze.mono _ _)
   | (with_reducible exact impl_ReadMaze.mono _ _)
   | (with_reducible exact spec_DrawMaze.mono _ _)
   | (with_reducible exact LeO.refl _)
   | (with_reducible exact LeO.none _)
   | (with_reducible refine LeO.ite ?_ ?_)
   | (with_reducible refine LeO.bind ?_ (fun _ => ?_))
   | exact ih0 _ _ _ _ _ _ _ _ _ _ _ _ _ _
   | exact ih1 _ _ _ _ _ _ _ _ _ _ _ _ _ _ _
   | exact impl_MazeLines.mono _ _ _ _
   | exact impl_ParseMaze.mono _ _
   | exact impl_ReadMaze.mono _ _
   | exact spec_DrawMaze.mono _ _
   | exact LeO.none _
   | refine LeO.ite ?_ ?_
   | refine LeO.bind ?_ (fun _ => ?_)
def laws_FnDrawings.T15 : Bool × List (List Nat × List Nat) := (true, [([], []), ([0], [0]), ([1], [1]), ([1, 2], [1, 2]), ([3, 1], [3]), ([4], [4]), ([4], [4]), ([5, 6, 4], [4, 5, 6]), ([4, 7], [4, 7]), ([8, 4], [8]), ([9], [9]), ([9], [9]), ([10, 11, 9], [9, 10, 11]), ([9, 12], [9, 12]), ([13, 9], [13]), ([14], [14]), ([14], [14]), ([16, 14], [14, 16]), ([17, 14, 14], [14, 17]), ([14], [14]), ([19, 18, 14], [14, 19]), ([18, 20, 14], [14, 18, 20]), ([15, 21, 14], [14, 15, 21]), ([14, 22], [14, 22]), ([23, 20], [23]), ([24], [24]), ([25, 24], [24, 25]), ([24], [24]), ([27, 24], [24, 27]), ([28, 24], [24, 28]), ([29, 24], [24, 29]), ([30, 24], [24, 30]), ([26, 31, 24], [24, 26, 31]), ([24, 32], [24, 32]), ([33, 24, 0, 1, 2, 3, 4, 5, 6, 7, 8, 9, 10, 11, 12, 13, 14, 15, 16, 17, 18, 19, 20, 21, 22, 23, 24, 25, 26, 27, 28, 29, 30, 31, 32, 33], [33])])
def laws_FnDrawings.B15 : List Nat := [0, 1, 3, 7, 15, 31, 31, 127, 255, 511, 1023, 1023, 4095, 8191, 16383, 32767, 32767, 98303, 229375, 32767, 1015807, 2064383, 4194303, 8388607, 16777215, 33554431, 67108863, 33554431, 167772159, 436207615, 973078527, 2046820351, 4294967295, 8589934591, 17179869183]
theorem laws_FnDrawings.tab15 : rtab .any (opsOf Tryd.f10 15) = laws_FnDrawings.T15 := by kernel_rfl
theorem laws_FnDrawings.bits15 : waitsOk laws_FnDrawings.T15.2 laws_FnDrawings.B15 = true := by kernel_rfl
set_option maxHeartbeats 8000000 in
set_option maxRecDepth 100000 in
theorem laws_FnDrawings.calls (k : Nat) (A0 : Option Addr) (c0 : Nat) (l0 : List Int) (r : Bool) (w : World) (HTT : Tabs true w) (hr0 : Kd.C (Kd.int .u8) w A0 l0.length l0) (hc0 : l0.length ≤ c0) (HT_ : Aside0 (r = true)) (h : laws_FnDrawings.f k l0 = some r) :
  Calls Tryd.prog 10 #[.slice A0 l0.length c0] w fun e w' => e = .returned (.bool r) ∧ Below w.heap.size w w' := by
 have HT := Aside0.mk HTT
 clear HTT
 have hu34 := Tryd.underlying34
 have hu32 := Tryd.underlying32
 have HR0 := Aside0.mk hr0
 have HC0 := Aside0.mk hc0
 clear hr0 hc0
 have HB := Aside0.mk (Below.refl w.heap.size w)
 have H : ((laws_big.f l0).bind fun t549 => (if t549 = true then (some true) else ((spec_DrawMaze.f k l0).bind fun bt550 => ((impl_MazeLines.f k bt550.1 bt550.2.1 bt550.2.2).bind fun t554 => ((impl_ReadMaze.f k t554).bind fun bt557 => ((impl_MazeText.f bt550.1 bt550.2.1 bt550.2.2).bind fun t562 => ((impl_ParseMaze.f k t562).bind fun bt563 => (laws_FnDrawings.l0 k t554 bt557.2.2.2 bt563.2.2.2 0 0 bt550.1 bt550.2.1 bt550.2.2 bt557.1 bt557.2.1 bt557.2.2.1 bt563.1 bt563.2.1 bt563.2.2.1)))))))) = some r := h
 clear h
 replace H := Option.bind_eq_some_iff.mp H
 obtain ⟨t549, A20, H⟩ := H
 replace H : (if t549 = true then (some true) else ((spec_DrawMaze.f k l0).bind fun bt550 => ((impl_MazeLines.f k bt550.1 bt550.2.1 bt550.2.2).bind fun t554 => ((impl_ReadMaze.f k t554).bind fun bt557 => ((impl_MazeText.f bt550.1 bt550.2.1 bt550.2.2).bind fun t562 => ((impl_ParseMaze.f k t562).bind fun bt563 => (laws_FnDrawings.l0 k t554 bt557.2.2.2 bt563.2.2.2 0 0 bt550.1 bt550.2.1 bt550.2.2 bt557.1 bt557.2.1 bt557.2.2.1 bt563.1 bt563.2.1 bt563.2.2.1))))))) = some r := H
 have A2 := Aside0.mk A20
 clear A20
 by_cases c3 : t549 = true
 ·subst c3
  have H1 : (some true) = some r := by rw [if_pos rfl] at H; exact H
  clear H
  have H := H1
  clear H1
  obtain rfl := Option.some.inj H
  go_enter Tryd.func10, Tryd.ntmps10
  go_wp2_with (first | ((with_reducible refine gate_callee (f := 21) rfl ?_); refine goesL_ (some 13) rfl rfl Tryd.func21 (by kernel_rfl) rfl #[.slice A0 l0.length c0] rfl mp_ ?_; (with_reducible refine (laws_big.calls _ _ l0 true _ ?side1 ?side2 A2.out).mono ?_); (case side1 => repeat (first | exact HR0.out | (with_reducible refine Kd.C_alloc ?_ _) | (with_reducible refine Kd.C_drewN ?_ _) | (with_reducible refine Kd.C_drew ?_))); (case side2 => exact HC0.out); rintro e w' ⟨rfl, ⟨nd, rfl⟩⟩; refine ⟨_, rfl, ?_⟩))
  go_ret
  exact ⟨er_, hb_⟩
 ·replace c3 := Bool.eq_false_iff.mpr c3
  subst c3
  have H1 : ((spec_DrawMaze.f k l0).bind fun bt550 => ((impl_MazeLines.f k bt550.1 bt550.2.1 bt550.2.2).bind fun t554 => ((impl_ReadMaze.f k t554).bind fun bt557 => ((impl_MazeText.f bt550.1 bt550.2.1 bt550.2.2).bind fun t562 => ((impl_ParseMaze.f k t562).bind fun bt563 => (laws_FnDrawings.l0 k t554 bt557.2.2.2 bt563.2.2.2 0 0 bt550.1 bt550.2.1 bt550.2.2 bt557.1 bt557.2.1 bt557.2.2.1 bt563.1 bt563.2.1 bt563.2.2.1)))))) = some r := by rw [if_neg (show ¬ (false = true) by decide)] at H; exact H
  clear H
  have H := H1
  clear H1
  replace H := Option.bind_eq_some_iff.mp H
  obtain ⟨⟨t550, t551, t552⟩, A40, H⟩ := H
  replace H : ((impl_MazeLines.f k t550 t551 t552).bind fun t554 => ((impl_ReadMaze.f k t554).bind fun bt557 => ((impl_MazeText.f t550 t551 t552).bind fun t562 => ((impl_ParseMaze.f k t562).bind fun bt563 => (laws_FnDrawings.l0 k t554 bt557.2.2.2 bt563.2.2.2 0 0 t550 t551 t552 bt557.1 bt557.2.1 bt557.2.2.1 bt563.1 bt563.2.1 bt563.2.2.1))))) = some r := H
  have A4 := Aside0.mk A40
  clear A40
  replace H := Option.bind_eq_some_iff.mp H
  obtain ⟨t554, A50, H⟩ := H
  replace H : ((impl_ReadMaze.f k t554).bind fun bt557 => ((impl_MazeText.f t550 t551 t552).bind fun t562 => ((impl_ParseMaze.f k t562).bind fun bt563 => (laws_FnDrawings.l0 k t554 bt557.2.2.2 bt563.2.2.2 0 0 t550 t551 t552 bt557.1 bt557.2.1 bt557.2.2.1 bt563.1 bt563.2.1 bt563.2.2.1)))) = some r := H
  have A5 := Aside0.mk A50
  clear A50
  replace H := Option.bind_eq_some_iff.mp H
  obtain ⟨⟨t557, t558, t559, t560⟩, A60, H⟩ := H
  replace H : ((impl_MazeText.f t550 t551 t552).bind fun t562 => ((impl_ParseMaze.f k t562).bind fun bt563 => (laws_FnDrawings.l0 k t554 t560 bt563.2.2.2 0 0 t550 t551 t552 t557 t558 t559 bt563.1 bt563.2.1 bt563.2.2.1))) = some r := H
  have A6 := Aside0.mk A60
  clear A60
  replace H := Option.bind_eq_some_iff.mp H
  obtain ⟨t562, A70, H⟩ := H
  replace H : ((impl_ParseMaze.f k t562).bind fun bt563 => (laws_FnDrawings.l0 k t554 t560 bt563.2.2.2 0 0 t550 t551 t552 t557 t558 t559 bt563.1 bt563.2.1 bt563.2.2.1)) = some r := H
  have A7 := Aside0.mk A70
  clear A70
  replace H := Option.bind_eq_some_iff.mp H
  obtain ⟨⟨t563, t564, t565, t566⟩, A80, H⟩ := H
  replace H : (laws_FnDrawings.l0 k t554 t560 t566 0 0 t550 t551 t552 t557 t558 t559 t563 t564 t565) = some r := H
  have A8 := Aside0.mk A80
  clear A80
  have H' := Aside0.mk H
  clear H
  go_enter Tryd.func10, Tryd.ntmps10
  go_wp2_with (first | ((with_reducible refine gate_callee (f := 21) rfl ?_); refine goesL_ (some 13) rfl rfl Tryd.func21 (by kernel_rfl) rfl #[.slice A0 l0.length c0] rfl mp_ ?_; (with_reducible refine (laws_big.calls _ _ l0 false _ ?side1 ?side2 A2.out).mono ?_); (case side1 => repeat (first | exact HR0.out | (with_reducible refine Kd.C_alloc ?_ _) | (with_reducible refine Kd.C_drewN ?_ _) | (with_reducible refine Kd.C_drew ?_))); (case side2 => exact HC0.out); rintro e w' ⟨rfl, ⟨nd, rfl⟩⟩; refine ⟨_, rfl, ?_⟩) | ((with_reducible refine gate_callee (f := 30) rfl ?_); refine goesL_ (some 15) rfl rfl Tryd.func30 (by kernel_rfl) rfl #[.slice A0 l0.length c0] rfl mp_ ?_; (with_reducible refine (spec_DrawMaze.calls k _ _ l0 t550 t551 t552 _ ?side1 ?side2 A4.out).mono ?_); (case side1 => repeat (first | exact HR0.out | (with_reducible refine Kd.C_alloc ?_ _) | (with_reducible refine Kd.C_drewN ?_ _) | (with_reducible refine Kd.C_drew ?_))); (case side2 => exact HC0.out); rintro e w9 ⟨rfl, hb⟩; refine ⟨_, rfl, ?_⟩; have n0_ := Aside0.mk (below_step hb_ hb); clear HB; have HB := n0_; clear n0_; (try clear hb); (try clear hb2); (try clear hk); (try clear hi)) | ((with_reducible refine gate_dst (N := 3) rfl ?_); (try (refine gate_guard (by rfl) ?_; dsimp only)); refine box_event ?hg (N := 3) ?hd (cs := #[.int .i64 0, .int .i64 0, .int .i64 0]) (t := 34) ?hr ?_; (case hd => rfl); (case hg => rfl); (case hr => first | (go_simp; done) | (go_simp; rfl)); intro gb553 hg w10 hbox hb; have n0_ := Aside0.mk (below_step hb_ hb); have n1_ := Aside0.mk (hbox); have n2_ := Aside0.mk ((by rw [hg]; exact (below_size hb_) : w.heap.size ≤ gb553)); have n3_ := Aside0.mk ((by rw [hg]; exact (below_size hb_) : w.heap.size ≤ gb553)); clear HB; have HB := n0_; have BK553 := n1_; have GW553 := n2_; have GE553 := n3_; clear n0_ n1_ n2_ n3_; clear hb hbox hg; have hcz11_0 := cz_ (.int .i64 0) BK553.out 0; have hcz11_1 := cz_ (.int .i64 0) BK553.out 1; have hcz11_2 := cz_ (.int .i64 0) BK553.out 2; have hfz11_0 := blk_frozen BK553.out 0; have hfz11_1 := blk_frozen BK553.out 1; have hfz11_2 := blk_frozen BK553.out 2) | ((with_reducible refine gate_callee (f := 31) rfl ?_); refine goesL_ (some 17) rfl rfl Tryd.func31 (by kernel_rfl) rfl #[.agg #[.int .i64 t550, .int .i64 t551, .int .i64 t552]] rfl mp_ ?_; (with_reducible refine (impl_MazeLines.calls k t550 t551 t552 t554 _ A5.out).mono ?_); rintro e w12 ⟨v555, rfl, ho0, hb⟩; refine ⟨_, rfl, ?_⟩; have n0_ := Aside0.mk (Kd.R_lower ho0 (below_size hb_)); have n1_ := Aside0.mk (blk_below (g := gb553) (o := .cells #[.int .i64 t550, .int .i64 t551, .int .i64 t552] 34 (0, 0)) (by (with_reducible repeat (first | refine blk_drewN ?_ _ | refine blk_drew ?_ | refine blk_alloc ?_ _)); refine blk_put (cs := #[.int .i64 t550, .int .i64 t551, .int .i64 0]) ?_ 2 _ rfl; (with_reducible repeat (first | refine blk_drewN ?_ _ | refine blk_drew ?_ | refine blk_alloc ?_ _)); refine blk_put (cs := #[.int .i64 t550, .int .i64 0, .int .i64 0]) ?_ 1 _ rfl; (with_reducible repeat (first | refine blk_drewN ?_ _ | refine blk_drew ?_ | refine blk_alloc ?_ _)); refine blk_put (cs := #[.int .i64 0, .int .i64 0, .int .i64 0]) ?_ 0 _ rfl; (with_reducible repeat (first | refine blk_drewN ?_ _ | refine blk_drew ?_ | refine blk_alloc ?_ _)); exact BK553.out) hb); have n2_ := Aside0.mk (below_step hb_ hb); clear BK553; clear HB; have HO556 := n0_; have BK553 := n1_; have HB := n2_; clear n0_ n1_ n2_; (try clear hb); (try clear hb2); (try clear hk); (try clear hi); (try clear ho0); obtain ⟨Ao13, co13, eo13⟩ := Kd.R_slice HO556.out; subst eo13) | ((with_reducible refine gate_callee (f := 32) rfl ?_); refine goesL_ (some 20) rfl rfl Tryd.func32 (by kernel_rfl) rfl #[.slice Ao13 t554.length co13] rfl mp_ ?_; (with_reducible refine (impl_ReadMaze.calls k _ _ t554 t557 t558 t559 t560 _ ?side1 ?side2 A6.out).mono ?_); (case side1 => repeat (first | exact (Kd.R_reads' HO556.out).2.2 | (with_reducible refine Kd.C_alloc ?_ _) | (with_reducible refine Kd.C_drewN ?_ _) | (with_reducible refine Kd.C_drew ?_))); (case side2 => exact (Kd.R_reads' HO556.out).2.1); rintro e w14 ⟨rfl, hb⟩; refine ⟨_, rfl, ?_⟩; have n0_ := Aside0.mk (Kd.R_below (kr_ HO556.out) hb); have n1_ := Aside0.mk (blk_below (g := gb553) (o := .cells #[.int .i64 t550, .int .i64 t551, .int .i64 t552] 34 (0, 0)) (kb_ BK553.out) hb); have n2_ := Aside0.mk (below_step hb_ hb); clear HO556; clear BK553; clear HB; have HO556 := n0_; have BK553 := n1_; have HB := n2_; clear n0_ n1_ n2_; (try clear hb); (try clear hb2); (try clear hk); (try clear hi)) | ((with_reducible refine gate_dst (N := 5) rfl ?_); (try (refine gate_guard (by rfl) ?_; dsimp only)); refine box_event ?hg (N := 5) ?hd (cs := #[.int .i64 0, .int .i64 0, .int .i64 0]) (t := 34) ?hr ?_; (case hd => rfl); (case hg => rfl); (case hr => first | (go_simp; done) | (go_simp; rfl)); intro gb561 hg w15 hbox hb; have n0_ := Aside0.mk (Kd.R_below (kr_ HO556.out) hb); have n1_ := Aside0.mk (blk_below (g := gb553) (o := .cells #[.int .i64 t550, .int .i64 t551, .int .i64 t552] 34 (0, 0)) (kb_ BK553.out) hb); have n2_ := Aside0.mk (below_step hb_ hb); have n3_ := Aside0.mk (hbox); have n4_ := Aside0.mk ((by rw [hg]; exact (below_size hb_) : w.heap.size ≤ gb561)); have n5_ := Aside0.mk ((by rw [hg]; exact (below_size hb_) : w.heap.size ≤ gb561)); have n6_ := Aside0.mk ((by rw [hg]; exact Nat.ne_of_lt (blk_lt (g := gb553) (o := .cells #[.int .i64 t550, .int .i64 t551, .int .i64 t552] 34 (0, 0)) (kb_ BK553.out)) : gb553 ≠ gb561)); have n7_ := Aside0.mk ((by rw [hg]; exact Nat.ne_of_gt (blk_lt (g := gb553) (o := .cells #[.int .i64 t550, .int .i64 t551, .int .i64 t552] 34 (0, 0)) (kb_ BK553.out)) : gb561 ≠ gb553)); clear HO556; clear BK553; clear HB; have HO556 := n0_; have BK553 := n1_; have HB := n2_; have BK561 := n3_; have GW561 := n4_; have GE561 := n5_; have NB553_561 := n6_; have NB561_553 := n7_; clear n0_ n1_ n2_ n3_ n4_ n5_ n6_ n7_; clear hb hbox hg; have hnb16 := NB561_553.out; have hnc16 := NB553_561.out; have hcz17_0 := cz_ (.int .i64 0) BK561.out 0; have hcz17_1 := cz_ (.int .i64 0) BK561.out 1; have hcz17_2 := cz_ (.int .i64 0) BK561.out 2; have hfz17_0 := blk_frozen BK561.out 0; have hfz17_1 := blk_frozen BK561.out 1; have hfz17_2 := blk_frozen BK561.out 2; have hcz18_0 := cz_ (.int .i64 t550) BK553.out 0; have hcz18_1 := cz_ (.int .i64 t551) BK553.out 1; have hcz18_2 := cz_ (.int .i64 t552) BK553.out 2; have hfz18_0 := blk_frozen BK553.out 0; have hfz18_1 := blk_frozen BK553.out 1; have hfz18_2 := blk_frozen BK553.out 2) | ((with_reducible refine gate_callee (f := 17) rfl ?_); refine goesL_ (some 25) rfl rfl Tryd.func17 (by kernel_rfl) rfl #[.agg #[.int .i64 t550, .int .i64 t551, .int .i64 t552]] rfl mp_ ?_; (with_reducible refine (impl_MazeText.calls (HTT := tabs_on HT.out hb_) t550 t551 t552 t562 _ A7.out).mono ?_); rintro e w19 ⟨rfl, hb⟩; refine ⟨_, rfl, ?_⟩; have n0_ := Aside0.mk (Kd.R_below (by (with_reducible repeat (first | apply Kd.R_alloc | apply Kd.R_drewN | apply Kd.R_drew)); exact (Kd.R_mono (Kd.R_far (p := ⟨gb561, 2, none⟩) (Kd.R_far (p := ⟨gb561, 1, none⟩) (Kd.R_far (p := ⟨gb561, 0, none⟩) (Kd.R_types HO556.out BK561.out (by decide)) (fun _ hk => hk.2) (.int .i64 t557)) (fun _ hk => hk.2) (.int .i64 t558)) (fun _ hk => hk.2) (.int .i64 t559)) (fun _ h_ => h_.1))) hb); have n1_ := Aside0.mk (blk_below (g := gb553) (o := .cells #[.int .i64 t550, .int .i64 t551, .int .i64 t552] 34 (0, 0)) (by (with_reducible repeat (first | refine blk_drewN ?_ _ | refine blk_drew ?_ | refine blk_alloc ?_ _)); refine blk_far ?_ NB553_561.out _; (with_reducible repeat (first | refine blk_drewN ?_ _ | refine blk_drew ?_ | refine blk_alloc ?_ _)); refine blk_far ?_ NB553_561.out _; (with_reducible repeat (first | refine blk_drewN ?_ _ | refine blk_drew ?_ | refine blk_alloc ?_ _)); refine blk_far ?_ NB553_561.out _; (with_reducible repeat (first | refine blk_drewN ?_ _ | refine blk_drew ?_ | refine blk_alloc ?_ _)); exact BK553.out) hb); have n2_ := Aside0.mk (blk_below (g := gb561) (o := .cells #[.int .i64 t557, .int .i64 t558, .int .i64 t559] 34 (0, 0)) (by (with_reducible repeat (first | refine blk_drewN ?_ _ | refine blk_drew ?_ | refine blk_alloc ?_ _)); refine blk_put (cs := #[.int .i64 t557, .int .i64 t558, .int .i64 0]) ?_ 2 _ rfl; (with_reducible repeat (first | refine blk_drewN ?_ _ | refine blk_drew ?_ | refine blk_alloc ?_ _)); refine blk_put (cs := #[.int .i64 t557, .int .i64 0, .int .i64 0]) ?_ 1 _ rfl; (with_reducible repeat (first | refine blk_drewN ?_ _ | refine blk_drew ?_ | refine blk_alloc ?_ _)); refine blk_put (cs := #[.int .i64 0, .int .i64 0, .int .i64 0]) ?_ 0 _ rfl; (with_reducible repeat (first | refine blk_drewN ?_ _ | refine blk_drew ?_ | refine blk_alloc ?_ _)); exact BK561.out) hb); have n3_ := Aside0.mk (below_step hb_ hb); clear HO556; clear BK553; clear BK561; clear HB; have HO556 := n0_; have BK553 := n1_; have BK561 := n2_; have HB := n3_; clear n0_ n1_ n2_ n3_; (try clear hb); (try clear hb2); (try clear hk); (try clear hi)) | ((with_reducible refine gate_callee (f := 19) rfl ?_); refine goesL_ (some 26) rfl rfl Tryd.func19 (by kernel_rfl) rfl #[.string t562] rfl mp_ ?_; (with_reducible refine (impl_ParseMaze.calls (HTT := tabs_on HT.out hb_) k t562 t563 t564 t565 t566 _ A8.out).mono ?_); rintro e w20 ⟨rfl, hb⟩; refine ⟨_, rfl, ?_⟩; have n0_ := Aside0.mk (Kd.R_below (kr_ HO556.out) hb); have n1_ := Aside0.mk (blk_below (g := gb553) (o := .cells #[.int .i64 t550, .int .i64 t551, .int .i64 t552] 34 (0, 0)) (kb_ BK553.out) hb); have n2_ := Aside0.mk (blk_below (g := gb561) (o := .cells #[.int .i64 t557, .int .i64 t558, .int .i64 t559] 34 (0, 0)) (kb_ BK561.out) hb); have n3_ := Aside0.mk (below_step hb_ hb); clear HO556; clear BK553; clear BK561; clear HB; have HO556 := n0_; have BK553 := n1_; have BK561 := n2_; have HB := n3_; clear n0_ n1_ n2_ n3_; (try clear hb); (try clear hb2); (try clear hk); (try clear hi)) | ((with_reducible refine gate_dst (N := 7) rfl ?_); (try (refine gate_guard (by rfl) ?_; dsimp only)); refine box_event ?hg (N := 7) ?hd (cs := #[.int .i64 0, .int .i64 0, .int .i64 0]) (t := 34) ?hr ?_; (case hd => rfl); (case hg => rfl); (case hr => first | (go_simp; done) | (go_simp; rfl)); intro gb567 hg w21 hbox hb; have n0_ := Aside0.mk (Kd.R_below (kr_ HO556.out) hb); have n1_ := Aside0.mk (blk_below (g := gb553) (o := .cells #[.int .i64 t550, .int .i64 t551, .int .i64 t552] 34 (0, 0)) (kb_ BK553.out) hb); have n2_ := Aside0.mk (blk_below (g := gb561) (o := .cells #[.int .i64 t557, .int .i64 t558, .int .i64 t559] 34 (0, 0)) (kb_ BK561.out) hb); have n3_ := Aside0.mk (below_step hb_ hb); have n4_ := Aside0.mk (hbox); have n5_ := Aside0.mk ((by rw [hg]; exact (below_size hb_) : w.heap.size ≤ gb567)); have n6_ := Aside0.mk ((by rw [hg]; exact (below_size hb_) : w.heap.size ≤ gb567)); have n7_ := Aside0.mk ((by rw [hg]; exact Nat.ne_of_lt (blk_lt (g := gb553) (o := .cells #[.int .i64 t550, .int .i64 t551, .int .i64 t552] 34 (0, 0)) (kb_ BK553.out)) : gb553 ≠ gb567)); have n8_ := Aside0.mk ((by rw [hg]; exact Nat.ne_of_gt (blk_lt (g := gb553) (o := .cells #[.int .i64 t550, .int .i64 t551, .int .i64 t552] 34 (0, 0)) (kb_ BK553.out)) : gb567 ≠ gb553)); have n9_ := Aside0.mk ((by rw [hg]; exact Nat.ne_of_lt (blk_lt (g := gb561) (o := .cells #[.int .i64 t557, .int .i64 t558, .int .i64 t559] 34 (0, 0)) (kb_ BK561.out)) : gb561 ≠ gb567)); have n10_ := Aside0.mk ((by rw [hg]; exact Nat.ne_of_gt (blk_lt (g := gb561) (o := .cells #[.int .i64 t557, .int .i64 t558, .int .i64 t559] 34 (0, 0)) (kb_ BK561.out)) : gb567 ≠ gb561)); clear HO556; clear BK553; clear BK561; clear HB; have HO556 := n0_; have BK553 := n1_; have BK561 := n2_; have HB := n3_; have BK567 := n4_; have GW567 := n5_; have GE567 := n6_; have NB553_567 := n7_; have NB567_553 := n8_; have NB561_567 := n9_; have NB567_561 := n10_; clear n0_ n1_ n2_ n3_ n4_ n5_ n6_ n7_ n8_ n9_ n10_; clear hb hbox hg; have hnb22 := NB567_553.out; have hnc22 := NB553_567.out; have hnb23 := NB567_561.out; have hnc23 := NB561_567.out; have hcz24_0 := cz_ (.int .i64 0) BK567.out 0; have hcz24_1 := cz_ (.int .i64 0) BK567.out 1; have hcz24_2 := cz_ (.int .i64 0) BK567.out 2; have hfz24_0 := blk_frozen BK567.out 0; have hfz24_1 := blk_frozen BK567.out 1; have hfz24_2 := blk_frozen BK567.out 2))
  go_loopg [9, 10] k (fun kq v9 v10 w' => ∃ (x9_1 : Int) (x10_1 : Int), v9 = .int .i64 x9_1 ∧ v10 = .int .i64 x10_1 ∧ Aside0 (laws_FnDrawings.l0 kq t554 t560 t566 x9_1 x10_1 t550 t551 t552 t557 t558 t559 t563 t564 t565 = some r) ∧ Aside0 (kq ≤ k) ∧ Aside0 (Kd.R Kd.string 9 w' w.heap.size (fun _ => True) (.slice Ao13 t554.length co13) t554) ∧ Aside0 (w'.heap[gb553]? = some (.cells #[.int .i64 t550, .int .i64 t551, .int .i64 t552] 34 (0, 0))) ∧ Aside0 (w'.heap[gb561]? = some (.cells #[.int .i64 t557, .int .i64 t558, .int .i64 t559] 34 (0, 0))) ∧ Aside0 (w'.heap[gb567]? = some (.cells #[.int .i64 t563, .int .i64 t564, .int .i64 t565] 34 (0, 0))) ∧ Aside0 (Below w.heap.size w w'))
  case atStart => exact ⟨(0), (0), (by first | rfl | (simp; done) | (simp [*]; done)), (by first | rfl | (simp; done) | (simp [*]; done)), H', ⟨Nat.le_refl _⟩, ⟨by (with_reducible repeat (first | apply Kd.R_alloc | apply Kd.R_drewN | apply Kd.R_drew)); exact Kd.R_mono (Kd.R_far (p := ⟨gb567, 2, none⟩) (Kd.R_far (p := ⟨gb567, 1, none⟩) (Kd.R_far (p := ⟨gb567, 0, none⟩) (Kd.R_types HO556.out BK567.out (by decide)) (fun _ hk => hk.2) (.int .i64 t563)) (fun _ hk => hk.2) (.int .i64 t564)) (fun _ hk => hk.2) (.int .i64 t565)) (fun _ hk => trivial)⟩, ⟨by (with_reducible repeat (first | refine blk_drewN ?_ _ | refine blk_drew ?_ | refine blk_alloc ?_ _)); refine blk_far ?_ NB553_567.out _; (with_reducible repeat (first | refine blk_drewN ?_ _ | refine blk_drew ?_ | refine blk_alloc ?_ _)); refine blk_far ?_ NB553_567.out _; (with_reducible repeat (first | refine blk_drewN ?_ _ | refine blk_drew ?_ | refine blk_alloc ?_ _)); refine blk_far ?_ NB553_567.out _; (with_reducible repeat (first | refine blk_drewN ?_ _ | refine blk_drew ?_ | refine blk_alloc ?_ _)); exact BK553.out⟩, ⟨by (with_reducible repeat (first | refine blk_drewN ?_ _ | refine blk_drew ?_ | refine blk_alloc ?_ _)); refine blk_far ?_ NB561_567.out _; (with_reducible repeat (first | refine blk_drewN ?_ _ | refine blk_drew ?_ | refine blk_alloc ?_ _)); refine blk_far ?_ NB561_567.out _; (with_reducible repeat (first | refine blk_drewN ?_ _ | refine blk_drew ?_ | refine blk_alloc ?_ _)); refine blk_far ?_ NB561_567.out _; (with_reducible repeat (first | refine blk_drewN ?_ _ | refine blk_drew ?_ | refine blk_alloc ?_ _)); exact BK561.out⟩, ⟨by (with_reducible repeat (first | refine blk_drewN ?_ _ | refine blk_drew ?_ | refine blk_alloc ?_ _)); refine blk_put (cs := #[.int .i64 t563, .int .i64 t564, .int .i64 0]) ?_ 2 _ rfl; (with_reducible repeat (first | refine blk_drewN ?_ _ | refine blk_drew ?_ | refine blk_alloc ?_ _)); refine blk_put (cs := #[.int .i64 t563, .int .i64 0, .int .i64 0]) ?_ 1 _ rfl; (with_reducible repeat (first | refine blk_drewN ?_ _ | refine blk_drew ?_ | refine blk_alloc ?_ _)); refine blk_put (cs := #[.int .i64 0, .int .i64 0, .int .i64 0]) ?_ 0 _ rfl; (with_reducible repeat (first | refine blk_drewN ?_ _ | refine blk_drew ?_ | refine blk_alloc ?_ _)); exact BK567.out⟩, ⟨hb_⟩⟩
  case round =>
   clear H'
   try clear c1
   try clear c2
   try clear p2
   try clear c3
   try clear c10
   try clear c16
   try clear c17
   try clear c19
   try clear c21
   try clear c22
   try clear c23
   try clear hcz11_0
   try clear hcz11_1
   try clear hcz11_2
   try clear hcz17_0
   try clear hcz17_1
   try clear hcz17_2
   try clear hcz18_0
   try clear hcz18_1
   try clear hcz18_2
   try clear hcz24_0
   try clear hcz24_1
   try clear hcz24_2
   try clear hfz11_0
   try clear hfz11_1
   try clear hfz11_2
   try clear hfz17_0
   try clear hfz17_1
   try clear hfz17_2
   try clear hfz18_0
   try clear hfz18_1
   try clear hfz18_2
   try clear hfz24_0
   try clear hfz24_1
   try clear hfz24_2
   obtain ⟨x9_1, x10_1, rfl, rfl, HA, HK1, HO_4, BK553, BK561, BK567, HB⟩ := hrel
   cases gk with
   | zero => exact absurd HA.out (by simp [laws_FnDrawings.l0])
   | succ k1 =>
    have H := HA.out
    clear HA
    simp only [laws_FnDrawings.l0] at H
    by_cases c25 : x10_1 < (t554.length : Int)
    ·rw [if_pos c25] at H
     have c25b0 : decide (x10_1 < (t554.length : Int)) = true := decide_eq_true c25
     clear c25
     have H' := Aside0.mk H
     clear H
     go_wp2
     go_loopg [9, 11] k1 (fun kq v9 v11 w' => ∃ (x9_2 : Int) (x11_2 : Int), v9 = .int .i64 x9_2 ∧ v11 = .int .i64 x11_2 ∧ Aside0 (laws_FnDrawings.l1 kq t554 t560 t566 x9_2 x10_1 x11_2 t550 t551 t552 t557 t558 t559 t563 t564 t565 = some r) ∧ Aside0 (kq ≤ k1) ∧ Aside0 (Kd.R Kd.string 9 w' w.heap.size (fun _ => True) (.slice Ao13 t554.length co13) t554) ∧ Aside0 (w'.heap[gb553]? = some (.cells #[.int .i64 t550, .int .i64 t551, .int .i64 t552] 34 (0, 0))) ∧ Aside0 (w'.heap[gb561]? = some (.cells #[.int .i64 t557, .int .i64 t558, .int .i64 t559] 34 (0, 0))) ∧ Aside0 (w'.heap[gb567]? = some (.cells #[.int .i64 t563, .int .i64 t564, .int .i64 t565] 34 (0, 0))) ∧ Aside0 (Below w.heap.size w w'))
     case atStart => exact ⟨(x9_1), (0), (by first | rfl | (simp; done) | (simp [*]; done)), (by first | rfl | (simp; done) | (simp [*]; done)), H', ⟨Nat.le_refl _⟩, ⟨kr_ HO_4.out⟩, ⟨kb_ BK553.out⟩, ⟨kb_ BK561.out⟩, ⟨kb_ BK567.out⟩, ⟨hb_⟩⟩
     case round =>
      clear H'
      try clear c1
      try clear c2
      try clear p2
      try clear c3
      try clear c10
      try clear c16
      try clear c17
      try clear c19
      try clear c21
      try clear c22
      try clear c23
      try clear c25
      try clear c25b0
      try clear hcz11_0
      try clear hcz11_1
      try clear hcz11_2
      try clear hcz17_0
      try clear hcz17_1
      try clear hcz17_2
      try clear hcz18_0
      try clear hcz18_1
      try clear hcz18_2
      try clear hcz24_0
      try clear hcz24_1
      try clear hcz24_2
      try clear hfz11_0
      try clear hfz11_1
      try clear hfz11_2
      try clear hfz17_0
      try clear hfz17_1
      try clear hfz17_2
      try clear hfz18_0
      try clear hfz18_1
      try clear hfz18_2
      try clear hfz24_0
      try clear hfz24_1
      try clear hfz24_2
      try clear p2
      obtain ⟨x9_2, x11_2, rfl, rfl, HA, HK2, HO_4, BK553, BK561, BK567, HB⟩ := hrel
      cases gk with
      | zero => exact absurd HA.out (by simp [laws_FnDrawings.l1])
      | succ k2 =>
       have H := HA.out
       clear HA
       simp only [laws_FnDrawings.l1] at H
       by_cases c26 : 0 ≤ x10_1
       ·rw [if_pos c26] at H
        have c26b0 : decide (0 ≤ x10_1) = true := decide_eq_true c26
        clear c26
        by_cases c27 : x10_1 < (t554.length : Int)
        ·rw [if_pos c27] at H
         have c27b0 : decide (x10_1 < (t554.length : Int)) = true := decide_eq_true c27
         clear c27
         by_cases c28 : x11_2 < ((rdOf ByteArray.empty t554 x10_1).size : Int)
         ·rw [if_pos c28] at H
          have c28b0 : decide (x11_2 < ((rdOf ByteArray.empty t554 x10_1).size : Int)) = true := decide_eq_true c28
          clear c28
          by_cases c29 : 0 ≤ x11_2
          ·rw [if_pos c29] at H
           have c29b0 : decide (0 ≤ x11_2) = true := decide_eq_true c29
           clear c29
           replace H := Option.bind_eq_some_iff.mp H
           obtain ⟨t572, A310, H⟩ := H
           replace H : (laws_FnDrawings.l1 k2 t554 t560 t566 (wrap64 (x9_2 + t572)) x10_1 (wrap64 (x11_2 + 1)) t550 t551 t552 t557 t558 t559 t563 t564 t565) = some r := H
           have A31 := Aside0.mk A310
           clear A310
           have H' := Aside0.mk H
           clear H
           have p570 : 0 ≤ (x10_1 : Int) := of_decide_eq_true (by first | (with_reducible assumption) | assumption)
           have q570 : x10_1 < (t554.length : Int) := of_decide_eq_true (by first | (with_reducible assumption) | assumption)
           obtain ⟨ad570, e570, hx570_0⟩ := Kd.at_string (Kd.R_reads' HO_4.out).2.2 x10_1 p570 q570
           cases e570
           replace p570 := eq_true p570
           replace q570 := eq_true q570
           have p571 : 0 ≤ (x10_1 : Int) := of_decide_eq_true (by first | (with_reducible assumption) | assumption)
           have q571 : x10_1 < (t554.length : Int) := of_decide_eq_true (by first | (with_reducible assumption) | assumption)
           obtain ⟨ad571, e571, hx571_0⟩ := Kd.at_string (Kd.R_reads' HO_4.out).2.2 x10_1 p571 q571
           obtain rfl : ad570 = ad571 := (by injection e571)
           replace p571 := eq_true p571
           replace q571 := eq_true q571
           have p30 : 0 ≤ (x11_2 : Int) := of_decide_eq_true (by first | (with_reducible assumption) | assumption)
           have q30 : x11_2 < ((rdOf ByteArray.empty t554 x10_1).size : Int) := of_decide_eq_true (by first | (with_reducible assumption) | assumption)
           have hx30 := bt_at (rdOf ByteArray.empty t554 x10_1) x11_2
           replace p30 := eq_true p30
           replace q30 := eq_true q30
           go_wp2_with (first | ((with_reducible refine gate_callee (f := 33) rfl ?_); refine goesL_ (some 52) rfl rfl Tryd.func33 (by kernel_rfl) rfl #[.bool ((bt (rdOf ByteArray.empty t554 x10_1) x11_2) == 32)] rfl mp_ ?_; (with_reducible refine (laws_btoi.calls ((bt (rdOf ByteArray.empty t554 x10_1) x11_2) == 32) t572 _ A31.out).mono ?_); rintro e w' ⟨rfl, ⟨nd, rfl⟩⟩; refine ⟨_, rfl, ?_⟩))
           go_roundg k2
           case measure => have := HK1.out; have := HK2.out; omega
           case rel => exact ⟨(wrap64 (x9_2 + t572)), (wrap64 (x11_2 + 1)), (by first | rfl | (simp; done) | (simp [*]; done)), (by first | rfl | (simp; done) | (simp [*]; done)), H', ⟨by have := HK1.out; have := HK2.out; omega⟩, ⟨kr_ HO_4.out⟩, ⟨kb_ BK553.out⟩, ⟨kb_ BK561.out⟩, ⟨kb_ BK567.out⟩, ⟨hb_⟩⟩
          ·rw [if_neg c29] at H
           exact absurd H (by simp)
         ·rw [if_neg c28] at H
          have c28b0 : decide (x11_2 < ((rdOf ByteArray.empty t554 x10_1).size : Int)) = false := decide_eq_false c28
          clear c28
          have H' := Aside0.mk H
          clear H
          have p570 : 0 ≤ (x10_1 : Int) := of_decide_eq_true (by first | (with_reducible assumption) | assumption)
          have q570 : x10_1 < (t554.length : Int) := of_decide_eq_true (by first | (with_reducible assumption) | assumption)
          obtain ⟨ad570, e570, hx570_0⟩ := Kd.at_string (Kd.R_reads' HO_4.out).2.2 x10_1 p570 q570
          cases e570
          replace p570 := eq_true p570
          replace q570 := eq_true q570
          go_wp2
          go_roundg k2
          case measure => have := HK1.out; have := HK2.out; omega
          case rel => exact ⟨(x9_2), (wrap64 (x10_1 + 1)), (by first | rfl | (simp; done) | (simp [*]; done)), (by first | rfl | (simp; done) | (simp [*]; done)), H', ⟨by have := HK1.out; have := HK2.out; omega⟩, ⟨kr_ HO_4.out⟩, ⟨kb_ BK553.out⟩, ⟨kb_ BK561.out⟩, ⟨kb_ BK567.out⟩, ⟨hb_⟩⟩
        ·rw [if_neg c27] at H
         exact absurd H (by simp)
       ·rw [if_neg c26] at H
        exact absurd H (by simp)
    ·rw [if_neg c25] at H
     have c25b0 : decide (x10_1 < (t554.length : Int)) = false := decide_eq_false c25
     clear c25
     by_cases c32 : t560 = true
     ·subst c32
      have H1 : (if t566 = true then (if ((t557 == t550 && (t558 == t551)) && (t559 == t552)) = true then (if ((t563 == t550 && (t564 == t551)) && (t565 == t552)) = true then ((spec_CountCells.f t550 t551).bind fun t568 => ((impl_CountPassages.f t550 t551 t552).bind fun t569 => (if x9_1 = (wrap64 (t568 + t569)) then (some ((t554.length : Int) == (wrap64 ((wrap64 (2 * t551)) + 1)))) else (some false)))) else (some false)) else (some false)) else (some false)) = some r := by rw [if_pos rfl] at H; exact H
      clear H
      have H := H1
      clear H1
      by_cases c33 : t566 = true
      ·subst c33
       have H1 : (if ((t557 == t550 && (t558 == t551)) && (t559 == t552)) = true then (if ((t563 == t550 && (t564 == t551)) && (t565 == t552)) = true then ((spec_CountCells.f t550 t551).bind fun t568 => ((impl_CountPassages.f t550 t551 t552).bind fun t569 => (if x9_1 = (wrap64 (t568 + t569)) then (some ((t554.length : Int) == (wrap64 ((wrap64 (2 * t551)) + 1)))) else (some false)))) else (some false)) else (some false)) = some r := by rw [if_pos rfl] at H; exact H
       clear H
       have H := H1
       clear H1
       by_cases c34 : ((t557 == t550 && (t558 == t551)) && (t559 == t552)) = true
       ·rw [if_pos c34] at H
        have c34b0 : ((t557 == t550 && (t558 == t551)) && (t559 == t552)) = true := c34
        clear c34
        by_cases c35 : ((t563 == t550 && (t564 == t551)) && (t565 == t552)) = true
        ·rw [if_pos c35] at H
         have c35b0 : ((t563 == t550 && (t564 == t551)) && (t565 == t552)) = true := c35
         clear c35
         replace H := Option.bind_eq_some_iff.mp H
         obtain ⟨t568, A360, H⟩ := H
         replace H : ((impl_CountPassages.f t550 t551 t552).bind fun t569 => (if x9_1 = (wrap64 (t568 + t569)) then (some ((t554.length : Int) == (wrap64 ((wrap64 (2 * t551)) + 1)))) else (some false))) = some r := H
         have A36 := Aside0.mk A360
         clear A360
         replace H := Option.bind_eq_some_iff.mp H
         obtain ⟨t569, A370, H⟩ := H
         replace H : (if x9_1 = (wrap64 (t568 + t569)) then (some ((t554.length : Int) == (wrap64 ((wrap64 (2 * t551)) + 1)))) else (some false)) = some r := H
         have A37 := Aside0.mk A370
         clear A370
         by_cases c38 : x9_1 = (wrap64 (t568 + t569))
         ·rw [if_pos c38] at H
          have c38b0 : (x9_1 == (wrap64 (t568 + t569))) = true := beq_iff_eq.mpr c38
          have c38b1 : (x9_1 != (wrap64 (t568 + t569))) = false := bne_eq_false_iff_eq.mpr c38
          clear c38
          obtain rfl := Option.some.inj H
          try go_wp2
          have n0_ := Aside0.mk (Kd.R_drew HO_4.out)
          have n1_ := Aside0.mk (blk_drew BK553.out)
          have n2_ := Aside0.mk (blk_drew BK561.out)
          have n3_ := Aside0.mk (blk_drew BK567.out)
          have n4_ := Aside0.mk (below_drew1 HB.out)
          clear HO_4
          clear BK553
          clear BK561
          clear BK567
          clear HB
          have HO_4 := n0_
          have BK553 := n1_
          have BK561 := n2_
          have BK567 := n3_
          have HB := n4_
          clear n0_ n1_ n2_ n3_ n4_
          refine start_ (n := 35) (S := fun w' => w'.cell? ⟨gb561, 0, none⟩ = some (.int .i64 t557) ∧ w'.cell? ⟨gb561, 1, none⟩ = some (.int .i64 t558) ∧ w'.cell? ⟨gb561, 2, none⟩ = some (.int .i64 t559) ∧ w'.cell? ⟨gb553, 0, none⟩ = some (.int .i64 t550) ∧ w'.cell? ⟨gb553, 1, none⟩ = some (.int .i64 t551) ∧ w'.cell? ⟨gb553, 2, none⟩ = some (.int .i64 t552) ∧ w'.cell? ⟨gb567, 0, none⟩ = some (.int .i64 t563) ∧ w'.cell? ⟨gb567, 1, none⟩ = some (.int .i64 t564) ∧ w'.cell? ⟨gb567, 2, none⟩ = some (.int .i64 t565)) (ds := []) #[false, false, false, false, false, false, false, false, false, false, false, false, false, false, false, false, false, false, false, false, false, false, false, false, false, false, false, false, false, false, false, false, false, false, false] (by kernel_rfl) rfl rfl ⟨(blk_cell BK561.out 0).trans rfl, (blk_cell BK561.out 1).trans rfl, (blk_cell BK561.out 2).trans rfl, (blk_cell BK553.out 0).trans rfl, (blk_cell BK553.out 1).trans rfl, (blk_cell BK553.out 2).trans rfl, (blk_cell BK567.out 0).trans rfl, (blk_cell BK567.out 1).trans rfl, (blk_cell BK567.out 2).trans rfl⟩ (fun hHeld => ?_); refine with_tabW laws_FnDrawings.tab15 laws_FnDrawings.bits15 (fun HT_ HW_ => ?_)
          generalize wr.drew = w39 at HO_4 BK553 BK561 BK567 HB hHeld ⊢
          refine pure_ (i := 0) (N := some 54) (v := ?_) (a' := ?_) #[true, false, false, false, false, false, false, false, false, false, false, false, false, false, false, false, false, false, false, false, false, false, false, false, false, false, false, false, false, false, false, false, false, false, false] rfl rfl (any_of HT_.out (by kernel_rfl)) (fun _ _ _ h => h) (Or.inl ⟨by rfl, ?_⟩) ?_ ?_
          rotate_left
          ·intro w'
           go_simp
           with_reducible rfl
          rotate_left
          ·simp only [Act.put, List.setIfInBounds_toArray, List.set_cons_zero, List.set_cons_succ, i64_w, i32_w]
           rfl
          refine pure_ (i := 1) (N := some 55) (v := ?_) (a' := ?_) #[true, true, false, false, false, false, false, false, false, false, false, false, false, false, false, false, false, false, false, false, false, false, false, false, false, false, false, false, false, false, false, false, false, false, false] rfl rfl (any_of HT_.out (by kernel_rfl)) (fun _ _ _ h => h) (Or.inl ⟨by rfl, ?_⟩) ?_ ?_
          rotate_left
          ·intro w'
           go_simp
           with_reducible rfl
          rotate_left
          ·simp only [Act.put, List.setIfInBounds_toArray, List.set_cons_zero, List.set_cons_succ, i64_w, i32_w]
           rfl
          refine pure_ (i := 2) (N := some 56) (v := ?_) (a' := ?_) #[true, true, true, false, false, false, false, false, false, false, false, false, false, false, false, false, false, false, false, false, false, false, false, false, false, false, false, false, false, false, false, false, false, false, false] rfl rfl (any_of HT_.out (by kernel_rfl)) (fun _ _ _ h => h) (Or.inl ⟨by rfl, ?_⟩) ?_ ?_
          rotate_left
          ·intro w'
           go_simp
           with_reducible rfl
          rotate_left
          ·simp only [Act.put, List.setIfInBounds_toArray, List.set_cons_zero, List.set_cons_succ, i64_w, i32_w]
           rfl
          refine pure_ (i := 3) (N := some 57) (v := ?_) (a' := ?_) #[true, true, true, true, false, false, false, false, false, false, false, false, false, false, false, false, false, false, false, false, false, false, false, false, false, false, false, false, false, false, false, false, false, false, false] rfl rfl (any_of HT_.out (by kernel_rfl)) (fun _ _ _ h => h) (Or.inl ⟨by rfl, ?_⟩) ?_ ?_
          rotate_left
          ·intro w'
           go_simp
           with_reducible rfl
          rotate_left
          ·simp only [Act.put, List.setIfInBounds_toArray, List.set_cons_zero, List.set_cons_succ, i64_w, i32_w]
           rfl
          refine pure_ (i := 4) (N := some 58) (v := ?_) (a' := ?_) #[true, true, true, true, true, false, false, false, false, false, false, false, false, false, false, false, false, false, false, false, false, false, false, false, false, false, false, false, false, false, false, false, false, false, false] rfl rfl (any_of HT_.out (by kernel_rfl)) (fun _ _ _ h => h) (Or.inl ⟨by rfl, ?_⟩) ?_ ?_
          rotate_left
          ·intro w'
           go_simp
           with_reducible rfl
          rotate_left
          ·simp only [Act.put, List.setIfInBounds_toArray, List.set_cons_zero, List.set_cons_succ, i64_w, i32_w]
           rfl
          refine take_ (i := 5) (N := some 59) (v := ?_) (a' := ?_) #[true, true, true, true, true, true, false, false, false, false, false, false, false, false, false, false, false, false, false, false, false, false, false, false, false, false, false, false, false, false, false, false, false, false, false] rfl rfl (take_ofW HT_.out HW_.out (by kernel_rfl)) (fun _ _ _ h => h) (Or.inl ⟨by rfl, ?_⟩) hHeld ?_ ?_
          rotate_left
          ·rintro w' ⟨s0, s1, s2, s3, s4, s5, s6, s7, s8⟩
           go_simp
           with_reducible rfl
          rotate_left
          ·simp only [Act.put, List.setIfInBounds_toArray, List.set_cons_zero, List.set_cons_succ, i64_w, i32_w]
           rfl
          refine take_ (i := 6) (N := some 60) (v := ?_) (a' := ?_) #[true, true, true, true, true, true, true, false, false, false, false, false, false, false, false, false, false, false, false, false, false, false, false, false, false, false, false, false, false, false, false, false, false, false, false] rfl rfl (take_ofW HT_.out HW_.out (by kernel_rfl)) (fun _ _ _ h => h) (Or.inl ⟨by rfl, ?_⟩) hHeld ?_ ?_
          rotate_left
          ·rintro w' ⟨s0, s1, s2, s3, s4, s5, s6, s7, s8⟩
           go_simp
           with_reducible rfl
          rotate_left
          ·simp only [Act.put, List.setIfInBounds_toArray, List.set_cons_zero, List.set_cons_succ, i64_w, i32_w]
           rfl
          refine pure_ (i := 7) (N := some 61) (v := ?_) (a' := ?_) #[true, true, true, true, true, true, true, true, false, false, false, false, false, false, false, false, false, false, false, false, false, false, false, false, false, false, false, false, false, false, false, false, false, false, false] rfl rfl (any_of HT_.out (by kernel_rfl)) (fun _ _ _ h => h) (Or.inl ⟨by rfl, ?_⟩) ?_ ?_
          rotate_left
          ·intro w'
           go_simp
           with_reducible rfl
          rotate_left
          ·simp only [Act.put, List.setIfInBounds_toArray, List.set_cons_zero, List.set_cons_succ, i64_w, i32_w]
           rfl
          refine pure_ (i := 8) (N := some 62) (v := ?_) (a' := ?_) #[true, true, true, true, true, true, true, true, true, false, false, false, false, false, false, false, false, false, false, false, false, false, false, false, false, false, false, false, false, false, false, false, false, false, false] rfl rfl (any_of HT_.out (by kernel_rfl)) (fun _ _ _ h => h) (Or.inl ⟨by rfl, ?_⟩) ?_ ?_
          rotate_left
          ·intro w'
           go_simp
           with_reducible rfl
          rotate_left
          ·simp only [Act.put, List.setIfInBounds_toArray, List.set_cons_zero, List.set_cons_succ, i64_w, i32_w]
           rfl
          refine pure_ (i := 9) (N := some 63) (v := ?_) (a' := ?_) #[true, true, true, true, true, true, true, true, true, true, false, false, false, false, false, false, false, false, false, false, false, false, false, false, false, false, false, false, false, false, false, false, false, false, false] rfl rfl (any_of HT_.out (by kernel_rfl)) (fun _ _ _ h => h) (Or.inl ⟨by rfl, ?_⟩) ?_ ?_
          rotate_left
          ·intro w'
           go_simp
           with_reducible rfl
          rotate_left
          ·simp only [Act.put, List.setIfInBounds_toArray, List.set_cons_zero, List.set_cons_succ, i64_w, i32_w]
           rfl
          refine take_ (i := 10) (N := some 64) (v := ?_) (a' := ?_) #[true, true, true, true, true, true, true, true, true, true, true, false, false, false, false, false, false, false, false, false, false, false, false, false, false, false, false, false, false, false, false, false, false, false, false] rfl rfl (take_ofW HT_.out HW_.out (by kernel_rfl)) (fun _ _ _ h => h) (Or.inl ⟨by rfl, ?_⟩) hHeld ?_ ?_
          rotate_left
          ·rintro w' ⟨s0, s1, s2, s3, s4, s5, s6, s7, s8⟩
           go_simp
           with_reducible rfl
          rotate_left
          ·simp only [Act.put, List.setIfInBounds_toArray, List.set_cons_zero, List.set_cons_succ, i64_w, i32_w]
           rfl
          refine take_ (i := 11) (N := some 65) (v := ?_) (a' := ?_) #[true, true, true, true, true, true, true, true, true, true, true, true, false, false, false, false, false, false, false, false, false, false, false, false, false, false, false, false, false, false, false, false, false, false, false] rfl rfl (take_ofW HT_.out HW_.out (by kernel_rfl)) (fun _ _ _ h => h) (Or.inl ⟨by rfl, ?_⟩) hHeld ?_ ?_
          rotate_left
          ·rintro w' ⟨s0, s1, s2, s3, s4, s5, s6, s7, s8⟩
           go_simp
           with_reducible rfl
          rotate_left
          ·simp only [Act.put, List.setIfInBounds_toArray, List.set_cons_zero, List.set_cons_succ, i64_w, i32_w]
           rfl
          refine pure_ (i := 12) (N := some 66) (v := ?_) (a' := ?_) #[true, true, true, true, true, true, true, true, true, true, true, true, true, false, false, false, false, false, false, false, false, false, false, false, false, false, false, false, false, false, false, false, false, false, false] rfl rfl (any_of HT_.out (by kernel_rfl)) (fun _ _ _ h => h) (Or.inl ⟨by rfl, ?_⟩) ?_ ?_
          rotate_left
          ·intro w'
           go_simp
           with_reducible rfl
          rotate_left
          ·simp only [Act.put, List.setIfInBounds_toArray, List.set_cons_zero, List.set_cons_succ, i64_w, i32_w]
           rfl
          refine pure_ (i := 13) (N := some 67) (v := ?_) (a' := ?_) #[true, true, true, true, true, true, true, true, true, true, true, true, true, true, false, false, false, false, false, false, false, false, false, false, false, false, false, false, false, false, false, false, false, false, false] rfl rfl (any_of HT_.out (by kernel_rfl)) (fun _ _ _ h => h) (Or.inl ⟨by rfl, ?_⟩) ?_ ?_
          rotate_left
          ·intro w'
           go_simp
           with_reducible rfl
          rotate_left
          ·simp only [Act.put, List.setIfInBounds_toArray, List.set_cons_zero, List.set_cons_succ, i64_w, i32_w]
           rfl
          refine pure_ (i := 14) (N := some 68) (v := ?_) (a' := ?_) #[true, true, true, true, true, true, true, true, true, true, true, true, true, true, true, false, false, false, false, false, false, false, false, false, false, false, false, false, false, false, false, false, false, false, false] rfl rfl (any_of HT_.out (by kernel_rfl)) (fun _ _ _ h => h) (Or.inl ⟨by rfl, ?_⟩) ?_ ?_
          rotate_left
          ·intro w'
           go_simp
           with_reducible rfl
          rotate_left
          ·simp only [Act.put, List.setIfInBounds_toArray, List.set_cons_zero, List.set_cons_succ, i64_w, i32_w]
           rfl
          refine pure_ (i := 15) (N := some 69) (v := ?_) (a' := ?_) #[true, true, true, true, true, true, true, true, true, true, true, true, true, true, true, true, false, false, false, false, false, false, false, false, false, false, false, false, false, false, false, false, false, false, false] rfl rfl (any_of HT_.out (by kernel_rfl)) (fun _ _ _ h => h) (Or.inl ⟨by rfl, ?_⟩) ?_ ?_
          rotate_left
          ·intro w'
           go_simp
           with_reducible rfl
          rotate_left
          ·simp only [Act.put, List.setIfInBounds_toArray, List.set_cons_zero, List.set_cons_succ, i64_w, i32_w]
           rfl
          refine pure_ (i := 16) (N := some 70) (v := ?_) (a' := ?_) #[true, true, true, true, true, true, true, true, true, true, true, true, true, true, true, true, true, false, false, false, false, false, false, false, false, false, false, false, false, false, false, false, false, false, false] rfl rfl (any_of HT_.out (by kernel_rfl)) (fun _ _ _ h => h) (Or.inl ⟨by rfl, ?_⟩) ?_ ?_
          rotate_left
          ·intro w'
           go_simp
           with_reducible rfl
          rotate_left
          ·simp only [Act.put, List.setIfInBounds_toArray, List.set_cons_zero, List.set_cons_succ, i64_w, i32_w]
           rfl
          refine take_ (i := 17) (N := some 71) (v := ?_) (a' := ?_) #[true, true, true, true, true, true, true, true, true, true, true, true, true, true, true, true, true, true, false, false, false, false, false, false, false, false, false, false, false, false, false, false, false, false, false] rfl rfl (take_ofW HT_.out HW_.out (by kernel_rfl)) (fun _ _ _ h => h) (Or.inl ⟨by rfl, ?_⟩) hHeld ?_ ?_
          rotate_left
          ·rintro w' ⟨s0, s1, s2, s3, s4, s5, s6, s7, s8⟩
           go_simp
           with_reducible rfl
          rotate_left
          ·simp only [Act.put, List.setIfInBounds_toArray, List.set_cons_zero, List.set_cons_succ, i64_w, i32_w]
           rfl
          refine take_ (i := 19) (N := some 73) (v := ?_) (a' := ?_) #[true, true, true, true, true, true, true, true, true, true, true, true, true, true, true, true, true, true, false, true, false, false, false, false, false, false, false, false, false, false, false, false, false, false, false] rfl rfl (take_ofW HT_.out HW_.out (by kernel_rfl)) (fun _ _ _ h => h) (Or.inl ⟨by rfl, ?_⟩) hHeld ?_ ?_
          rotate_left
          ·rintro w' ⟨s0, s1, s2, s3, s4, s5, s6, s7, s8⟩
           go_simp
           with_reducible rfl
          rotate_left
          ·simp only [Act.put, List.setIfInBounds_toArray, List.set_cons_zero, List.set_cons_succ, i64_w, i32_w]
           rfl
          refine one_ (i := 18) (N := some 72) #[true, true, true, true, true, true, true, true, true, true, true, true, true, true, true, true, true, true, true, true, false, false, false, false, false, false, false, false, false, false, false, false, false, false, false] rfl rfl (one_of HT_.out (by kernel_rfl)) (by decide) (fun K hK => ?_)
          refine goes_ Tryd.func34 (by kernel_rfl) rfl #[.agg #[.int .i64 t550, .int .i64 t551]] (by rfl) rfl rfl mp_ ?_
          with_reducible refine (spec_CountCells.calls t550 t551 t568 _ A36.out).mono ?_
          rintro e w40 ⟨rfl, hb⟩
          refine ⟨_, rfl, ?_⟩
          have n0_ := Aside0.mk (Kd.R_below (kr_ HO_4.out) hb)
          have n1_ := Aside0.mk (blk_below (g := gb553) (o := .cells #[.int .i64 t550, .int .i64 t551, .int .i64 t552] 34 (0, 0)) (kb_ BK553.out) hb)
          have n2_ := Aside0.mk (blk_below (g := gb561) (o := .cells #[.int .i64 t557, .int .i64 t558, .int .i64 t559] 34 (0, 0)) (kb_ BK561.out) hb)
          have n3_ := Aside0.mk (blk_below (g := gb567) (o := .cells #[.int .i64 t563, .int .i64 t564, .int .i64 t565] 34 (0, 0)) (kb_ BK567.out) hb)
          have n4_ := Aside0.mk (below_step hb_ hb)
          clear HO_4
          clear BK553
          clear BK561
          clear BK567
          clear HB
          have HO_4 := n0_
          have BK553 := n1_
          have BK561 := n2_
          have BK567 := n3_
          have HB := n4_
          clear n0_ n1_ n2_ n3_ n4_
          (try clear hb)
          (try clear hb2)
          (try clear hk)
          (try clear hi)
          refine hK.out _ _ ⟨(blk_cell BK561.out 0).trans rfl, (blk_cell BK561.out 1).trans rfl, (blk_cell BK561.out 2).trans rfl, (blk_cell BK553.out 0).trans rfl, (blk_cell BK553.out 1).trans rfl, (blk_cell BK553.out 2).trans rfl, (blk_cell BK567.out 0).trans rfl, (blk_cell BK567.out 1).trans rfl, (blk_cell BK567.out 2).trans rfl⟩ (fun hHeld => ?_)
          clear hK K
          refine norm_ (a' := ?_) ?_ ?_
          rotate_left
          ·show Act.put _ (some 72) _ = _
           simp only [Act.put, List.setIfInBounds_toArray, List.set_cons_zero, List.set_cons_succ, i64_w, i32_w]
           rfl
          refine one_ (i := 20) (N := some 74) #[true, true, true, true, true, true, true, true, true, true, true, true, true, true, true, true, true, true, true, true, true, false, false, false, false, false, false, false, false, false, false, false, false, false, false] rfl rfl (one_of HT_.out (by kernel_rfl)) (by decide) (fun K hK => ?_)
          refine goes_ Tryd.func35 (by kernel_rfl) rfl #[.agg #[.int .i64 t550, .int .i64 t551, .int .i64 t552]] (by rfl) rfl rfl mp_ ?_
          with_reducible refine (impl_CountPassages.calls t550 t551 t552 t569 _ A37.out).mono ?_
          rintro e w41 ⟨rfl, hb⟩
          refine ⟨_, rfl, ?_⟩
          have n0_ := Aside0.mk (Kd.R_below (kr_ HO_4.out) hb)
          have n1_ := Aside0.mk (blk_below (g := gb553) (o := .cells #[.int .i64 t550, .int .i64 t551, .int .i64 t552] 34 (0, 0)) (kb_ BK553.out) hb)
          have n2_ := Aside0.mk (blk_below (g := gb561) (o := .cells #[.int .i64 t557, .int .i64 t558, .int .i64 t559] 34 (0, 0)) (kb_ BK561.out) hb)
          have n3_ := Aside0.mk (blk_below (g := gb567) (o := .cells #[.int .i64 t563, .int .i64 t564, .int .i64 t565] 34 (0, 0)) (kb_ BK567.out) hb)
          have n4_ := Aside0.mk (below_step hb_ hb)
          clear HO_4
          clear BK553
          clear BK561
          clear BK567
          clear HB
          have HO_4 := n0_
          have BK553 := n1_
          have BK561 := n2_
          have BK567 := n3_
          have HB := n4_
          clear n0_ n1_ n2_ n3_ n4_
          (try clear hb)
          (try clear hb2)
          (try clear hk)
          (try clear hi)
          refine hK.out _ _ ⟨(blk_cell BK561.out 0).trans rfl, (blk_cell BK561.out 1).trans rfl, (blk_cell BK561.out 2).trans rfl, (blk_cell BK553.out 0).trans rfl, (blk_cell BK553.out 1).trans rfl, (blk_cell BK553.out 2).trans rfl, (blk_cell BK567.out 0).trans rfl, (blk_cell BK567.out 1).trans rfl, (blk_cell BK567.out 2).trans rfl⟩ (fun hHeld => ?_)
          clear hK K
          refine norm_ (a' := ?_) ?_ ?_
          rotate_left
          ·show Act.put _ (some 74) _ = _
           simp only [Act.put, List.setIfInBounds_toArray, List.set_cons_zero, List.set_cons_succ, i64_w, i32_w]
           rfl
          refine pure_ (i := 21) (N := some 75) (v := ?_) (a' := ?_) #[true, true, true, true, true, true, true, true, true, true, true, true, true, true, true, true, true, true, true, true, true, true, false, false, false, false, false, false, false, false, false, false, false, false, false] rfl rfl (any_of HT_.out (by kernel_rfl)) (fun _ _ _ h => h) (Or.inl ⟨by rfl, ?_⟩) ?_ ?_
          rotate_left
          ·intro w'
           go_simp
           with_reducible rfl
          rotate_left
          ·simp only [Act.put, List.setIfInBounds_toArray, List.set_cons_zero, List.set_cons_succ, i64_w, i32_w]
           rfl
          refine pure_ (i := 22) (N := some 76) (v := ?_) (a' := ?_) #[true, true, true, true, true, true, true, true, true, true, true, true, true, true, true, true, true, true, true, true, true, true, true, false, false, false, false, false, false, false, false, false, false, false, false] rfl rfl (any_of HT_.out (by kernel_rfl)) (fun _ _ _ h => h) (Or.inl ⟨by rfl, ?_⟩) ?_ ?_
          rotate_left
          ·intro w'
           go_simp
           with_reducible rfl
          rotate_left
          ·simp only [Act.put, List.setIfInBounds_toArray, List.set_cons_zero, List.set_cons_succ, i64_w, i32_w]
           rfl
          refine pure_ (i := 23) (N := some 77) (v := ?_) (a' := ?_) #[true, true, true, true, true, true, true, true, true, true, true, true, true, true, true, true, true, true, true, true, true, true, true, true, false, false, false, false, false, false, false, false, false, false, false] rfl rfl (any_of HT_.out (by kernel_rfl)) (fun _ _ _ h => h) (Or.inl ⟨by rfl, ?_⟩) ?_ ?_
          rotate_left
          ·intro w'
           go_simp
           with_reducible rfl
          rotate_left
          ·simp only [Act.put, List.setIfInBounds_toArray, List.set_cons_zero, List.set_cons_succ, i64_w, i32_w]
           rfl
          refine pure_ (i := 24) (N := some 78) (v := ?_) (a' := ?_) #[true, true, true, true, true, true, true, true, true, true, true, true, true, true, true, true, true, true, true, true, true, true, true, true, true, false, false, false, false, false, false, false, false, false, false] rfl rfl (any_of HT_.out (by kernel_rfl)) (fun _ _ _ h => h) (Or.inl ⟨by rfl, ?_⟩) ?_ ?_
          rotate_left
          ·intro w'
           go_simp
           with_reducible rfl
          rotate_left
          ·simp only [Act.put, List.setIfInBounds_toArray, List.set_cons_zero, List.set_cons_succ, i64_w, i32_w]
           rfl
          refine pure_ (i := 25) (N := some 79) (v := ?_) (a' := ?_) #[true, true, true, true, true, true, true, true, true, true, true, true, true, true, true, true, true, true, true, true, true, true, true, true, true, true, false, false, false, false, false, false, false, false, false] rfl rfl (any_of HT_.out (by kernel_rfl)) (fun _ _ _ h => h) (Or.inl ⟨by rfl, ?_⟩) ?_ ?_
          rotate_left
          ·intro w'
           go_simp
           with_reducible rfl
          rotate_left
          ·simp only [Act.put, List.setIfInBounds_toArray, List.set_cons_zero, List.set_cons_succ, i64_w, i32_w]
           rfl
          refine pure_ (i := 26) (N := some 80) (v := ?_) (a' := ?_) #[true, true, true, true, true, true, true, true, true, true, true, true, true, true, true, true, true, true, true, true, true, true, true, true, true, true, true, false, false, false, false, false, false, false, false] rfl rfl (any_of HT_.out (by kernel_rfl)) (fun _ _ _ h => h) (Or.inl ⟨by rfl, ?_⟩) ?_ ?_
          rotate_left
          ·intro w'
           go_simp
           with_reducible rfl
          rotate_left
          ·simp only [Act.put, List.setIfInBounds_toArray, List.set_cons_zero, List.set_cons_succ, i64_w, i32_w]
           rfl
          refine pure_ (i := 27) (N := some 81) (v := ?_) (a' := ?_) #[true, true, true, true, true, true, true, true, true, true, true, true, true, true, true, true, true, true, true, true, true, true, true, true, true, true, true, true, false, false, false, false, false, false, false] rfl rfl (any_of HT_.out (by kernel_rfl)) (fun _ _ _ h => h) (Or.inl ⟨by rfl, ?_⟩) ?_ ?_
          rotate_left
          ·intro w'
           go_simp
           with_reducible rfl
          rotate_left
          ·simp only [Act.put, List.setIfInBounds_toArray, List.set_cons_zero, List.set_cons_succ, i64_w, i32_w]
           rfl
          refine pure_ (i := 28) (N := some 82) (v := ?_) (a' := ?_) #[true, true, true, true, true, true, true, true, true, true, true, true, true, true, true, true, true, true, true, true, true, true, true, true, true, true, true, true, true, false, false, false, false, false, false] rfl rfl (any_of HT_.out (by kernel_rfl)) (fun _ _ _ h => h) (Or.inl ⟨by rfl, ?_⟩) ?_ ?_
          rotate_left
          ·intro w'
           go_simp
           with_reducible rfl
          rotate_left
          ·simp only [Act.put, List.setIfInBounds_toArray, List.set_cons_zero, List.set_cons_succ, i64_w, i32_w]
           rfl
          refine take_ (i := 29) (N := some 83) (v := ?_) (a' := ?_) #[true, true, true, true, true, true, true, true, true, true, true, true, true, true, true, true, true, true, true, true, true, true, true, true, true, true, true, true, true, true, false, false, false, false, false] rfl rfl (take_ofW HT_.out HW_.out (by kernel_rfl)) (fun _ _ _ h => h) (Or.inl ⟨by rfl, ?_⟩) hHeld ?_ ?_
          rotate_left
          ·rintro w' ⟨s0, s1, s2, s3, s4, s5, s6, s7, s8⟩
           go_simp
           with_reducible rfl
          rotate_left
          ·simp only [Act.put, List.setIfInBounds_toArray, List.set_cons_zero, List.set_cons_succ, i64_w, i32_w]
           rfl
          refine pure_ (i := 30) (N := some 84) (v := ?_) (a' := ?_) #[true, true, true, true, true, true, true, true, true, true, true, true, true, true, true, true, true, true, true, true, true, true, true, true, true, true, true, true, true, true, true, false, false, false, false] rfl rfl (any_of HT_.out (by kernel_rfl)) (fun _ _ _ h => h) (Or.inl ⟨by rfl, ?_⟩) ?_ ?_
          rotate_left
          ·intro w'
           go_simp
           with_reducible rfl
          rotate_left
          ·simp only [Act.put, List.setIfInBounds_toArray, List.set_cons_zero, List.set_cons_succ, i64_w, i32_w]
           rfl
          refine pure_ (i := 31) (N := some 85) (v := ?_) (a' := ?_) #[true, true, true, true, true, true, true, true, true, true, true, true, true, true, true, true, true, true, true, true, true, true, true, true, true, true, true, true, true, true, true, true, false, false, false] rfl rfl (any_of HT_.out (by kernel_rfl)) (fun _ _ _ h => h) (Or.inl ⟨by rfl, ?_⟩) ?_ ?_
          rotate_left
          ·intro w'
           go_simp
           with_reducible rfl
          rotate_left
          ·simp only [Act.put, List.setIfInBounds_toArray, List.set_cons_zero, List.set_cons_succ, i64_w, i32_w]
           rfl
          refine pure_ (i := 32) (N := some 86) (v := ?_) (a' := ?_) #[true, true, true, true, true, true, true, true, true, true, true, true, true, true, true, true, true, true, true, true, true, true, true, true, true, true, true, true, true, true, true, true, true, false, false] rfl rfl (any_of HT_.out (by kernel_rfl)) (fun _ _ _ h => h) (Or.inl ⟨by rfl, ?_⟩) ?_ ?_
          rotate_left
          ·intro w'
           go_simp
           with_reducible rfl
          rotate_left
          ·simp only [Act.put, List.setIfInBounds_toArray, List.set_cons_zero, List.set_cons_succ, i64_w, i32_w]
           rfl
          refine pure_ (i := 33) (N := some 87) (v := ?_) (a' := ?_) #[true, true, true, true, true, true, true, true, true, true, true, true, true, true, true, true, true, true, true, true, true, true, true, true, true, true, true, true, true, true, true, true, true, true, false] rfl rfl (any_of HT_.out (by kernel_rfl)) (fun _ _ _ h => h) (Or.inl ⟨by rfl, ?_⟩) ?_ ?_
          rotate_left
          ·intro w'
           go_simp
           with_reducible rfl
          rotate_left
          ·simp only [Act.put, List.setIfInBounds_toArray, List.set_cons_zero, List.set_cons_succ, i64_w, i32_w]
           rfl
          refine pure_ (i := 34) (N := some 2) (v := ?_) (a' := ?_) #[true, true, true, true, true, true, true, true, true, true, true, true, true, true, true, true, true, true, true, true, true, true, true, true, true, true, true, true, true, true, true, true, true, true, true] rfl rfl (any_of HT_.out (by kernel_rfl)) (fun _ _ _ h => h) (Or.inl ⟨by rfl, ?_⟩) ?_ ?_
          rotate_left
          ·intro w'
           go_simp
           with_reducible rfl
          rotate_left
          ·simp only [Act.put, List.setIfInBounds_toArray, List.set_cons_zero, List.set_cons_succ, i64_w, i32_w]
           rfl
          refine done_ (done_of HT_.out (by kernel_rfl)) ?_
          try go_wp2
          go_ret
          exact ⟨er_, hb_⟩
         ·rw [if_neg c38] at H
          have c38b0 : (x9_1 == (wrap64 (t568 + t569))) = false := beq_eq_false_iff_ne.mpr c38
          have c38b1 : (x9_1 != (wrap64 (t568 + t569))) = true := bne_iff_ne.mpr c38
          exact absurd ((Option.some.inj H).trans HT_.out) (by decide)
        ·rw [if_neg c35] at H
         have c35b0 : ((t563 == t550 && (t564 == t551)) && (t565 == t552)) = false := by simpa using c35
         clear c35
         exact absurd ((Option.some.inj H).trans HT_.out) (by decide)
       ·rw [if_neg c34] at H
        have c34b0 : ((t557 == t550 && (t558 == t551)) && (t559 == t552)) = false := by simpa using c34
        clear c34
        exact absurd ((Option.some.inj H).trans HT_.out) (by decide)
      ·replace c33 := Bool.eq_false_iff.mpr c33
       subst c33
       have H1 : (some false) = some r := by rw [if_neg (show ¬ (false = true) by decide)] at H; exact H
       clear H
       have H := H1
       clear H1
       exact absurd ((Option.some.inj H).trans HT_.out) (by decide)
     ·replace c32 := Bool.eq_false_iff.mpr c32
      subst c32
      have H1 : (some false) = some r := by rw [if_neg (show ¬ (false = true) by decide)] at H; exact H
      clear H
      have H := H1
      clear H1
      exact absurd ((Option.some.inj H).trans HT_.out) (by decide)

/-- THE ONE PURE STATEMENT of laws_FnDrawings: yours. -/
def laws_FnDrawings.Pure : Prop := ∀ (l0 : List Int), l0.length ≤ maxLen → l0.length * 1 ≤ 140737488351232 → (∀ x ∈ l0, (Lit.int .u8 x).wf = true) → ∃ k, laws_FnDrawings.f k l0 = some true
theorem laws_FnDrawings.walk (P : laws_FnDrawings.Pure) (a0 : Option Addr) (len0 cap0 : Nat) (z0 : List Int) (w : World) (HTT : Tabs true w) (w0 : (a0 = none ∧ len0 = 0 ∧ cap0 = 0 ∧ z0 = []) ∨ ∃ x, a0 = some x ∧ len0 ≤ cap0 ∧ cap0 ≤ maxLen ∧ z0.length = cap0 ∧ (∀ i, i < z0.length → w.cell? (x.add i) = some (.int .u8 (z0.getD i 0))) ∧ ∀ n ∈ z0, (Lit.int .u8 n).wf = true) (y0 : len0 * 1 ≤ 140737488351232) :
  Calls Tryd.prog 10 #[.slice a0 len0 cap0] w fun e w' => e = .returned (.bool true) ∧ Below w.heap.size w w' := by
 obtain ⟨l0, rfl, hr0, hm0, hw0, hc0⟩ := ReadsInt.ofRowC w0
 obtain ⟨k, h⟩ := P l0 hm0 y0 hw0
 refine (laws_FnDrawings.calls (HTT := HTT) k _ _ l0 true w (Kd.C_of_reads (d := (0 : Int)) (h1 := fun _ => rfl) hr0) hc0 ⟨rfl⟩ h).mono ?_
 rintro e w' ⟨rfl, hd⟩
 exact ⟨rfl, hd⟩

end Go.Proofs.YtcocebkmfmiaeaaDoor.Q
