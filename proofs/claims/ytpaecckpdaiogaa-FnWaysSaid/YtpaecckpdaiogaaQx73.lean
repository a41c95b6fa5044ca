/- Plain Lean functions of Go functions, and for each the proof that its call comes to just that answer. Conditions: in each theorem's statement. -/
import Derived.Test.YtpaecckpdaiogaaQx0
import Derived.Test.YtpaecckpdaiogaaQx56
import Derived.Test.YtpaecckpdaiogaaQx58
import Derived.Test.YtpaecckpdaiogaaQx66
import Derived.Test.YtpaecckpdaiogaaQx69
import Derived.Test.YtpaecckpdaiogaaQx70
import Derived.Test.YtpaecckpdaiogaaQx71
import Derived.Test.YtpaecckpdaiogaaQx72
namespace Go.Proofs.Ytpaecckpdaiogaa.Q
open Go.RowKit Go.Proofs.YtpaecckpdaiogaaW.PrintWords Go.Proofs.YtpaecckpdaiogaaW.PrintLast
attribute [local go_sem] max2_int min2_int max_two min_two   -- for this text's walks alone
set_option linter.unusedVariables false
set_option linter.unusedSimpArgs false

/-! ### laws_FnWays: function 13 -/
def laws_FnWays.f (k : Nat) (l0 : List Int) : Option (Bool) := (laws_big.f l0).bind fun t812 => (if t812 = true then (some true) else ((spec_DrawCells.f k l0).bind fun bt813 => ((impl_WayBetween.f k bt813.1 bt813.2.1 bt813.2.2.1 bt813.2.2.2.1 bt813.2.2.2.2).bind fun bt819 => ((impl_DistanceOf.f k bt813.1 bt813.2.1 bt813.2.2.1 bt813.2.2.2.1 bt813.2.2.2.2).bind fun t823 => (if bt819.2 = true then ((impl_WalkWay.f k bt813.1 bt813.2.1 bt813.2.2.1 bt813.2.2.2.1 bt819.1).bind fun bt824 => ((impl_ReverseWay.f k bt819.1).bind fun t826 => ((impl_WalkWay.f k bt813.1 bt813.2.1 bt813.2.2.1 bt813.2.2.2.2 t826).bind fun bt829 => ((impl_CellsOn.f k bt813.1 bt813.2.1 bt813.2.2.1 bt813.2.2.2.1 bt819.1).bind fun t831 => ((impl_WayText.f k bt819.1).bind fun t834 => ((impl_ParseWay.f k t834).bind fun bt835 => (if (bt819.1.length : Int) = t823 then (if bt824.2 = true then (if bt824.1 = bt813.2.2.2.2 then (if bt829.2 = true then (if bt829.1 = bt813.2.2.2.1 then (if (t831.length : Int) = (wrap64 (t823 + 1)) then (if 0 < (t831.length : Int) then (if (rd t831 0) = bt813.2.2.2.1 then (if 0 ≤ t823 then (if t823 < (t831.length : Int) then (if (rd t831 t823) = bt813.2.2.2.2 then (if bt835.2 = true then ((laws_sameInts.f k bt835.1 bt819.1).bind fun t841 => (if t841 = true then ((impl_ReverseWay.f k bt819.1).bind fun t842 => ((impl_ReverseWay.f k t842).bind fun t845 => ((laws_sameInts.f k t845 bt819.1).bind fun t848 => (some t848)))) else (some false))) else (some false)) else (some false)) else (none)) else (none)) else (some false)) else (none)) else (some false)) else (some false)) else (some false)) else (some false)) else (some false)) else (some false)))))))) else (some (decide (t823 < 0))))))))
theorem laws_FnWays.mono : ∀ a0 k, LeO (laws_FnWays.f k a0) (laws_FnWays.f (k + 1) a0) := by
 intro a0 k
 unfold laws_FnWays.f
 repeat' first
   | (with_reducible exact impl_CellsOn.mono _ _ _ _ _ _)
   | (with_reducible exact impl_DistanceOf.mono _ _ _ _ _ _)
   | (with_reducible exact impl_ParseWay.mono _ _)
   | (with_reducible exact impl_ReverseWay.mono _ _)
   | (with_reducible exact impl_WalkWay.mono _ _ _ _ _ _)
   | (with_reducible exact impl_WayBetween.mono _ _ _ _ _ _)
   | (with_reducible exact impl_WayText.mono _ _)
   | (with_reducible exact laws_sameInts.mono _ _ _)
   | (with_reducible exact spec_DrawCells.mono _ _)
   | (with_reducible exact LeO.refl _)
   | (with_reducible exact LeO.none _)
   | (with_reducible refine LeO.ite ?_ ?_)
   | (with_reducible refine LeO.bind ?_ (fun _ => ?_))
   | exact impl_CellsOn.mono _ _ _ _ _ _
   | exact impl_DistanceOf.mono _ _ _ _ _ _
   | exact impl_ParseWay.mono _ _
   | exact impl_ReverseWay.mono _ _
   | exact impl_WalkWay.mono _ _ _ _ _ _
   | exact impl_WayBetween.mono _ _ _ _ _ _
   | exact impl_WayText.mono _ _
   | exact laws_sameInts.mono _ _ _
   | exact spec_DrawCells.mono _ _
   | exact LeO.none _
   | refine LeO.ite ?_ ?_
   | refine LeO.bind ?_ (fun _ => ?_)
def laws_FnWays.T9 : Bool × List (List Nat × List Nat) := (true, [([], []), ([], []), ([], []), ([2], [2]), ([0, 1, 3, 3], [0, 1, 3]), ([4], [4]), ([5], [5]), ([5], [5]), ([6, 4, 0, 1, 2, 3, 4, 5, 6], [6]), ([7, 8, 0, 1, 2, 3, 4, 5, 6, 7, 8], [7])])
def laws_FnWays.B9 : List Nat := [0, 0, 0, 4, 15, 31, 63, 63, 127, 511]
theorem laws_FnWays.tab9 : rtab .any (opsOf Try.f13 9) = laws_FnWays.T9 := by kernel_rfl
theorem laws_FnWays.bits9 : waitsOk laws_FnWays.T9.2 laws_FnWays.B9 = true := by kernel_rfl
set_option maxHeartbeats 8000000 in
set_option maxRecDepth 100000 in
theorem laws_FnWays.calls (k : Nat) (A0 : Option Addr) (c0 : Nat) (l0 : List Int) (r : Bool) (w : World) (hr0 : Kd.C (Kd.int .u8) w A0 l0.length l0) (hc0 : l0.length ≤ c0) (HT_ : Aside0 (r = true)) (h : laws_FnWays.f k l0 = some r) :
  Calls Try.prog 13 #[.slice A0 l0.length c0] w fun e w' => e = .returned (.bool r) ∧ Below w.heap.size w w' := by
 have hu30 := Try.underlying30
 have HR0 := Aside0.mk hr0
 have HC0 := Aside0.mk hc0
 clear hr0 hc0
 have HB := Aside0.mk (Below.refl w.heap.size w)
 have H : ((laws_big.f l0).bind fun t812 => (if t812 = true then (some true) else ((spec_DrawCells.f k l0).bind fun bt813 => ((impl_WayBetween.f k bt813.1 bt813.2.1 bt813.2.2.1 bt813.2.2.2.1 bt813.2.2.2.2).bind fun bt819 => ((impl_DistanceOf.f k bt813.1 bt813.2.1 bt813.2.2.1 bt813.2.2.2.1 bt813.2.2.2.2).bind fun t823 => (if bt819.2 = true then ((impl_WalkWay.f k bt813.1 bt813.2.1 bt813.2.2.1 bt813.2.2.2.1 bt819.1).bind fun bt824 => ((impl_ReverseWay.f k bt819.1).bind fun t826 => ((impl_WalkWay.f k bt813.1 bt813.2.1 bt813.2.2.1 bt813.2.2.2.2 t826).bind fun bt829 => ((impl_CellsOn.f k bt813.1 bt813.2.1 bt813.2.2.1 bt813.2.2.2.1 bt819.1).bind fun t831 => ((impl_WayText.f k bt819.1).bind fun t834 => ((impl_ParseWay.f k t834).bind fun bt835 => (if (bt819.1.length : Int) = t823 then (if bt824.2 = true then (if bt824.1 = bt813.2.2.2.2 then (if bt829.2 = true then (if bt829.1 = bt813.2.2.2.1 then (if (t831.length : Int) = (wrap64 (t823 + 1)) then (if 0 < (t831.length : Int) then (if (rd t831 0) = bt813.2.2.2.1 then (if 0 ≤ t823 then (if t823 < (t831.length : Int) then (if (rd t831 t823) = bt813.2.2.2.2 then (if bt835.2 = true then ((laws_sameInts.f k bt835.1 bt819.1).bind fun t841 => (if t841 = true then ((impl_ReverseWay.f k bt819.1).bind fun t842 => ((impl_ReverseWay.f k t842).bind fun t845 => ((laws_sameInts.f k t845 bt819.1).bind fun t848 => (some t848)))) else (some false))) else (some false)) else (some false)) else (none)) else (none)) else (some false)) else (none)) else (some false)) else (some false)) else (some false)) else (some false)) else (some false)) else (some false)))))))) else (some (decide (t823 < 0))))))))) = some r := h
 clear h
 replace H := Option.bind_eq_some_iff.mp H
 obtain ⟨t812, A20, H⟩ := H
 replace H : (if t812 = true then (some true) else ((spec_DrawCells.f k l0).bind fun bt813 => ((impl_WayBetween.f k bt813.1 bt813.2.1 bt813.2.2.1 bt813.2.2.2.1 bt813.2.2.2.2).bind fun bt819 => ((impl_DistanceOf.f k bt813.1 bt813.2.1 bt813.2.2.1 bt813.2.2.2.1 bt813.2.2.2.2).bind fun t823 => (if bt819.2 = true then ((impl_WalkWay.f k bt813.1 bt813.2.1 bt813.2.2.1 bt813.2.2.2.1 bt819.1).bind fun bt824 => ((impl_ReverseWay.f k bt819.1).bind fun t826 => ((impl_WalkWay.f k bt813.1 bt813.2.1 bt813.2.2.1 bt813.2.2.2.2 t826).bind fun bt829 => ((impl_CellsOn.f k bt813.1 bt813.2.1 bt813.2.2.1 bt813.2.2.2.1 bt819.1).bind fun t831 => ((impl_WayText.f k bt819.1).bind fun t834 => ((impl_ParseWay.f k t834).bind fun bt835 => (if (bt819.1.length : Int) = t823 then (if bt824.2 = true then (if bt824.1 = bt813.2.2.2.2 then (if bt829.2 = true then (if bt829.1 = bt813.2.2.2.1 then (if (t831.length : Int) = (wrap64 (t823 + 1)) then (if 0 < (t831.length : Int) then (if (rd t831 0) = bt813.2.2.2.1 then (if 0 ≤ t823 then (if t823 < (t831.length : Int) then (if (rd t831 t823) = bt813.2.2.2.2 then (if bt835.2 = true then ((laws_sameInts.f k bt835.1 bt819.1).bind fun t841 => (if t841 = true then ((impl_ReverseWay.f k bt819.1).bind fun t842 => ((impl_ReverseWay.f k t842).bind fun t845 => ((laws_sameInts.f k t845 bt819.1).bind fun t848 => (some t848)))) else (some false))) else (some false)) else (some false)) else (none)) else (none)) else (some false)) else (none)) else (some false)) else (some false)) else (some false)) else (some false)) else (some false)) else (some false)))))))) else (some (decide (t823 < 0)))))))) = some r := H
 have A2 := Aside0.mk A20
 clear A20
 by_cases c3 : t812 = true
 ·subst c3
  have H1 : (some true) = some r := by rw [if_pos rfl] at H; exact H
  clear H
  have H := H1
  clear H1
  obtain rfl := Option.some.inj H
  go_enter Try.func13, Try.ntmps13
  go_wp2_with (first | ((with_reducible refine gate_callee (f := 38) rfl ?_); refine goesL_ (some 17) rfl rfl Try.func38 (by kernel_rfl) rfl #[.slice A0 l0.length c0] rfl mp_ ?_; (with_reducible refine (laws_big.calls _ _ l0 true _ ?side1 ?side2 A2.out).mono ?_); (case side1 => repeat (first | exact HR0.out | (with_reducible refine Kd.C_alloc ?_ _) | (with_reducible refine Kd.C_drewN ?_ _) | (with_reducible refine Kd.C_drew ?_))); (case side2 => exact HC0.out); rintro e w' ⟨rfl, ⟨nd, rfl⟩⟩; refine ⟨_, rfl, ?_⟩))
  go_ret
  exact ⟨er_, hb_⟩
 ·replace c3 := Bool.eq_false_iff.mpr c3
  subst c3
  have H1 : ((spec_DrawCells.f k l0).bind fun bt813 => ((impl_WayBetween.f k bt813.1 bt813.2.1 bt813.2.2.1 bt813.2.2.2.1 bt813.2.2.2.2).bind fun bt819 => ((impl_DistanceOf.f k bt813.1 bt813.2.1 bt813.2.2.1 bt813.2.2.2.1 bt813.2.2.2.2).bind fun t823 => (if bt819.2 = true then ((impl_WalkWay.f k bt813.1 bt813.2.1 bt813.2.2.1 bt813.2.2.2.1 bt819.1).bind fun bt824 => ((impl_ReverseWay.f k bt819.1).bind fun t826 => ((impl_WalkWay.f k bt813.1 bt813.2.1 bt813.2.2.1 bt813.2.2.2.2 t826).bind fun bt829 => ((impl_CellsOn.f k bt813.1 bt813.2.1 bt813.2.2.1 bt813.2.2.2.1 bt819.1).bind fun t831 => ((impl_WayText.f k bt819.1).bind fun t834 => ((impl_ParseWay.f k t834).bind fun bt835 => (if (bt819.1.length : Int) = t823 then (if bt824.2 = true then (if bt824.1 = bt813.2.2.2.2 then (if bt829.2 = true then (if bt829.1 = bt813.2.2.2.1 then (if (t831.length : Int) = (wrap64 (t823 + 1)) then (if 0 < (t831.length : Int) then (if (rd t831 0) = bt813.2.2.2.1 then (if 0 ≤ t823 then (if t823 < (t831.length : Int) then (if (rd t831 t823) = bt813.2.2.2.2 then (if bt835.2 = true then ((laws_sameInts.f k bt835.1 bt819.1).bind fun t841 => (if t841 = true then ((impl_ReverseWay.f k bt819.1).bind fun t842 => ((impl_ReverseWay.f k t842).bind fun t845 => ((laws_sameInts.f k t845 bt819.1).bind fun t848 => (some t848)))) else (some false))) else (some false)) else (some false)) else (none)) else (none)) else (some false)) else (none)) else (some false)) else (some false)) else (some false)) else (some false)) else (some false)) else (some false)))))))) else (some (decide (t823 < 0))))))) = some r := by rw [if_neg (show ¬ (false = true) by decide)] at H; exact H
  clear H
  have H := H1
  clear H1
  replace H := Option.bind_eq_some_iff.mp H
  obtain ⟨⟨t813, t814, t815, t816, t817⟩, A40, H⟩ := H
  replace H : ((impl_WayBetween.f k t813 t814 t815 t816 t817).bind fun bt819 => ((impl_DistanceOf.f k t813 t814 t815 t816 t817).bind fun t823 => (if bt819.2 = true then ((impl_WalkWay.f k t813 t814 t815 t816 bt819.1).bind fun bt824 => ((impl_ReverseWay.f k bt819.1).bind fun t826 => ((impl_WalkWay.f k t813 t814 t815 t817 t826).bind fun bt829 => ((impl_CellsOn.f k t813 t814 t815 t816 bt819.1).bind fun t831 => ((impl_WayText.f k bt819.1).bind fun t834 => ((impl_ParseWay.f k t834).bind fun bt835 => (if (bt819.1.length : Int) = t823 then (if bt824.2 = true then (if bt824.1 = t817 then (if bt829.2 = true then (if bt829.1 = t816 then (if (t831.length : Int) = (wrap64 (t823 + 1)) then (if 0 < (t831.length : Int) then (if (rd t831 0) = t816 then (if 0 ≤ t823 then (if t823 < (t831.length : Int) then (if (rd t831 t823) = t817 then (if bt835.2 = true then ((laws_sameInts.f k bt835.1 bt819.1).bind fun t841 => (if t841 = true then ((impl_ReverseWay.f k bt819.1).bind fun t842 => ((impl_ReverseWay.f k t842).bind fun t845 => ((laws_sameInts.f k t845 bt819.1).bind fun t848 => (some t848)))) else (some false))) else (some false)) else (some false)) else (none)) else (none)) else (some false)) else (none)) else (some false)) else (some false)) else (some false)) else (some false)) else (some false)) else (some false)))))))) else (some (decide (t823 < 0)))))) = some r := H
  have A4 := Aside0.mk A40
  clear A40
  replace H := Option.bind_eq_some_iff.mp H
  obtain ⟨⟨t819, t822⟩, A50, H⟩ := H
  replace H : ((impl_DistanceOf.f k t813 t814 t815 t816 t817).bind fun t823 => (if t822 = true then ((impl_WalkWay.f k t813 t814 t815 t816 t819).bind fun bt824 => ((impl_ReverseWay.f k t819).bind fun t826 => ((impl_WalkWay.f k t813 t814 t815 t817 t826).bind fun bt829 => ((impl_CellsOn.f k t813 t814 t815 t816 t819).bind fun t831 => ((impl_WayText.f k t819).bind fun t834 => ((impl_ParseWay.f k t834).bind fun bt835 => (if (t819.length : Int) = t823 then (if bt824.2 = true then (if bt824.1 = t817 then (if bt829.2 = true then (if bt829.1 = t816 then (if (t831.length : Int) = (wrap64 (t823 + 1)) then (if 0 < (t831.length : Int) then (if (rd t831 0) = t816 then (if 0 ≤ t823 then (if t823 < (t831.length : Int) then (if (rd t831 t823) = t817 then (if bt835.2 = true then ((laws_sameInts.f k bt835.1 t819).bind fun t841 => (if t841 = true then ((impl_ReverseWay.f k t819).bind fun t842 => ((impl_ReverseWay.f k t842).bind fun t845 => ((laws_sameInts.f k t845 t819).bind fun t848 => (some t848)))) else (some false))) else (some false)) else (some false)) else (none)) else (none)) else (some false)) else (none)) else (some false)) else (some false)) else (some false)) else (some false)) else (some false)) else (some false)))))))) else (some (decide (t823 < 0))))) = some r := H
  have A5 := Aside0.mk A50
  clear A50
  replace H := Option.bind_eq_some_iff.mp H
  obtain ⟨t823, A60, H⟩ := H
  replace H : (if t822 = true then ((impl_WalkWay.f k t813 t814 t815 t816 t819).bind fun bt824 => ((impl_ReverseWay.f k t819).bind fun t826 => ((impl_WalkWay.f k t813 t814 t815 t817 t826).bind fun bt829 => ((impl_CellsOn.f k t813 t814 t815 t816 t819).bind fun t831 => ((impl_WayText.f k t819).bind fun t834 => ((impl_ParseWay.f k t834).bind fun bt835 => (if (t819.length : Int) = t823 then (if bt824.2 = true then (if bt824.1 = t817 then (if bt829.2 = true then (if bt829.1 = t816 then (if (t831.length : Int) = (wrap64 (t823 + 1)) then (if 0 < (t831.length : Int) then (if (rd t831 0) = t816 then (if 0 ≤ t823 then (if t823 < (t831.length : Int) then (if (rd t831 t823) = t817 then (if bt835.2 = true then ((laws_sameInts.f k bt835.1 t819).bind fun t841 => (if t841 = true then ((impl_ReverseWay.f k t819).bind fun t842 => ((impl_ReverseWay.f k t842).bind fun t845 => ((laws_sameInts.f k t845 t819).bind fun t848 => (some t848)))) else (some false))) else (some false)) else (some false)) else (none)) else (none)) else (some false)) else (none)) else (some false)) else (some false)) else (some false)) else (some false)) else (some false)) else (some false)))))))) else (some (decide (t823 < 0)))) = some r := H
  have A6 := Aside0.mk A60
  clear A60
  by_cases c7 : t822 = true
  ·subst c7
   have H1 : ((impl_WalkWay.f k t813 t814 t815 t816 t819).bind fun bt824 => ((impl_ReverseWay.f k t819).bind fun t826 => ((impl_WalkWay.f k t813 t814 t815 t817 t826).bind fun bt829 => ((impl_CellsOn.f k t813 t814 t815 t816 t819).bind fun t831 => ((impl_WayText.f k t819).bind fun t834 => ((impl_ParseWay.f k t834).bind fun bt835 => (if (t819.length : Int) = t823 then (if bt824.2 = true then (if bt824.1 = t817 then (if bt829.2 = true then (if bt829.1 = t816 then (if (t831.length : Int) = (wrap64 (t823 + 1)) then (if 0 < (t831.length : Int) then (if (rd t831 0) = t816 then (if 0 ≤ t823 then (if t823 < (t831.length : Int) then (if (rd t831 t823) = t817 then (if bt835.2 = true then ((laws_sameInts.f k bt835.1 t819).bind fun t841 => (if t841 = true then ((impl_ReverseWay.f k t819).bind fun t842 => ((impl_ReverseWay.f k t842).bind fun t845 => ((laws_sameInts.f k t845 t819).bind fun t848 => (some t848)))) else (some false))) else (some false)) else (some false)) else (none)) else (none)) else (some false)) else (none)) else (some false)) else (some false)) else (some false)) else (some false)) else (some false)) else (some false)))))))) = some r := by rw [if_pos rfl] at H; exact H
   clear H
   have H := H1
   clear H1
   replace H := Option.bind_eq_some_iff.mp H
   obtain ⟨⟨t824, t825⟩, A80, H⟩ := H
   replace H : ((impl_ReverseWay.f k t819).bind fun t826 => ((impl_WalkWay.f k t813 t814 t815 t817 t826).bind fun bt829 => ((impl_CellsOn.f k t813 t814 t815 t816 t819).bind fun t831 => ((impl_WayText.f k t819).bind fun t834 => ((impl_ParseWay.f k t834).bind fun bt835 => (if (t819.length : Int) = t823 then (if t825 = true then (if t824 = t817 then (if bt829.2 = true then (if bt829.1 = t816 then (if (t831.length : Int) = (wrap64 (t823 + 1)) then (if 0 < (t831.length : Int) then (if (rd t831 0) = t816 then (if 0 ≤ t823 then (if t823 < (t831.length : Int) then (if (rd t831 t823) = t817 then (if bt835.2 = true then ((laws_sameInts.f k bt835.1 t819).bind fun t841 => (if t841 = true then ((impl_ReverseWay.f k t819).bind fun t842 => ((impl_ReverseWay.f k t842).bind fun t845 => ((laws_sameInts.f k t845 t819).bind fun t848 => (some t848)))) else (some false))) else (some false)) else (some false)) else (none)) else (none)) else (some false)) else (none)) else (some false)) else (some false)) else (some false)) else (some false)) else (some false)) else (some false))))))) = some r := H
   have A8 := Aside0.mk A80
   clear A80
   replace H := Option.bind_eq_some_iff.mp H
   obtain ⟨t826, A90, H⟩ := H
   replace H : ((impl_WalkWay.f k t813 t814 t815 t817 t826).bind fun bt829 => ((impl_CellsOn.f k t813 t814 t815 t816 t819).bind fun t831 => ((impl_WayText.f k t819).bind fun t834 => ((impl_ParseWay.f k t834).bind fun bt835 => (if (t819.length : Int) = t823 then (if t825 = true then (if t824 = t817 then (if bt829.2 = true then (if bt829.1 = t816 then (if (t831.length : Int) = (wrap64 (t823 + 1)) then (if 0 < (t831.length : Int) then (if (rd t831 0) = t816 then (if 0 ≤ t823 then (if t823 < (t831.length : Int) then (if (rd t831 t823) = t817 then (if bt835.2 = true then ((laws_sameInts.f k bt835.1 t819).bind fun t841 => (if t841 = true then ((impl_ReverseWay.f k t819).bind fun t842 => ((impl_ReverseWay.f k t842).bind fun t845 => ((laws_sameInts.f k t845 t819).bind fun t848 => (some t848)))) else (some false))) else (some false)) else (some false)) else (none)) else (none)) else (some false)) else (none)) else (some false)) else (some false)) else (some false)) else (some false)) else (some false)) else (some false)))))) = some r := H
   have A9 := Aside0.mk A90
   clear A90
   replace H := Option.bind_eq_some_iff.mp H
   obtain ⟨⟨t829, t830⟩, A100, H⟩ := H
   replace H : ((impl_CellsOn.f k t813 t814 t815 t816 t819).bind fun t831 => ((impl_WayText.f k t819).bind fun t834 => ((impl_ParseWay.f k t834).bind fun bt835 => (if (t819.length : Int) = t823 then (if t825 = true then (if t824 = t817 then (if t830 = true then (if t829 = t816 then (if (t831.length : Int) = (wrap64 (t823 + 1)) then (if 0 < (t831.length : Int) then (if (rd t831 0) = t816 then (if 0 ≤ t823 then (if t823 < (t831.length : Int) then (if (rd t831 t823) = t817 then (if bt835.2 = true then ((laws_sameInts.f k bt835.1 t819).bind fun t841 => (if t841 = true then ((impl_ReverseWay.f k t819).bind fun t842 => ((impl_ReverseWay.f k t842).bind fun t845 => ((laws_sameInts.f k t845 t819).bind fun t848 => (some t848)))) else (some false))) else (some false)) else (some false)) else (none)) else (none)) else (some false)) else (none)) else (some false)) else (some false)) else (some false)) else (some false)) else (some false)) else (some false))))) = some r := H
   have A10 := Aside0.mk A100
   clear A100
   replace H := Option.bind_eq_some_iff.mp H
   obtain ⟨t831, A110, H⟩ := H
   replace H : ((impl_WayText.f k t819).bind fun t834 => ((impl_ParseWay.f k t834).bind fun bt835 => (if (t819.length : Int) = t823 then (if t825 = true then (if t824 = t817 then (if t830 = true then (if t829 = t816 then (if (t831.length : Int) = (wrap64 (t823 + 1)) then (if 0 < (t831.length : Int) then (if (rd t831 0) = t816 then (if 0 ≤ t823 then (if t823 < (t831.length : Int) then (if (rd t831 t823) = t817 then (if bt835.2 = true then ((laws_sameInts.f k bt835.1 t819).bind fun t841 => (if t841 = true then ((impl_ReverseWay.f k t819).bind fun t842 => ((impl_ReverseWay.f k t842).bind fun t845 => ((laws_sameInts.f k t845 t819).bind fun t848 => (some t848)))) else (some false))) else (some false)) else (some false)) else (none)) else (none)) else (some false)) else (none)) else (some false)) else (some false)) else (some false)) else (some false)) else (some false)) else (some false)))) = some r := H
   have A11 := Aside0.mk A110
   clear A110
   replace H := Option.bind_eq_some_iff.mp H
   obtain ⟨t834, A120, H⟩ := H
   replace H : ((impl_ParseWay.f k t834).bind fun bt835 => (if (t819.length : Int) = t823 then (if t825 = true then (if t824 = t817 then (if t830 = true then (if t829 = t816 then (if (t831.length : Int) = (wrap64 (t823 + 1)) then (if 0 < (t831.length : Int) then (if (rd t831 0) = t816 then (if 0 ≤ t823 then (if t823 < (t831.length : Int) then (if (rd t831 t823) = t817 then (if bt835.2 = true then ((laws_sameInts.f k bt835.1 t819).bind fun t841 => (if t841 = true then ((impl_ReverseWay.f k t819).bind fun t842 => ((impl_ReverseWay.f k t842).bind fun t845 => ((laws_sameInts.f k t845 t819).bind fun t848 => (some t848)))) else (some false))) else (some false)) else (some false)) else (none)) else (none)) else (some false)) else (none)) else (some false)) else (some false)) else (some false)) else (some false)) else (some false)) else (some false))) = some r := H
   have A12 := Aside0.mk A120
   clear A120
   replace H := Option.bind_eq_some_iff.mp H
   obtain ⟨⟨t835, t836⟩, A130, H⟩ := H
   replace H : (if (t819.length : Int) = t823 then (if t825 = true then (if t824 = t817 then (if t830 = true then (if t829 = t816 then (if (t831.length : Int) = (wrap64 (t823 + 1)) then (if 0 < (t831.length : Int) then (if (rd t831 0) = t816 then (if 0 ≤ t823 then (if t823 < (t831.length : Int) then (if (rd t831 t823) = t817 then (if t836 = true then ((laws_sameInts.f k t835 t819).bind fun t841 => (if t841 = true then ((impl_ReverseWay.f k t819).bind fun t842 => ((impl_ReverseWay.f k t842).bind fun t845 => ((laws_sameInts.f k t845 t819).bind fun t848 => (some t848)))) else (some false))) else (some false)) else (some false)) else (none)) else (none)) else (some false)) else (none)) else (some false)) else (some false)) else (some false)) else (some false)) else (some false)) else (some false)) = some r := H
   have A13 := Aside0.mk A130
   clear A130
   by_cases c14 : (t819.length : Int) = t823
   ·rw [if_pos c14] at H
    have c14b0 : ((t819.length : Int) == t823) = true := beq_iff_eq.mpr c14
    have c14b1 : ((t819.length : Int) != t823) = false := bne_eq_false_iff_eq.mpr c14
    clear c14
    by_cases c15 : t825 = true
    ·subst c15
     have H1 : (if t824 = t817 then (if t830 = true then (if t829 = t816 then (if (t831.length : Int) = (wrap64 (t823 + 1)) then (if 0 < (t831.length : Int) then (if (rd t831 0) = t816 then (if 0 ≤ t823 then (if t823 < (t831.length : Int) then (if (rd t831 t823) = t817 then (if t836 = true then ((laws_sameInts.f k t835 t819).bind fun t841 => (if t841 = true then ((impl_ReverseWay.f k t819).bind fun t842 => ((impl_ReverseWay.f k t842).bind fun t845 => ((laws_sameInts.f k t845 t819).bind fun t848 => (some t848)))) else (some false))) else (some false)) else (some false)) else (none)) else (none)) else (some false)) else (none)) else (some false)) else (some false)) else (some false)) else (some false)) = some r := by rw [if_pos rfl] at H; exact H
     clear H
     have H := H1
     clear H1
     by_cases c16 : t824 = t817
     ·rw [if_pos c16] at H
      have c16b0 : (t824 == t817) = true := beq_iff_eq.mpr c16
      have c16b1 : (t824 != t817) = false := bne_eq_false_iff_eq.mpr c16
      clear c16
      by_cases c17 : t830 = true
      ·subst c17
       have H1 : (if t829 = t816 then (if (t831.length : Int) = (wrap64 (t823 + 1)) then (if 0 < (t831.length : Int) then (if (rd t831 0) = t816 then (if 0 ≤ t823 then (if t823 < (t831.length : Int) then (if (rd t831 t823) = t817 then (if t836 = true then ((laws_sameInts.f k t835 t819).bind fun t841 => (if t841 = true then ((impl_ReverseWay.f k t819).bind fun t842 => ((impl_ReverseWay.f k t842).bind fun t845 => ((laws_sameInts.f k t845 t819).bind fun t848 => (some t848)))) else (some false))) else (some false)) else (some false)) else (none)) else (none)) else (some false)) else (none)) else (some false)) else (some false)) = some r := by rw [if_pos rfl] at H; exact H
       clear H
       have H := H1
       clear H1
       by_cases c18 : t829 = t816
       ·rw [if_pos c18] at H
        have c18b0 : (t829 == t816) = true := beq_iff_eq.mpr c18
        have c18b1 : (t829 != t816) = false := bne_eq_false_iff_eq.mpr c18
        clear c18
        by_cases c19 : (t831.length : Int) = (wrap64 (t823 + 1))
        ·rw [if_pos c19] at H
         have c19b0 : ((t831.length : Int) == (wrap64 (t823 + 1))) = true := beq_iff_eq.mpr c19
         have c19b1 : ((t831.length : Int) != (wrap64 (t823 + 1))) = false := bne_eq_false_iff_eq.mpr c19
         clear c19
         by_cases c20 : 0 < (t831.length : Int)
         ·rw [if_pos c20] at H
          have c20b0 : decide (0 < (t831.length : Int)) = true := decide_eq_true c20
          have c20b1 : decide (0 < t831.length) = true := decide_eq_true (by omega)
          clear c20
          by_cases c21 : (rd t831 0) = t816
          ·rw [if_pos c21] at H
           have c21b0 : ((rd t831 0) == t816) = true := beq_iff_eq.mpr c21
           have c21b1 : ((rd t831 0) != t816) = false := bne_eq_false_iff_eq.mpr c21
           clear c21
           by_cases c22 : 0 ≤ t823
           ·rw [if_pos c22] at H
            have c22b0 : decide (0 ≤ t823) = true := decide_eq_true c22
            clear c22
            by_cases c23 : t823 < (t831.length : Int)
            ·rw [if_pos c23] at H
             have c23b0 : decide (t823 < (t831.length : Int)) = true := decide_eq_true c23
             clear c23
             by_cases c24 : (rd t831 t823) = t817
             ·rw [if_pos c24] at H
              have c24b0 : ((rd t831 t823) == t817) = true := beq_iff_eq.mpr c24
              have c24b1 : ((rd t831 t823) != t817) = false := bne_eq_false_iff_eq.mpr c24
              clear c24
              by_cases c25 : t836 = true
              ·subst c25
               have H1 : ((laws_sameInts.f k t835 t819).bind fun t841 => (if t841 = true then ((impl_ReverseWay.f k t819).bind fun t842 => ((impl_ReverseWay.f k t842).bind fun t845 => ((laws_sameInts.f k t845 t819).bind fun t848 => (some t848)))) else (some false))) = some r := by rw [if_pos rfl] at H; exact H
               clear H
               have H := H1
               clear H1
               replace H := Option.bind_eq_some_iff.mp H
               obtain ⟨t841, A260, H⟩ := H
               replace H : (if t841 = true then ((impl_ReverseWay.f k t819).bind fun t842 => ((impl_ReverseWay.f k t842).bind fun t845 => ((laws_sameInts.f k t845 t819).bind fun t848 => (some t848)))) else (some false)) = some r := H
               have A26 := Aside0.mk A260
               clear A260
               by_cases c27 : t841 = true
               ·subst c27
                have H1 : ((impl_ReverseWay.f k t819).bind fun t842 => ((impl_ReverseWay.f k t842).bind fun t845 => ((laws_sameInts.f k t845 t819).bind fun t848 => (some t848)))) = some r := by rw [if_pos rfl] at H; exact H
                clear H
                have H := H1
                clear H1
                replace H := Option.bind_eq_some_iff.mp H
                obtain ⟨t842, A280, H⟩ := H
                replace H : ((impl_ReverseWay.f k t842).bind fun t845 => ((laws_sameInts.f k t845 t819).bind fun t848 => (some t848))) = some r := H
                have A28 := Aside0.mk A280
                clear A280
                replace H := Option.bind_eq_some_iff.mp H
                obtain ⟨t845, A290, H⟩ := H
                replace H : ((laws_sameInts.f k t845 t819).bind fun t848 => (some t848)) = some r := H
                have A29 := Aside0.mk A290
                clear A290
                replace H := Option.bind_eq_some_iff.mp H
                obtain ⟨t848, A300, H⟩ := H
                replace H : (some t848) = some r := H
                have A30 := Aside0.mk A300
                clear A300
                obtain rfl := Option.some.inj H
                go_enter Try.func13, Try.ntmps13
                try go_wp2_with (first | ((with_reducible refine gate_callee (f := 38) rfl ?_); refine goesL_ (some 17) rfl rfl Try.func38 (by kernel_rfl) rfl #[.slice A0 l0.length c0] rfl mp_ ?_; (with_reducible refine (laws_big.calls _ _ l0 false _ ?side1 ?side2 A2.out).mono ?_); (case side1 => repeat (first | exact HR0.out | (with_reducible refine Kd.C_alloc ?_ _) | (with_reducible refine Kd.C_drewN ?_ _) | (with_reducible refine Kd.C_drew ?_))); (case side2 => exact HC0.out); rintro e w' ⟨rfl, ⟨nd, rfl⟩⟩; refine ⟨_, rfl, ?_⟩) | ((with_reducible refine gate_callee (f := 50) rfl ?_); refine goesL_ (some 20) rfl rfl Try.func50 (by kernel_rfl) rfl #[.slice A0 l0.length c0] rfl mp_ ?_; (with_reducible refine (spec_DrawCells.calls k _ _ l0 t813 t814 t815 t816 t817 _ ?side1 ?side2 A4.out).mono ?_); (case side1 => repeat (first | exact HR0.out | (with_reducible refine Kd.C_alloc ?_ _) | (with_reducible refine Kd.C_drewN ?_ _) | (with_reducible refine Kd.C_drew ?_))); (case side2 => exact HC0.out); rintro e w31 ⟨rfl, hb⟩; refine ⟨_, rfl, ?_⟩; have n0_ := Aside0.mk (below_step hb_ hb); clear HB; have HB := n0_; clear n0_; (try clear hb); (try clear hb2); (try clear hk); (try clear hi)) | ((with_reducible refine gate_dst (N := 3) rfl ?_); (try (refine gate_guard (by rfl) ?_; dsimp only)); refine box_event ?hg (N := 3) ?hd (cs := #[.int .i64 0, .int .i64 0, .int .i64 0]) (t := 30) ?hr ?_; (case hd => rfl); (case hg => rfl); (case hr => first | (go_simp; done) | (go_simp; rfl)); intro gb818 hg w32 hbox hb; have n0_ := Aside0.mk (below_step hb_ hb); have n1_ := Aside0.mk (hbox); have n2_ := Aside0.mk ((by rw [hg]; exact (below_size hb_) : w.heap.size ≤ gb818)); have n3_ := Aside0.mk ((by rw [hg]; exact (below_size hb_) : w.heap.size ≤ gb818)); clear HB; have HB := n0_; have BK818 := n1_; have GW818 := n2_; have GE818 := n3_; clear n0_ n1_ n2_ n3_; clear hb hbox hg; have hcz33_0 := cz_ (.int .i64 0) BK818.out 0; have hcz33_1 := cz_ (.int .i64 0) BK818.out 1; have hcz33_2 := cz_ (.int .i64 0) BK818.out 2; have hfz33_0 := blk_frozen BK818.out 0; have hfz33_1 := blk_frozen BK818.out 1; have hfz33_2 := blk_frozen BK818.out 2) | ((with_reducible refine gate_callee (f := 57) rfl ?_); refine goesL_ (some 28) rfl rfl Try.func57 (by kernel_rfl) rfl #[.agg #[.int .i64 t813, .int .i64 t814, .int .i64 t815], .int .i64 t816, .int .i64 t817] rfl mp_ ?_; (with_reducible refine (impl_WayBetween.calls k t813 t814 t815 t816 t817 t819 true _ A5.out).mono ?_); rintro e w34 ⟨v820, rfl, ho0, hb⟩; refine ⟨_, rfl, ?_⟩; have n0_ := Aside0.mk (Kd.R_lower ho0 (below_size hb_)); have n1_ := Aside0.mk (blk_below (g := gb818) (o := .cells #[.int .i64 t813, .int .i64 t814, .int .i64 t815] 30 (0, 0)) (by (with_reducible repeat (first | refine blk_drewN ?_ _ | refine blk_drew ?_ | refine blk_alloc ?_ _)); refine blk_put (cs := #[.int .i64 t813, .int .i64 t814, .int .i64 0]) ?_ 2 _ rfl; (with_reducible repeat (first | refine blk_drewN ?_ _ | refine blk_drew ?_ | refine blk_alloc ?_ _)); refine blk_put (cs := #[.int .i64 t813, .int .i64 0, .int .i64 0]) ?_ 1 _ rfl; (with_reducible repeat (first | refine blk_drewN ?_ _ | refine blk_drew ?_ | refine blk_alloc ?_ _)); refine blk_put (cs := #[.int .i64 0, .int .i64 0, .int .i64 0]) ?_ 0 _ rfl; (with_reducible repeat (first | refine blk_drewN ?_ _ | refine blk_drew ?_ | refine blk_alloc ?_ _)); exact BK818.out) hb); have n2_ := Aside0.mk (below_step hb_ hb); clear BK818; clear HB; have HO821 := n0_; have BK818 := n1_; have HB := n2_; clear n0_ n1_ n2_; (try clear hb); (try clear hb2); (try clear hk); (try clear hi); (try clear ho0); have hcz35_0 := cz_ (.int .i64 t813) BK818.out 0; have hcz35_1 := cz_ (.int .i64 t814) BK818.out 1; have hcz35_2 := cz_ (.int .i64 t815) BK818.out 2; have hfz35_0 := blk_frozen BK818.out 0; have hfz35_1 := blk_frozen BK818.out 1; have hfz35_2 := blk_frozen BK818.out 2) | ((with_reducible refine gate_callee (f := 51) rfl ?_); refine goesL_ (some 34) rfl rfl Try.func51 (by kernel_rfl) rfl #[.agg #[.int .i64 t813, .int .i64 t814, .int .i64 t815], .int .i64 t816, .int .i64 t817] rfl mp_ ?_; (with_reducible refine (impl_DistanceOf.calls k t813 t814 t815 t816 t817 t823 _ A6.out).mono ?_); rintro e w36 ⟨rfl, hb⟩; refine ⟨_, rfl, ?_⟩; have n0_ := Aside0.mk (Kd.R_below (kr_ HO821.out) hb); have n1_ := Aside0.mk (blk_below (g := gb818) (o := .cells #[.int .i64 t813, .int .i64 t814, .int .i64 t815] 30 (0, 0)) (kb_ BK818.out) hb); have n2_ := Aside0.mk (below_step hb_ hb); clear HO821; clear BK818; clear HB; have HO821 := n0_; have BK818 := n1_; have HB := n2_; clear n0_ n1_ n2_; (try clear hb); (try clear hb2); (try clear hk); (try clear hi); have hcz37_0 := cz_ (.int .i64 t813) BK818.out 0; have hcz37_1 := cz_ (.int .i64 t814) BK818.out 1; have hcz37_2 := cz_ (.int .i64 t815) BK818.out 2; have hfz37_0 := blk_frozen BK818.out 0; have hfz37_1 := blk_frozen BK818.out 1; have hfz37_2 := blk_frozen BK818.out 2; obtain ⟨Ao38, co38, eo38⟩ := Kd.R_slice HO821.out; subst eo38) | ((with_reducible refine gate_callee (f := 58) rfl ?_); refine goesL_ (some 43) rfl rfl Try.func58 (by kernel_rfl) rfl #[.agg #[.int .i64 t813, .int .i64 t814, .int .i64 t815], .int .i64 t816, .slice Ao38 t819.length co38] rfl mp_ ?_; (with_reducible refine (impl_WalkWay.calls k t813 t814 t815 t816 _ _ t819 t824 true _ ?side1 ?side2 A8.out).mono ?_); (case side1 => repeat (first | exact (Kd.R_reads' HO821.out).2.2 | (with_reducible refine Kd.C_alloc ?_ _) | (with_reducible refine Kd.C_drewN ?_ _) | (with_reducible refine Kd.C_drew ?_))); (case side2 => exact (Kd.R_reads' HO821.out).2.1); rintro e w39 ⟨rfl, hb⟩; refine ⟨_, rfl, ?_⟩; have n0_ := Aside0.mk (Kd.R_below (kr_ HO821.out) hb); have n1_ := Aside0.mk (blk_below (g := gb818) (o := .cells #[.int .i64 t813, .int .i64 t814, .int .i64 t815] 30 (0, 0)) (kb_ BK818.out) hb); have n2_ := Aside0.mk (below_step hb_ hb); clear HO821; clear BK818; clear HB; have HO821 := n0_; have BK818 := n1_; have HB := n2_; clear n0_ n1_ n2_; (try clear hb); (try clear hb2); (try clear hk); (try clear hi)))
                have n0_ := Aside0.mk (Kd.R_drew HO821.out)
                have n1_ := Aside0.mk (blk_drew BK818.out)
                have n2_ := Aside0.mk (below_drew1 HB.out)
                clear HO821
                clear BK818
                clear HB
                have HO821 := n0_
                have BK818 := n1_
                have HB := n2_
                clear n0_ n1_ n2_
                refine start_ (n := 10) (S := fun w' => w'.cell? ⟨gb818, 0, none⟩ = some (.int .i64 t813) ∧ w'.cell? ⟨gb818, 1, none⟩ = some (.int .i64 t814) ∧ w'.cell? ⟨gb818, 2, none⟩ = some (.int .i64 t815)) (ds := []) #[false, false, false, false, false, false, false, false, false, false] (by kernel_rfl) rfl rfl ⟨(blk_cell BK818.out 0).trans rfl, (blk_cell BK818.out 1).trans rfl, (blk_cell BK818.out 2).trans rfl⟩ (fun hHeld => ?_); refine with_tabW laws_FnWays.tab9 laws_FnWays.bits9 (fun HT_ HW_ => ?_)
                generalize w39.drew = w40 at HO821 BK818 HB hHeld ⊢
                refine pure_ (i := 1) (N := some 48) (v := ?_) (a' := ?_) #[false, true, false, false, false, false, false, false, false, false] rfl rfl (any_of HT_.out (by kernel_rfl)) (fun _ _ _ h => h) (Or.inl ⟨by rfl, ?_⟩) ?_ ?_
                rotate_left
                ·intro w'
                 go_simp
                 with_reducible rfl
                rotate_left
                ·simp only [Act.put, List.setIfInBounds_toArray, List.set_cons_zero, List.set_cons_succ, i64_w, i32_w]
                 rfl
                refine pure_ (i := 2) (N := some 49) (v := ?_) (a' := ?_) #[false, true, true, false, false, false, false, false, false, false] rfl rfl (any_of HT_.out (by kernel_rfl)) (fun _ _ _ h => h) (Or.inl ⟨by rfl, ?_⟩) ?_ ?_
                rotate_left
                ·intro w'
                 go_simp
                 with_reducible rfl
                rotate_left
                ·simp only [Act.put, List.setIfInBounds_toArray, List.set_cons_zero, List.set_cons_succ, i64_w, i32_w]
                 rfl
                refine take_ (i := 0) (N := some 47) (v := ?_) (a' := ?_) #[true, true, true, false, false, false, false, false, false, false] rfl rfl (take_ofW HT_.out HW_.out (by kernel_rfl)) (fun _ _ _ h => h) (Or.inl ⟨by rfl, ?_⟩) hHeld ?_ ?_
                rotate_left
                ·rintro w' ⟨s0, s1, s2⟩
                 go_simp
                 with_reducible rfl
                rotate_left
                ·simp only [Act.put, List.setIfInBounds_toArray, List.set_cons_zero, List.set_cons_succ, i64_w, i32_w]
                 rfl
                refine one_ (i := 3) (N := some 50) #[true, true, true, true, false, false, false, false, false, false] rfl rfl (one_of HT_.out (by kernel_rfl)) (by decide) (fun K hK => ?_)
                refine goes_ Try.func59 (by kernel_rfl) rfl #[.slice Ao38 t819.length co38] (by rfl) rfl rfl mp_ ?_
                with_reducible refine (impl_ReverseWay.calls k _ _ t819 t826 _ ?side1 ?side2 A9.out).mono ?_
                (case side1 => repeat (first | exact (Kd.R_reads' HO821.out).2.2 | (with_reducible refine Kd.C_alloc ?_ _) | (with_reducible refine Kd.C_drewN ?_ _) | (with_reducible refine Kd.C_drew ?_)))
                (case side2 => exact (Kd.R_reads' HO821.out).2.1)
                rintro e w41 ⟨v827, rfl, ho0, hb⟩
                refine ⟨_, rfl, ?_⟩
                have n0_ := Aside0.mk (Kd.R_elder' (kr_ HO821.out) (Kd.R_base ho0) hb)
                have n1_ := Aside0.mk (Kd.R_lower (Kd.R_new' ho0 (Kd.R_lt (kr_ HO821.out))) (below_size hb_))
                have n2_ := Aside0.mk (blk_below (g := gb818) (o := .cells #[.int .i64 t813, .int .i64 t814, .int .i64 t815] 30 (0, 0)) (kb_ BK818.out) hb)
                have n3_ := Aside0.mk (below_step hb_ hb)
                clear HO821
                clear BK818
                clear HB
                have HO821 := n0_
                have HO828 := n1_
                have BK818 := n2_
                have HB := n3_
                clear n0_ n1_ n2_ n3_
                (try clear hb)
                (try clear hb2)
                (try clear hk)
                (try clear hi)
                (try clear ho0)
                obtain ⟨Ao42, co42, eo42⟩ := Kd.R_slice HO828.out
                (first | subst eo42 | (injection eo42 with f1_ f2_ f3_; have f4_ := f1_.symm; have f5_ := f3_.symm; clear f1_ f2_ f3_; subst f4_; subst f5_))
                refine hK.out _ _ ⟨(blk_cell BK818.out 0).trans rfl, (blk_cell BK818.out 1).trans rfl, (blk_cell BK818.out 2).trans rfl⟩ (fun hHeld => ?_)
                clear hK K
                refine norm_ (a' := ?_) ?_ ?_
                rotate_left
                ·show Act.put _ (some 50) _ = _
                 simp only [Act.put, List.setIfInBounds_toArray, List.set_cons_zero, List.set_cons_succ, i64_w, i32_w]
                 rfl
                refine one_ (i := 4) (N := some 51) #[true, true, true, true, true, false, false, false, false, false] rfl rfl (one_of HT_.out (by kernel_rfl)) (by decide) (fun K hK => ?_)
                refine goes_ Try.func58 (by kernel_rfl) rfl #[.agg #[.int .i64 t813, .int .i64 t814, .int .i64 t815], .int .i64 t817, .slice Ao42 t826.length co42] (by rfl) rfl rfl mp_ ?_
                with_reducible refine (impl_WalkWay.calls k t813 t814 t815 t817 _ _ t826 t829 true _ ?side1 ?side2 A10.out).mono ?_
                (case side1 => repeat (first | exact (Kd.R_reads' HO828.out).2.2 | (with_reducible refine Kd.C_alloc ?_ _) | (with_reducible refine Kd.C_drewN ?_ _) | (with_reducible refine Kd.C_drew ?_)))
                (case side2 => exact (Kd.R_reads' HO828.out).2.1)
                rintro e w43 ⟨rfl, hb⟩
                refine ⟨_, rfl, ?_⟩
                have n0_ := Aside0.mk (Kd.R_below (kr_ HO821.out) hb)
                have n1_ := Aside0.mk (Kd.R_below (kr_ HO828.out) hb)
                have n2_ := Aside0.mk (blk_below (g := gb818) (o := .cells #[.int .i64 t813, .int .i64 t814, .int .i64 t815] 30 (0, 0)) (kb_ BK818.out) hb)
                have n3_ := Aside0.mk (below_step hb_ hb)
                clear HO821
                clear HO828
                clear BK818
                clear HB
                have HO821 := n0_
                have HO828 := n1_
                have BK818 := n2_
                have HB := n3_
                clear n0_ n1_ n2_ n3_
                (try clear hb)
                (try clear hb2)
                (try clear hk)
                (try clear hi)
                refine hK.out _ _ ⟨(blk_cell BK818.out 0).trans rfl, (blk_cell BK818.out 1).trans rfl, (blk_cell BK818.out 2).trans rfl⟩ (fun hHeld => ?_)
                clear hK K
                refine norm_ (a' := ?_) ?_ ?_
                rotate_left
                ·show Act.put _ (some 51) _ = _
                 simp only [Act.put, List.setIfInBounds_toArray, List.set_cons_zero, List.set_cons_succ, i64_w, i32_w]
                 rfl
                refine pure_ (i := 5) (N := some 46) (v := ?_) (a' := ?_) #[true, true, true, true, true, true, false, false, false, false] rfl rfl (any_of HT_.out (by kernel_rfl)) (fun _ _ _ h => h) (Or.inl ⟨by rfl, ?_⟩) ?_ ?_
                rotate_left
                ·intro w'
                 go_simp
                 with_reducible rfl
                rotate_left
                ·simp only [Act.put, List.setIfInBounds_toArray, List.set_cons_zero, List.set_cons_succ, i64_w, i32_w]
                 rfl
                refine pure_ (i := 6) (N := some 52) (v := ?_) (a' := ?_) #[true, true, true, true, true, true, true, false, false, false] rfl rfl (any_of HT_.out (by kernel_rfl)) (fun _ _ _ h => h) (Or.inl ⟨by rfl, ?_⟩) ?_ ?_
                rotate_left
                ·intro w'
                 go_simp
                 with_reducible rfl
                rotate_left
                ·simp only [Act.put, List.setIfInBounds_toArray, List.set_cons_zero, List.set_cons_succ, i64_w, i32_w]
                 rfl
                refine pure_ (i := 7) (N := some 53) (v := ?_) (a' := ?_) #[true, true, true, true, true, true, true, true, false, false] rfl rfl (any_of HT_.out (by kernel_rfl)) (fun _ _ _ h => h) (Or.inl ⟨by rfl, ?_⟩) ?_ ?_
                rotate_left
                ·intro w'
                 go_simp
                 with_reducible rfl
                rotate_left
                ·simp only [Act.put, List.setIfInBounds_toArray, List.set_cons_zero, List.set_cons_succ, i64_w, i32_w]
                 rfl
                refine pure_ (i := 8) (N := some 11) (v := ?_) (a' := ?_) #[true, true, true, true, true, true, true, true, true, false] rfl rfl (any_of HT_.out (by kernel_rfl)) (fun _ _ _ h => h) (Or.inl ⟨by rfl, ?_⟩) ?_ ?_
                rotate_left
                ·intro w'
                 go_simp
                 with_reducible rfl
                rotate_left
                ·simp only [Act.put, List.setIfInBounds_toArray, List.set_cons_zero, List.set_cons_succ, i64_w, i32_w]
                 rfl
                refine pure_ (i := 9) (N := some 12) (v := ?_) (a' := ?_) #[true, true, true, true, true, true, true, true, true, true] rfl rfl (any_of HT_.out (by kernel_rfl)) (fun _ _ _ h => h) (Or.inl ⟨by rfl, ?_⟩) ?_ ?_
                rotate_left
                ·intro w'
                 go_simp
                 with_reducible rfl
                rotate_left
                ·simp only [Act.put, List.setIfInBounds_toArray, List.set_cons_zero, List.set_cons_succ, i64_w, i32_w]
                 rfl
                refine done_ (done_of HT_.out (by kernel_rfl)) ?_
                have hcz44_0 := cz_ (.int .i64 t813) BK818.out 0
                have hcz44_1 := cz_ (.int .i64 t814) BK818.out 1
                have hcz44_2 := cz_ (.int .i64 t815) BK818.out 2
                have hfz44_0 := blk_frozen BK818.out 0
                have hfz44_1 := blk_frozen BK818.out 1
                have hfz44_2 := blk_frozen BK818.out 2
                try go_wp2_with (first | ((with_reducible refine gate_callee (f := 60) rfl ?_); refine goesL_ (some 57) rfl rfl Try.func60 (by kernel_rfl) rfl #[.agg #[.int .i64 t813, .int .i64 t814, .int .i64 t815], .int .i64 t816, .slice Ao38 t819.length co38] rfl mp_ ?_; (with_reducible refine (impl_CellsOn.calls k t813 t814 t815 t816 _ _ t819 t831 _ ?side1 ?side2 A11.out).mono ?_); (case side1 => repeat (first | exact (Kd.R_reads' HO821.out).2.2 | (with_reducible refine Kd.C_alloc ?_ _) | (with_reducible refine Kd.C_drewN ?_ _) | (with_reducible refine Kd.C_drew ?_))); (case side2 => exact (Kd.R_reads' HO821.out).2.1); rintro e w45 ⟨v832, rfl, ho0, hb⟩; refine ⟨_, rfl, ?_⟩; have n0_ := Aside0.mk (Kd.R_elder' (kr_ HO821.out) (Kd.R_base ho0) hb); have n1_ := Aside0.mk (Kd.R_elder' (kr_ HO828.out) (Kd.R_base ho0) hb); have n2_ := Aside0.mk (Kd.R_lower (Kd.R_new' (Kd.R_new' ho0 (Kd.R_lt (kr_ HO821.out))) (Kd.R_lt (kr_ HO828.out))) (below_size hb_)); have n3_ := Aside0.mk (blk_below (g := gb818) (o := .cells #[.int .i64 t813, .int .i64 t814, .int .i64 t815] 30 (0, 0)) (kb_ BK818.out) hb); have n4_ := Aside0.mk (below_step hb_ hb); clear HO821; clear HO828; clear BK818; clear HB; have HO821 := n0_; have HO828 := n1_; have HO833 := n2_; have BK818 := n3_; have HB := n4_; clear n0_ n1_ n2_ n3_ n4_; (try clear hb); (try clear hb2); (try clear hk); (try clear hi); (try clear ho0)) | ((with_reducible refine gate_callee (f := 62) rfl ?_); refine goesL_ (some 60) rfl rfl Try.func62 (by kernel_rfl) rfl #[.slice Ao38 t819.length co38] rfl mp_ ?_; (with_reducible refine (impl_WayText.calls k _ _ t819 t834 _ ?side1 ?side2 A12.out).mono ?_); (case side1 => repeat (first | exact (Kd.R_reads' HO821.out).2.2 | (with_reducible refine Kd.C_alloc ?_ _) | (with_reducible refine Kd.C_drewN ?_ _) | (with_reducible refine Kd.C_drew ?_))); (case side2 => exact (Kd.R_reads' HO821.out).2.1); rintro e w46 ⟨rfl, hb⟩; refine ⟨_, rfl, ?_⟩; have n0_ := Aside0.mk (Kd.R_below (kr_ HO821.out) hb); have n1_ := Aside0.mk (Kd.R_below (kr_ HO828.out) hb); have n2_ := Aside0.mk (Kd.R_below (kr_ HO833.out) hb); have n3_ := Aside0.mk (blk_below (g := gb818) (o := .cells #[.int .i64 t813, .int .i64 t814, .int .i64 t815] 30 (0, 0)) (kb_ BK818.out) hb); have n4_ := Aside0.mk (below_step hb_ hb); clear HO821; clear HO828; clear HO833; clear BK818; clear HB; have HO821 := n0_; have HO828 := n1_; have HO833 := n2_; have BK818 := n3_; have HB := n4_; clear n0_ n1_ n2_ n3_ n4_; (try clear hb); (try clear hb2); (try clear hk); (try clear hi)) | ((with_reducible refine gate_callee (f := 61) rfl ?_); refine goesL_ (some 61) rfl rfl Try.func61 (by kernel_rfl) rfl #[.string t834] rfl mp_ ?_; (with_reducible refine (impl_ParseWay.calls k t834 t835 true _ A13.out).mono ?_); rintro e w47 ⟨v837, rfl, ho0, hb⟩; refine ⟨_, rfl, ?_⟩; have n0_ := Aside0.mk (Kd.R_elder' (kr_ HO821.out) (Kd.R_base ho0) hb); have n1_ := Aside0.mk (Kd.R_elder' (kr_ HO828.out) (Kd.R_base ho0) hb); have n2_ := Aside0.mk (Kd.R_elder' (kr_ HO833.out) (Kd.R_base ho0) hb); have n3_ := Aside0.mk (Kd.R_lower (Kd.R_new' (Kd.R_new' (Kd.R_new' ho0 (Kd.R_lt (kr_ HO821.out))) (Kd.R_lt (kr_ HO828.out))) (Kd.R_lt (kr_ HO833.out))) (below_size hb_)); have n4_ := Aside0.mk (blk_below (g := gb818) (o := .cells #[.int .i64 t813, .int .i64 t814, .int .i64 t815] 30 (0, 0)) (kb_ BK818.out) hb); have n5_ := Aside0.mk (below_step hb_ hb); clear HO821; clear HO828; clear HO833; clear BK818; clear HB; have HO821 := n0_; have HO828 := n1_; have HO833 := n2_; have HO838 := n3_; have BK818 := n4_; have HB := n5_; clear n0_ n1_ n2_ n3_ n4_ n5_; (try clear hb); (try clear hb2); (try clear hk); (try clear hi); (try clear ho0); obtain ⟨Ao48, co48, eo48⟩ := Kd.R_slice HO833.out; subst eo48; have p839 : 0 ≤ (0 : Int) := (by omega); have q839 : 0 < (t831.length : Int) := of_decide_eq_true (by first | (with_reducible assumption) | assumption); obtain ⟨ad839, e839, hx839_0⟩ := Kd.at_int (Kd.R_reads' HO833.out).2.2 0 p839 q839; cases e839; have qi839 : (0 < t831.length) = True := eq_true (by omega); (try rw [show ((0 : Int)).toNat = 0 from rfl] at hx839_0); (try rw [Addr.add_zero'] at hx839_0); replace p839 := eq_true p839; replace q839 := eq_true q839; have p840 : 0 ≤ (t823 : Int) := of_decide_eq_true (by first | (with_reducible assumption) | assumption); have q840 : t823 < (t831.length : Int) := of_decide_eq_true (by first | (with_reducible assumption) | assumption); obtain ⟨ad840, e840, hx840_0⟩ := Kd.at_int (Kd.R_reads' HO833.out).2.2 t823 p840 q840; obtain rfl : ad839 = ad840 := (by injection e840); replace p840 := eq_true p840; replace q840 := eq_true q840; obtain ⟨Ao49, co49, eo49⟩ := Kd.R_slice HO838.out; subst eo49) | (go_at_call 63; (with_reducible refine (laws_sameInts.calls k _ _ t835 _ _ t819 true _ ?side1 ?side2 ?side3 ?side4 A26.out).mono ?_); (case side1 => repeat (first | exact (Kd.R_reads' HO838.out).2.2 | (with_reducible refine Kd.C_alloc ?_ _) | (with_reducible refine Kd.C_drewN ?_ _) | (with_reducible refine Kd.C_drew ?_))); (case side2 => exact (Kd.R_reads' HO838.out).2.1); (case side3 => repeat (first | exact (Kd.R_reads' HO821.out).2.2 | (with_reducible refine Kd.C_alloc ?_ _) | (with_reducible refine Kd.C_drewN ?_ _) | (with_reducible refine Kd.C_drew ?_))); (case side4 => exact (Kd.R_reads' HO821.out).2.1); rintro e w' ⟨rfl, ⟨nd, rfl⟩⟩) | (go_at_call 59; (with_reducible refine (impl_ReverseWay.calls k _ _ t819 t842 _ ?side1 ?side2 A28.out).mono ?_); (case side1 => repeat (first | exact (Kd.R_reads' HO821.out).2.2 | (with_reducible refine Kd.C_alloc ?_ _) | (with_reducible refine Kd.C_drewN ?_ _) | (with_reducible refine Kd.C_drew ?_))); (case side2 => exact (Kd.R_reads' HO821.out).2.1); rintro e w50 ⟨v843, rfl, ho0, hb⟩; have n0_ := Aside0.mk (Kd.R_elder' (kr_ HO821.out) (Kd.R_base ho0) hb); have n1_ := Aside0.mk (Kd.R_elder' (kr_ HO828.out) (Kd.R_base ho0) hb); have n2_ := Aside0.mk (Kd.R_elder' (kr_ HO833.out) (Kd.R_base ho0) hb); have n3_ := Aside0.mk (Kd.R_elder' (kr_ HO838.out) (Kd.R_base ho0) hb); have n4_ := Aside0.mk (Kd.R_lower (Kd.R_new' (Kd.R_new' (Kd.R_new' (Kd.R_new' ho0 (Kd.R_lt (kr_ HO821.out))) (Kd.R_lt (kr_ HO828.out))) (Kd.R_lt (kr_ HO833.out))) (Kd.R_lt (kr_ HO838.out))) (below_size hb_)); have n5_ := Aside0.mk (blk_below (g := gb818) (o := .cells #[.int .i64 t813, .int .i64 t814, .int .i64 t815] 30 (0, 0)) (kb_ BK818.out) hb); have n6_ := Aside0.mk (below_step hb_ hb); clear HO821; clear HO828; clear HO833; clear HO838; clear BK818; clear HB; have HO821 := n0_; have HO828 := n1_; have HO833 := n2_; have HO838 := n3_; have HO844 := n4_; have BK818 := n5_; have HB := n6_; clear n0_ n1_ n2_ n3_ n4_ n5_ n6_; (try clear hb); (try clear hb2); (try clear hk); (try clear hi); (try clear ho0); obtain ⟨Ao51, co51, eo51⟩ := Kd.R_slice HO844.out; subst eo51) | (go_at_call 59; (with_reducible refine (impl_ReverseWay.calls k _ _ t842 t845 _ ?side1 ?side2 A29.out).mono ?_); (case side1 => repeat (first | exact (Kd.R_reads' HO844.out).2.2 | (with_reducible refine Kd.C_alloc ?_ _) | (with_reducible refine Kd.C_drewN ?_ _) | (with_reducible refine Kd.C_drew ?_))); (case side2 => exact (Kd.R_reads' HO844.out).2.1); rintro e w52 ⟨v846, rfl, ho0, hb⟩; have n0_ := Aside0.mk (Kd.R_elder' (kr_ HO821.out) (Kd.R_base ho0) hb); have n1_ := Aside0.mk (Kd.R_elder' (kr_ HO828.out) (Kd.R_base ho0) hb); have n2_ := Aside0.mk (Kd.R_elder' (kr_ HO833.out) (Kd.R_base ho0) hb); have n3_ := Aside0.mk (Kd.R_elder' (kr_ HO838.out) (Kd.R_base ho0) hb); have n4_ := Aside0.mk (Kd.R_elder' (kr_ HO844.out) (Kd.R_base ho0) hb); have n5_ := Aside0.mk (Kd.R_lower (Kd.R_new' (Kd.R_new' (Kd.R_new' (Kd.R_new' (Kd.R_new' ho0 (Kd.R_lt (kr_ HO821.out))) (Kd.R_lt (kr_ HO828.out))) (Kd.R_lt (kr_ HO833.out))) (Kd.R_lt (kr_ HO838.out))) (Kd.R_lt (kr_ HO844.out))) (below_size hb_)); have n6_ := Aside0.mk (blk_below (g := gb818) (o := .cells #[.int .i64 t813, .int .i64 t814, .int .i64 t815] 30 (0, 0)) (kb_ BK818.out) hb); have n7_ := Aside0.mk (below_step hb_ hb); clear HO821; clear HO828; clear HO833; clear HO838; clear HO844; clear BK818; clear HB; have HO821 := n0_; have HO828 := n1_; have HO833 := n2_; have HO838 := n3_; have HO844 := n4_; have HO847 := n5_; have BK818 := n6_; have HB := n7_; clear n0_ n1_ n2_ n3_ n4_ n5_ n6_ n7_; (try clear hb); (try clear hb2); (try clear hk); (try clear hi); (try clear ho0); obtain ⟨Ao53, co53, eo53⟩ := Kd.R_slice HO847.out; subst eo53) | (go_at_call 63; (with_reducible refine (laws_sameInts.calls k _ _ t845 _ _ t819 t848 _ ?side1 ?side2 ?side3 ?side4 A30.out).mono ?_); (case side1 => repeat (first | exact (Kd.R_reads' HO847.out).2.2 | (with_reducible refine Kd.C_alloc ?_ _) | (with_reducible refine Kd.C_drewN ?_ _) | (with_reducible refine Kd.C_drew ?_))); (case side2 => exact (Kd.R_reads' HO847.out).2.1); (case side3 => repeat (first | exact (Kd.R_reads' HO821.out).2.2 | (with_reducible refine Kd.C_alloc ?_ _) | (with_reducible refine Kd.C_drewN ?_ _) | (with_reducible refine Kd.C_drew ?_))); (case side4 => exact (Kd.R_reads' HO821.out).2.1); rintro e w' ⟨rfl, ⟨nd, rfl⟩⟩))
                go_ret
                exact ⟨er_, hb_⟩
               ·replace c27 := Bool.eq_false_iff.mpr c27
                subst c27
                have H1 : (some false) = some r := by rw [if_neg (show ¬ (false = true) by decide)] at H; exact H
                clear H
                have H := H1
                clear H1
                exact absurd ((Option.some.inj H).trans HT_.out) (by decide)
              ·replace c25 := Bool.eq_false_iff.mpr c25
               subst c25
               have H1 : (some false) = some r := by rw [if_neg (show ¬ (false = true) by decide)] at H; exact H
               clear H
               have H := H1
               clear H1
               exact absurd ((Option.some.inj H).trans HT_.out) (by decide)
             ·rw [if_neg c24] at H
              have c24b0 : ((rd t831 t823) == t817) = false := beq_eq_false_iff_ne.mpr c24
              have c24b1 : ((rd t831 t823) != t817) = true := bne_iff_ne.mpr c24
              exact absurd ((Option.some.inj H).trans HT_.out) (by decide)
            ·rw [if_neg c23] at H
             exact absurd H (by simp)
           ·rw [if_neg c22] at H
            exact absurd H (by simp)
          ·rw [if_neg c21] at H
           have c21b0 : ((rd t831 0) == t816) = false := beq_eq_false_iff_ne.mpr c21
           have c21b1 : ((rd t831 0) != t816) = true := bne_iff_ne.mpr c21
           exact absurd ((Option.some.inj H).trans HT_.out) (by decide)
         ·rw [if_neg c20] at H
          exact absurd H (by simp)
        ·rw [if_neg c19] at H
         have c19b0 : ((t831.length : Int) == (wrap64 (t823 + 1))) = false := beq_eq_false_iff_ne.mpr c19
         have c19b1 : ((t831.length : Int) != (wrap64 (t823 + 1))) = true := bne_iff_ne.mpr c19
         exact absurd ((Option.some.inj H).trans HT_.out) (by decide)
       ·rw [if_neg c18] at H
        have c18b0 : (t829 == t816) = false := beq_eq_false_iff_ne.mpr c18
        have c18b1 : (t829 != t816) = true := bne_iff_ne.mpr c18
        exact absurd ((Option.some.inj H).trans HT_.out) (by decide)
      ·replace c17 := Bool.eq_false_iff.mpr c17
       subst c17
       have H1 : (some false) = some r := by rw [if_neg (show ¬ (false = true) by decide)] at H; exact H
       clear H
       have H := H1
       clear H1
       exact absurd ((Option.some.inj H).trans HT_.out) (by decide)
     ·rw [if_neg c16] at H
      have c16b0 : (t824 == t817) = false := beq_eq_false_iff_ne.mpr c16
      have c16b1 : (t824 != t817) = true := bne_iff_ne.mpr c16
      exact absurd ((Option.some.inj H).trans HT_.out) (by decide)
    ·replace c15 := Bool.eq_false_iff.mpr c15
     subst c15
     have H1 : (some false) = some r := by rw [if_neg (show ¬ (false = true) by decide)] at H; exact H
     clear H
     have H := H1
     clear H1
     exact absurd ((Option.some.inj H).trans HT_.out) (by decide)
   ·rw [if_neg c14] at H
    have c14b0 : ((t819.length : Int) == t823) = false := beq_eq_false_iff_ne.mpr c14
    have c14b1 : ((t819.length : Int) != t823) = true := bne_iff_ne.mpr c14
    exact absurd ((Option.some.inj H).trans HT_.out) (by decide)
  ·replace c7 := Bool.eq_false_iff.mpr c7
   subst c7
   have H1 : (some (decide (t823 < 0))) = some r := by rw [if_neg (show ¬ (false = true) by decide)] at H; exact H
   clear H
   have H := H1
   clear H1
   obtain rfl := Option.some.inj H
   go_enter Try.func13, Try.ntmps13
   go_wp2_with (first | ((with_reducible refine gate_callee (f := 38) rfl ?_); refine goesL_ (some 17) rfl rfl Try.func38 (by kernel_rfl) rfl #[.slice A0 l0.length c0] rfl mp_ ?_; (with_reducible refine (laws_big.calls _ _ l0 false _ ?side1 ?side2 A2.out).mono ?_); (case side1 => repeat (first | exact HR0.out | (with_reducible refine Kd.C_alloc ?_ _) | (with_reducible refine Kd.C_drewN ?_ _) | (with_reducible refine Kd.C_drew ?_))); (case side2 => exact HC0.out); rintro e w' ⟨rfl, ⟨nd, rfl⟩⟩; refine ⟨_, rfl, ?_⟩) | ((with_reducible refine gate_callee (f := 50) rfl ?_); refine goesL_ (some 20) rfl rfl Try.func50 (by kernel_rfl) rfl #[.slice A0 l0.length c0] rfl mp_ ?_; (with_reducible refine (spec_DrawCells.calls k _ _ l0 t813 t814 t815 t816 t817 _ ?side1 ?side2 A4.out).mono ?_); (case side1 => repeat (first | exact HR0.out | (with_reducible refine Kd.C_alloc ?_ _) | (with_reducible refine Kd.C_drewN ?_ _) | (with_reducible refine Kd.C_drew ?_))); (case side2 => exact HC0.out); rintro e w54 ⟨rfl, hb⟩; refine ⟨_, rfl, ?_⟩; have n0_ := Aside0.mk (below_step hb_ hb); clear HB; have HB := n0_; clear n0_; (try clear hb); (try clear hb2); (try clear hk); (try clear hi)) | ((with_reducible refine gate_dst (N := 3) rfl ?_); (try (refine gate_guard (by rfl) ?_; dsimp only)); refine box_event ?hg (N := 3) ?hd (cs := #[.int .i64 0, .int .i64 0, .int .i64 0]) (t := 30) ?hr ?_; (case hd => rfl); (case hg => rfl); (case hr => first | (go_simp; done) | (go_simp; rfl)); intro gb818 hg w55 hbox hb; have n0_ := Aside0.mk (below_step hb_ hb); have n1_ := Aside0.mk (hbox); have n2_ := Aside0.mk ((by rw [hg]; exact (below_size hb_) : w.heap.size ≤ gb818)); have n3_ := Aside0.mk ((by rw [hg]; exact (below_size hb_) : w.heap.size ≤ gb818)); clear HB; have HB := n0_; have BK818 := n1_; have GW818 := n2_; have GE818 := n3_; clear n0_ n1_ n2_ n3_; clear hb hbox hg; have hcz56_0 := cz_ (.int .i64 0) BK818.out 0; have hcz56_1 := cz_ (.int .i64 0) BK818.out 1; have hcz56_2 := cz_ (.int .i64 0) BK818.out 2; have hfz56_0 := blk_frozen BK818.out 0; have hfz56_1 := blk_frozen BK818.out 1; have hfz56_2 := blk_frozen BK818.out 2) | ((with_reducible refine gate_callee (f := 57) rfl ?_); refine goesL_ (some 28) rfl rfl Try.func57 (by kernel_rfl) rfl #[.agg #[.int .i64 t813, .int .i64 t814, .int .i64 t815], .int .i64 t816, .int .i64 t817] rfl mp_ ?_; (with_reducible refine (impl_WayBetween.calls k t813 t814 t815 t816 t817 t819 false _ A5.out).mono ?_); rintro e w57 ⟨v820, rfl, ho0, hb⟩; refine ⟨_, rfl, ?_⟩; have n0_ := Aside0.mk (Kd.R_lower ho0 (below_size hb_)); have n1_ := Aside0.mk (blk_below (g := gb818) (o := .cells #[.int .i64 t813, .int .i64 t814, .int .i64 t815] 30 (0, 0)) (by (with_reducible repeat (first | refine blk_drewN ?_ _ | refine blk_drew ?_ | refine blk_alloc ?_ _)); refine blk_put (cs := #[.int .i64 t813, .int .i64 t814, .int .i64 0]) ?_ 2 _ rfl; (with_reducible repeat (first | refine blk_drewN ?_ _ | refine blk_drew ?_ | refine blk_alloc ?_ _)); refine blk_put (cs := #[.int .i64 t813, .int .i64 0, .int .i64 0]) ?_ 1 _ rfl; (with_reducible repeat (first | refine blk_drewN ?_ _ | refine blk_drew ?_ | refine blk_alloc ?_ _)); refine blk_put (cs := #[.int .i64 0, .int .i64 0, .int .i64 0]) ?_ 0 _ rfl; (with_reducible repeat (first | refine blk_drewN ?_ _ | refine blk_drew ?_ | refine blk_alloc ?_ _)); exact BK818.out) hb); have n2_ := Aside0.mk (below_step hb_ hb); clear BK818; clear HB; have HO821 := n0_; have BK818 := n1_; have HB := n2_; clear n0_ n1_ n2_; (try clear hb); (try clear hb2); (try clear hk); (try clear hi); (try clear ho0); have hcz58_0 := cz_ (.int .i64 t813) BK818.out 0; have hcz58_1 := cz_ (.int .i64 t814) BK818.out 1; have hcz58_2 := cz_ (.int .i64 t815) BK818.out 2; have hfz58_0 := blk_frozen BK818.out 0; have hfz58_1 := blk_frozen BK818.out 1; have hfz58_2 := blk_frozen BK818.out 2) | ((with_reducible refine gate_callee (f := 51) rfl ?_); refine goesL_ (some 34) rfl rfl Try.func51 (by kernel_rfl) rfl #[.agg #[.int .i64 t813, .int .i64 t814, .int .i64 t815], .int .i64 t816, .int .i64 t817] rfl mp_ ?_; (with_reducible refine (impl_DistanceOf.calls k t813 t814 t815 t816 t817 t823 _ A6.out).mono ?_); rintro e w59 ⟨rfl, hb⟩; refine ⟨_, rfl, ?_⟩; have n0_ := Aside0.mk (Kd.R_below (kr_ HO821.out) hb); have n1_ := Aside0.mk (blk_below (g := gb818) (o := .cells #[.int .i64 t813, .int .i64 t814, .int .i64 t815] 30 (0, 0)) (kb_ BK818.out) hb); have n2_ := Aside0.mk (below_step hb_ hb); clear HO821; clear BK818; clear HB; have HO821 := n0_; have BK818 := n1_; have HB := n2_; clear n0_ n1_ n2_; (try clear hb); (try clear hb2); (try clear hk); (try clear hi)))
   go_ret
   exact ⟨er_, hb_⟩

/-- THE ONE PURE STATEMENT of laws_FnWays: yours. -/
def laws_FnWays.Pure : Prop := ∀ (l0 : List Int), l0.length ≤ maxLen → l0.length * 1 ≤ 140737488351232 → (∀ x ∈ l0, (Lit.int .u8 x).wf = true) → ∃ k, laws_FnWays.f k l0 = some true
theorem laws_FnWays.walk (P : laws_FnWays.Pure) (a0 : Option Addr) (len0 cap0 : Nat) (z0 : List Int) (w : World) (w0 : (a0 = none ∧ len0 = 0 ∧ cap0 = 0 ∧ z0 = []) ∨ ∃ x, a0 = some x ∧ len0 ≤ cap0 ∧ cap0 ≤ maxLen ∧ z0.length = cap0 ∧ (∀ i, i < z0.length → w.cell? (x.add i) = some (.int .u8 (z0.getD i 0))) ∧ ∀ n ∈ z0, (Lit.int .u8 n).wf = true) (y0 : len0 * 1 ≤ 140737488351232) :
  Calls Try.prog 13 #[.slice a0 len0 cap0] w fun e w' => e = .returned (.bool true) ∧ Below w.heap.size w w' := by
 obtain ⟨l0, rfl, hr0, hm0, hw0, hc0⟩ := ReadsInt.ofRowC w0
 obtain ⟨k, h⟩ := P l0 hm0 y0 hw0
 refine (laws_FnWays.calls k _ _ l0 true w (Kd.C_of_reads (d := (0 : Int)) (h1 := fun _ => rfl) hr0) hc0 ⟨rfl⟩ h).mono ?_
 rintro e w' ⟨rfl, hd⟩
 exact ⟨rfl, hd⟩

end Go.Proofs.Ytpaecckpdaiogaa.Q
