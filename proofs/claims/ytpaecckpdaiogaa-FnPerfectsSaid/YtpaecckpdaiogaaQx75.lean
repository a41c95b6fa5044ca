/- Plain Lean functions of Go functions, and for each the proof that its call comes to just that answer. Conditions: in each theorem's statement. -/
import Derived.Test.YtpaecckpdaiogaaQx0
import Derived.Test.YtpaecckpdaiogaaQx2
import Derived.Test.YtpaecckpdaiogaaQx43
import Derived.Test.YtpaecckpdaiogaaQx44
import Derived.Test.YtpaecckpdaiogaaQx45
import Derived.Test.YtpaecckpdaiogaaQx48
import Derived.Test.YtpaecckpdaiogaaQx58
import Derived.Test.YtpaecckpdaiogaaQx63
import Derived.Test.YtpaecckpdaiogaaQx74
namespace Go.Proofs.Ytpaecckpdaiogaa.Q
open Go.RowKit Go.Proofs.YtpaecckpdaiogaaW.PrintWords Go.Proofs.YtpaecckpdaiogaaW.PrintLast
attribute [local go_sem] max2_int min2_int max_two min_two   -- for this text's walks alone
set_option linter.unusedVariables false
set_option linter.unusedSimpArgs false

/-! ### laws_FnPerfects: function 14 -/
def laws_FnPerfects.l0 : Nat → Int → Bool → Int → Int → Int → Int → Option (Bool)
 | 0, _, _, _, _, _, _ => none
 | k + 1, x4, x5, x6, x860000, x860001, x860002 => (spec_CountGaps.f x860000 x860001).bind fun t861 => (if x6 < t861 then ((impl_IsPassage.f x860000 x860001 x860002 x6).bind fun t865 => (if t865 = true then (if x5 = true then ((impl_IsBridge.f k x860000 x860001 x860002 x6).bind fun t866 => (laws_FnPerfects.l0 k x4 t866 (wrap64 (x6 + 1)) x860000 x860001 x860002)) else (laws_FnPerfects.l0 k x4 false (wrap64 (x6 + 1)) x860000 x860001 x860002)) else (laws_FnPerfects.l0 k x4 x5 (wrap64 (x6 + 1)) x860000 x860001 x860002))) else (if x4 ≥ 0 then ((impl_CountParts.f k x860000 x860001 x860002).bind fun t862 => (if t862 ≥ 1 then (if (x5 == (x4 == 0)) = true then ((impl_IsPerfect.f k x860000 x860001 x860002).bind fun t863 => ((impl_IsConnected.f k x860000 x860001 x860002).bind fun t864 => (if t864 = true then (some (t863 == (x4 == 0))) else (some (t863 == false))))) else (some false)) else (some false))) else (some false)))
def laws_FnPerfects.f (k : Nat) (l0 : List Int) : Option (Bool) := (laws_big.f l0).bind fun t855 => (if t855 = true then (some true) else ((spec_DrawMaze.f k l0).bind fun bt856 => ((impl_CountLoops.f k bt856.1 bt856.2.1 bt856.2.2).bind fun t860 => (laws_FnPerfects.l0 k t860 true 0 bt856.1 bt856.2.1 bt856.2.2))))
theorem laws_FnPerfects.mono_l : ∀ k, (∀ y0 y1 y2 y3 y4 y5, LeO (laws_FnPerfects.l0 k y0 y1 y2 y3 y4 y5) (laws_FnPerfects.l0 (k + 1) y0 y1 y2 y3 y4 y5))
 | 0 => fun _ _ _ _ _ _ r h => by simp [laws_FnPerfects.l0] at h
 | k + 1 => by
  have ih0 := laws_FnPerfects.mono_l k
  ·intro y0 y1 y2 y3 y4 y5
   unfold laws_FnPerfects.l0
   repeat' first
   | (with_reducible exact ih0 _ _ _ _ _ _)
   | (with_reducible exact impl_CountLoops.mono _ _ _ _)
   | (with_reducible exact impl_CountParts.mono _ _ _ _)
   | (with_reducible exact impl_IsBridge.mono _ _ _ _ _)
   | (with_reducible exact impl_IsConnected.mono _ _ _ _)
   | (with_reducible exact impl_IsPerfect.mono _ _ _ _)
   | (with_reducible exact spec_DrawMaze.mono _ _)
   | (with_reducible exact LeO.refl _)
   | (with_reducible exact LeO.none _)
   | (with_reducible refine LeO.ite ?_ ?_)
   | (with_reducible refine LeO.bind ?_ (fun _ => ?_))
   | exact ih0 _ _ _ _ _ _
   | exact impl_CountLoops.mono _ _ _ _
   | exact impl_CountParts.mono _ _ _ _
   | exact impl_IsBridge.mono _ _ _ _ _
   | exact impl_IsConnected.mono _ _ _ _
   | exact impl_IsPerfect.mono _ _ _ _
   | exact spec_DrawMaze.mono _ _
   | exact LeO.none _
   | refine LeO.ite ?_ ?_
   | refine LeO.bind ?_ (fun _ => ?_)
theorem laws_FnPerfects.mono : ∀ a0 k, LeO (laws_FnPerfects.f k a0) (laws_FnPerfects.f (k + 1) a0) := by
 intro a0 k
 have ih0 := laws_FnPerfects.mono_l k
 unfold laws_FnPerfects.f
 repeat' first
   | (with_reducible exact ih0 _ _ _ _ _ _)
   | (with_reducible exact impl_CountLoops.mono _ _ _ _)
   | (with_reducible exact impl_CountParts.mono _ _ _ _)
   | (with_reducible exact impl_IsBridge.mono _ _ _ _ _)
   | (with_reducible exact impl_IsConnected.mono _ _ _ _)
   | (with_reducible exact impl_IsPerfect.mono _ _ _ _)
   | (with_reducible exact spec_DrawMaze.mono _ _)
   | (with_reducible exact LeO.refl _)
   | (with_reducible exact LeO.none _)
   | (with_reducible refine LeO.ite ?_ ?_)
   | (with_reducible refine LeO.bind ?_ (fun _ => ?_))
   | exact ih0 _ _ _ _ _ _
   | exact impl_CountLoops.mono _ _ _ _
   | exact impl_CountParts.mono _ _ _ _
   | exact impl_IsBridge.mono _ _ _ _ _
   | exact impl_IsConnected.mono _ _ _ _
   | exact impl_IsPerfect.mono _ _ _ _
   | exact spec_DrawMaze.mono _ _
   | exact LeO.none _
   | refine LeO.ite ?_ ?_
   | refine LeO.bind ?_ (fun _ => ?_)
def laws_FnPerfects.T11 : Bool × List (List Nat × List Nat) := (true, [([], []), ([0], [0]), ([1], [1]), ([2], [2]), ([3, 2, 2], [2, 3]), ([4, 2], [2, 4]), ([2, 5], [2, 5]), ([6, 4], [6]), ([7], [7]), ([7], [7]), ([9, 7], [7, 9]), ([8, 10, 7], [7, 8, 10]), ([7, 11], [7, 11]), ([12, 7], [12]), ([13], [13]), ([14, 13, 13], [13, 14]), ([13], [13]), ([16, 15, 13], [13, 16]), ([17, 17, 13], [13, 17]), ([18], [18]), ([19, 18], [18, 19]), ([18, 20, 13], [13, 18, 20]), ([15, 21, 13], [13, 15, 21]), ([13, 22], [13, 22]), ([23, 18, 0, 1, 2, 3, 4, 5, 6, 7, 8, 9, 10, 11, 12, 13, 14, 15, 16, 17, 18, 19, 20, 21, 22, 23], [23])])
def laws_FnPerfects.B11 : List Nat := [0, 1, 3, 7, 15, 31, 63, 127, 255, 255, 767, 2047, 4095, 8191, 16383, 32767, 16383, 131071, 262143, 524287, 1048575, 2097151, 4194303, 8388607, 16777215]
theorem laws_FnPerfects.tab11 : rtab .any (opsOf Try.f14 11) = laws_FnPerfects.T11 := by kernel_rfl
theorem laws_FnPerfects.bits11 : waitsOk laws_FnPerfects.T11.2 laws_FnPerfects.B11 = true := by kernel_rfl
set_option maxHeartbeats 8000000 in
set_option maxRecDepth 100000 in
theorem laws_FnPerfects.calls (k : Nat) (A0 : Option Addr) (c0 : Nat) (l0 : List Int) (r : Bool) (w : World) (hr0 : Kd.C (Kd.int .u8) w A0 l0.length l0) (hc0 : l0.length ≤ c0) (HT_ : Aside0 (r = true)) (h : laws_FnPerfects.f k l0 = some r) :
  Calls Try.prog 14 #[.slice A0 l0.length c0] w fun e w' => e = .returned (.bool r) ∧ Below w.heap.size w w' := by
 have hu30 := Try.underlying30
 have hu28 := Try.underlying28
 have HR0 := Aside0.mk hr0
 have HC0 := Aside0.mk hc0
 clear hr0 hc0
 have HB := Aside0.mk (Below.refl w.heap.size w)
 have H : ((laws_big.f l0).bind fun t855 => (if t855 = true then (some true) else ((spec_DrawMaze.f k l0).bind fun bt856 => ((impl_CountLoops.f k bt856.1 bt856.2.1 bt856.2.2).bind fun t860 => (laws_FnPerfects.l0 k t860 true 0 bt856.1 bt856.2.1 bt856.2.2))))) = some r := h
 clear h
 replace H := Option.bind_eq_some_iff.mp H
 obtain ⟨t855, A20, H⟩ := H
 replace H : (if t855 = true then (some true) else ((spec_DrawMaze.f k l0).bind fun bt856 => ((impl_CountLoops.f k bt856.1 bt856.2.1 bt856.2.2).bind fun t860 => (laws_FnPerfects.l0 k t860 true 0 bt856.1 bt856.2.1 bt856.2.2)))) = some r := H
 have A2 := Aside0.mk A20
 clear A20
 by_cases c3 : t855 = true
 ·subst c3
  have H1 : (some true) = some r := by rw [if_pos rfl] at H; exact H
  clear H
  have H := H1
  clear H1
  obtain rfl := Option.some.inj H
  go_enter Try.func14, Try.ntmps14
  go_wp2_with (first | ((with_reducible refine gate_callee (f := 38) rfl ?_); refine goesL_ (some 8) rfl rfl Try.func38 (by kernel_rfl) rfl #[.slice A0 l0.length c0] rfl mp_ ?_; (with_reducible refine (laws_big.calls _ _ l0 true _ ?side1 ?side2 A2.out).mono ?_); (case side1 => repeat (first | exact HR0.out | (with_reducible refine Kd.C_alloc ?_ _) | (with_reducible refine Kd.C_drewN ?_ _) | (with_reducible refine Kd.C_drew ?_))); (case side2 => exact HC0.out); rintro e w' ⟨rfl, ⟨nd, rfl⟩⟩; refine ⟨_, rfl, ?_⟩))
  go_ret
  exact ⟨er_, hb_⟩
 ·replace c3 := Bool.eq_false_iff.mpr c3
  subst c3
  have H1 : ((spec_DrawMaze.f k l0).bind fun bt856 => ((impl_CountLoops.f k bt856.1 bt856.2.1 bt856.2.2).bind fun t860 => (laws_FnPerfects.l0 k t860 true 0 bt856.1 bt856.2.1 bt856.2.2))) = some r := by rw [if_neg (show ¬ (false = true) by decide)] at H; exact H
  clear H
  have H := H1
  clear H1
  replace H := Option.bind_eq_some_iff.mp H
  obtain ⟨⟨t856, t857, t858⟩, A40, H⟩ := H
  replace H : ((impl_CountLoops.f k t856 t857 t858).bind fun t860 => (laws_FnPerfects.l0 k t860 true 0 t856 t857 t858)) = some r := H
  have A4 := Aside0.mk A40
  clear A40
  replace H := Option.bind_eq_some_iff.mp H
  obtain ⟨t860, A50, H⟩ := H
  replace H : (laws_FnPerfects.l0 k t860 true 0 t856 t857 t858) = some r := H
  have A5 := Aside0.mk A50
  clear A50
  have H' := Aside0.mk H
  clear H
  go_enter Try.func14, Try.ntmps14
  go_wp2_with (first | ((with_reducible refine gate_callee (f := 38) rfl ?_); refine goesL_ (some 8) rfl rfl Try.func38 (by kernel_rfl) rfl #[.slice A0 l0.length c0] rfl mp_ ?_; (with_reducible refine (laws_big.calls _ _ l0 false _ ?side1 ?side2 A2.out).mono ?_); (case side1 => repeat (first | exact HR0.out | (with_reducible refine Kd.C_alloc ?_ _) | (with_reducible refine Kd.C_drewN ?_ _) | (with_reducible refine Kd.C_drew ?_))); (case side2 => exact HC0.out); rintro e w' ⟨rfl, ⟨nd, rfl⟩⟩; refine ⟨_, rfl, ?_⟩) | ((with_reducible refine gate_callee (f := 39) rfl ?_); refine goesL_ (some 10) rfl rfl Try.func39 (by kernel_rfl) rfl #[.slice A0 l0.length c0] rfl mp_ ?_; (with_reducible refine (spec_DrawMaze.calls k _ _ l0 t856 t857 t858 _ ?side1 ?side2 A4.out).mono ?_); (case side1 => repeat (first | exact HR0.out | (with_reducible refine Kd.C_alloc ?_ _) | (with_reducible refine Kd.C_drewN ?_ _) | (with_reducible refine Kd.C_drew ?_))); (case side2 => exact HC0.out); rintro e w6 ⟨rfl, hb⟩; refine ⟨_, rfl, ?_⟩; have n0_ := Aside0.mk (below_step hb_ hb); clear HB; have HB := n0_; clear n0_; (try clear hb); (try clear hb2); (try clear hk); (try clear hi)) | ((with_reducible refine gate_dst (N := 3) rfl ?_); refine box_event ?hg (N := 3) ?hd (cs := #[.int .i64 0, .int .i64 0, .int .i64 0]) (t := 30) ?hr ?_; (case hd => rfl); (case hg => rfl); (case hr => first | (go_simp; done) | (go_simp; rfl)); intro gb859 hg w7 hbox hb; have n0_ := Aside0.mk (below_step hb_ hb); have n1_ := Aside0.mk (hbox); have n2_ := Aside0.mk ((by rw [hg]; exact (below_size hb_) : w.heap.size ≤ gb859)); have n3_ := Aside0.mk ((by rw [hg]; exact (below_size hb_) : w.heap.size ≤ gb859)); clear HB; have HB := n0_; have BK859 := n1_; have GW859 := n2_; have GE859 := n3_; clear n0_ n1_ n2_ n3_; clear hb hbox hg; have hcz8_0 := cz_ (.int .i64 0) BK859.out 0; have hcz8_1 := cz_ (.int .i64 0) BK859.out 1; have hcz8_2 := cz_ (.int .i64 0) BK859.out 2; have hfz8_0 := blk_frozen BK859.out 0; have hfz8_1 := blk_frozen BK859.out 1; have hfz8_2 := blk_frozen BK859.out 2) | ((with_reducible refine gate_callee (f := 34) rfl ?_); refine goesL_ (some 12) rfl rfl Try.func34 (by kernel_rfl) rfl #[.agg #[.int .i64 t856, .int .i64 t857, .int .i64 t858]] rfl mp_ ?_; (with_reducible refine (impl_CountLoops.calls k t856 t857 t858 t860 _ A5.out).mono ?_); rintro e w9 ⟨rfl, hb⟩; refine ⟨_, rfl, ?_⟩; have n0_ := Aside0.mk (blk_below (g := gb859) (o := .cells #[.int .i64 t856, .int .i64 t857, .int .i64 t858] 30 (0, 0)) (by (with_reducible repeat (first | refine blk_drewN ?_ _ | refine blk_drew ?_ | refine blk_alloc ?_ _)); refine blk_put (cs := #[.int .i64 t856, .int .i64 t857, .int .i64 0]) ?_ 2 _ rfl; (with_reducible repeat (first | refine blk_drewN ?_ _ | refine blk_drew ?_ | refine blk_alloc ?_ _)); refine blk_put (cs := #[.int .i64 t856, .int .i64 0, .int .i64 0]) ?_ 1 _ rfl; (with_reducible repeat (first | refine blk_drewN ?_ _ | refine blk_drew ?_ | refine blk_alloc ?_ _)); refine blk_put (cs := #[.int .i64 0, .int .i64 0, .int .i64 0]) ?_ 0 _ rfl; (with_reducible repeat (first | refine blk_drewN ?_ _ | refine blk_drew ?_ | refine blk_alloc ?_ _)); exact BK859.out) hb); have n1_ := Aside0.mk (below_step hb_ hb); clear BK859; clear HB; have BK859 := n0_; have HB := n1_; clear n0_ n1_; (try clear hb); (try clear hb2); (try clear hk); (try clear hi)))
  go_loopg [5, 6] k (fun kq v5 v6 w' => ∃ (x5_1 : Bool) (x6_1 : Int), v5 = .bool x5_1 ∧ v6 = .int .i64 x6_1 ∧ Aside0 (laws_FnPerfects.l0 kq t860 x5_1 x6_1 t856 t857 t858 = some r) ∧ Aside0 (kq ≤ k) ∧ Aside0 (w'.heap[gb859]? = some (.cells #[.int .i64 t856, .int .i64 t857, .int .i64 t858] 30 (0, 0))) ∧ Aside0 (Below w.heap.size w w'))
  case atStart => exact ⟨(true), (0), (by first | rfl | (simp; done) | (simp [*]; done)), (by first | rfl | (simp; done) | (simp [*]; done)), H', ⟨Nat.le_refl _⟩, ⟨kb_ BK859.out⟩, ⟨hb_⟩⟩
  case round =>
   clear H'
   try clear c1
   try clear p2
   try clear c3
   try clear hcz8_0
   try clear hcz8_1
   try clear hcz8_2
   try clear hfz8_0
   try clear hfz8_1
   try clear hfz8_2
   obtain ⟨x5_1, x6_1, rfl, rfl, HA, HK1, BK859, HB⟩ := hrel
   cases gk with
   | zero => exact absurd HA.out (by simp [laws_FnPerfects.l0])
   | succ k1 =>
    have H := HA.out
    clear HA
    simp only [laws_FnPerfects.l0] at H
    replace H := Option.bind_eq_some_iff.mp H
    obtain ⟨t861, A100, H⟩ := H
    replace H : (if x6_1 < t861 then ((impl_IsPassage.f t856 t857 t858 x6_1).bind fun t865 => (if t865 = true then (if x5_1 = true then ((impl_IsBridge.f k1 t856 t857 t858 x6_1).bind fun t866 => (laws_FnPerfects.l0 k1 t860 t866 (wrap64 (x6_1 + 1)) t856 t857 t858)) else (laws_FnPerfects.l0 k1 t860 false (wrap64 (x6_1 + 1)) t856 t857 t858)) else (laws_FnPerfects.l0 k1 t860 x5_1 (wrap64 (x6_1 + 1)) t856 t857 t858))) else (if t860 ≥ 0 then ((impl_CountParts.f k1 t856 t857 t858).bind fun t862 => (if t862 ≥ 1 then (if (x5_1 == (t860 == 0)) = true then ((impl_IsPerfect.f k1 t856 t857 t858).bind fun t863 => ((impl_IsConnected.f k1 t856 t857 t858).bind fun t864 => (if t864 = true then (some (t863 == (t860 == 0))) else (some (t863 == false))))) else (some false)) else (some false))) else (some false))) = some r := H
    have A10 := Aside0.mk A100
    clear A100
    by_cases c11 : x6_1 < t861
    ·rw [if_pos c11] at H
     have c11b0 : decide (x6_1 < t861) = true := decide_eq_true c11
     clear c11
     replace H := Option.bind_eq_some_iff.mp H
     obtain ⟨t865, A120, H⟩ := H
     replace H : (if t865 = true then (if x5_1 = true then ((impl_IsBridge.f k1 t856 t857 t858 x6_1).bind fun t866 => (laws_FnPerfects.l0 k1 t860 t866 (wrap64 (x6_1 + 1)) t856 t857 t858)) else (laws_FnPerfects.l0 k1 t860 false (wrap64 (x6_1 + 1)) t856 t857 t858)) else (laws_FnPerfects.l0 k1 t860 x5_1 (wrap64 (x6_1 + 1)) t856 t857 t858)) = some r := H
     have A12 := Aside0.mk A120
     clear A120
     by_cases c13 : t865 = true
     ·subst c13
      have H1 : (if x5_1 = true then ((impl_IsBridge.f k1 t856 t857 t858 x6_1).bind fun t866 => (laws_FnPerfects.l0 k1 t860 t866 (wrap64 (x6_1 + 1)) t856 t857 t858)) else (laws_FnPerfects.l0 k1 t860 false (wrap64 (x6_1 + 1)) t856 t857 t858)) = some r := by rw [if_pos rfl] at H; exact H
      clear H
      have H := H1
      clear H1
      by_cases c14 : x5_1 = true
      ·subst c14
       have H1 : ((impl_IsBridge.f k1 t856 t857 t858 x6_1).bind fun t866 => (laws_FnPerfects.l0 k1 t860 t866 (wrap64 (x6_1 + 1)) t856 t857 t858)) = some r := by rw [if_pos rfl] at H; exact H
       clear H
       have H := H1
       clear H1
       replace H := Option.bind_eq_some_iff.mp H
       obtain ⟨t866, A150, H⟩ := H
       replace H : (laws_FnPerfects.l0 k1 t860 t866 (wrap64 (x6_1 + 1)) t856 t857 t858) = some r := H
       have A15 := Aside0.mk A150
       clear A150
       have H' := Aside0.mk H
       clear H
       have hcz16_0 : wr.cell? ⟨gb859, 0, none⟩ = some (.int .i64 t856) := (blk_cell BK859.out 0).trans rfl
       have hcz16_1 : wr.cell? ⟨gb859, 1, none⟩ = some (.int .i64 t857) := (blk_cell BK859.out 1).trans rfl
       have hcz16_2 : wr.cell? ⟨gb859, 2, none⟩ = some (.int .i64 t858) := (blk_cell BK859.out 2).trans rfl
       have hfz16_0 := blk_frozen BK859.out 0
       have hfz16_1 := blk_frozen BK859.out 1
       have hfz16_2 := blk_frozen BK859.out 2
       go_wp2_with (first | ((with_reducible refine gate_callee (f := 43) rfl ?_); refine goesL_ (some 16) rfl rfl Try.func43 (by kernel_rfl) rfl #[.agg #[.int .i64 t856, .int .i64 t857]] rfl mp_ ?_; (with_reducible refine (spec_CountGaps.calls t856 t857 t861 _ A10.out).mono ?_); rintro e w17 ⟨rfl, hb⟩; refine ⟨_, rfl, ?_⟩; have n0_ := Aside0.mk (blk_below (g := gb859) (o := .cells #[.int .i64 t856, .int .i64 t857, .int .i64 t858] 30 (0, 0)) (kb_ BK859.out) hb); have n1_ := Aside0.mk (below_step hb_ hb); clear BK859; clear HB; have BK859 := n0_; have HB := n1_; clear n0_ n1_; (try clear hb); (try clear hb2); (try clear hk); (try clear hi); have hcz18_0 := cz_ (.int .i64 t856) BK859.out 0; have hcz18_1 := cz_ (.int .i64 t857) BK859.out 1; have hcz18_2 := cz_ (.int .i64 t858) BK859.out 2; have hfz18_0 := blk_frozen BK859.out 0; have hfz18_1 := blk_frozen BK859.out 1; have hfz18_2 := blk_frozen BK859.out 2) | ((with_reducible refine gate_callee (f := 46) rfl ?_); refine goesL_ (some 22) rfl rfl Try.func46 (by kernel_rfl) rfl #[.agg #[.int .i64 t856, .int .i64 t857, .int .i64 t858], .int .i64 x6_1] rfl mp_ ?_; (with_reducible refine (impl_IsPassage.calls t856 t857 t858 x6_1 true _ A12.out).mono ?_); rintro e w19 ⟨rfl, hb⟩; refine ⟨_, rfl, ?_⟩; have n0_ := Aside0.mk (blk_below (g := gb859) (o := .cells #[.int .i64 t856, .int .i64 t857, .int .i64 t858] 30 (0, 0)) (kb_ BK859.out) hb); have n1_ := Aside0.mk (below_step hb_ hb); clear BK859; clear HB; have BK859 := n0_; have HB := n1_; clear n0_ n1_; (try clear hb); (try clear hb2); (try clear hk); (try clear hi); have hcz20_0 := cz_ (.int .i64 t856) BK859.out 0; have hcz20_1 := cz_ (.int .i64 t857) BK859.out 1; have hcz20_2 := cz_ (.int .i64 t858) BK859.out 2; have hfz20_0 := blk_frozen BK859.out 0; have hfz20_1 := blk_frozen BK859.out 1; have hfz20_2 := blk_frozen BK859.out 2) | (go_at_call 64; (with_reducible refine (impl_IsBridge.calls k1 t856 t857 t858 x6_1 t866 _ A15.out).mono ?_); rintro e w21 ⟨rfl, hb⟩; have n0_ := Aside0.mk (blk_below (g := gb859) (o := .cells #[.int .i64 t856, .int .i64 t857, .int .i64 t858] 30 (0, 0)) (kb_ BK859.out) hb); have n1_ := Aside0.mk (below_step hb_ hb); clear BK859; clear HB; have BK859 := n0_; have HB := n1_; clear n0_ n1_; (try clear hb); (try clear hb2); (try clear hk); (try clear hi)))
       go_roundg k1
       case measure => have := HK1.out; omega
       case rel => exact ⟨(t866), (wrap64 (x6_1 + 1)), (by first | rfl | (simp; done) | (simp [*]; done)), (by first | rfl | (simp; done) | (simp [*]; done)), H', ⟨by have := HK1.out; omega⟩, ⟨kb_ BK859.out⟩, ⟨hb_⟩⟩
      ·replace c14 := Bool.eq_false_iff.mpr c14
       subst c14
       have H1 : (laws_FnPerfects.l0 k1 t860 false (wrap64 (x6_1 + 1)) t856 t857 t858) = some r := by rw [if_neg (show ¬ (false = true) by decide)] at H; exact H
       clear H
       have H := H1
       clear H1
       have H' := Aside0.mk H
       clear H
       have hcz22_0 : wr.cell? ⟨gb859, 0, none⟩ = some (.int .i64 t856) := (blk_cell BK859.out 0).trans rfl
       have hcz22_1 : wr.cell? ⟨gb859, 1, none⟩ = some (.int .i64 t857) := (blk_cell BK859.out 1).trans rfl
       have hcz22_2 : wr.cell? ⟨gb859, 2, none⟩ = some (.int .i64 t858) := (blk_cell BK859.out 2).trans rfl
       have hfz22_0 := blk_frozen BK859.out 0
       have hfz22_1 := blk_frozen BK859.out 1
       have hfz22_2 := blk_frozen BK859.out 2
       go_wp2_with (first | ((with_reducible refine gate_callee (f := 43) rfl ?_); refine goesL_ (some 16) rfl rfl Try.func43 (by kernel_rfl) rfl #[.agg #[.int .i64 t856, .int .i64 t857]] rfl mp_ ?_; (with_reducible refine (spec_CountGaps.calls t856 t857 t861 _ A10.out).mono ?_); rintro e w23 ⟨rfl, hb⟩; refine ⟨_, rfl, ?_⟩; have n0_ := Aside0.mk (blk_below (g := gb859) (o := .cells #[.int .i64 t856, .int .i64 t857, .int .i64 t858] 30 (0, 0)) (kb_ BK859.out) hb); have n1_ := Aside0.mk (below_step hb_ hb); clear BK859; clear HB; have BK859 := n0_; have HB := n1_; clear n0_ n1_; (try clear hb); (try clear hb2); (try clear hk); (try clear hi); have hcz24_0 := cz_ (.int .i64 t856) BK859.out 0; have hcz24_1 := cz_ (.int .i64 t857) BK859.out 1; have hcz24_2 := cz_ (.int .i64 t858) BK859.out 2; have hfz24_0 := blk_frozen BK859.out 0; have hfz24_1 := blk_frozen BK859.out 1; have hfz24_2 := blk_frozen BK859.out 2) | ((with_reducible refine gate_callee (f := 46) rfl ?_); refine goesL_ (some 22) rfl rfl Try.func46 (by kernel_rfl) rfl #[.agg #[.int .i64 t856, .int .i64 t857, .int .i64 t858], .int .i64 x6_1] rfl mp_ ?_; (with_reducible refine (impl_IsPassage.calls t856 t857 t858 x6_1 true _ A12.out).mono ?_); rintro e w25 ⟨rfl, hb⟩; refine ⟨_, rfl, ?_⟩; have n0_ := Aside0.mk (blk_below (g := gb859) (o := .cells #[.int .i64 t856, .int .i64 t857, .int .i64 t858] 30 (0, 0)) (kb_ BK859.out) hb); have n1_ := Aside0.mk (below_step hb_ hb); clear BK859; clear HB; have BK859 := n0_; have HB := n1_; clear n0_ n1_; (try clear hb); (try clear hb2); (try clear hk); (try clear hi)))
       go_roundg k1
       case measure => have := HK1.out; omega
       case rel => exact ⟨(false), (wrap64 (x6_1 + 1)), (by first | rfl | (simp; done) | (simp [*]; done)), (by first | rfl | (simp; done) | (simp [*]; done)), H', ⟨by have := HK1.out; omega⟩, ⟨kb_ BK859.out⟩, ⟨hb_⟩⟩
     ·replace c13 := Bool.eq_false_iff.mpr c13
      subst c13
      have H1 : (laws_FnPerfects.l0 k1 t860 x5_1 (wrap64 (x6_1 + 1)) t856 t857 t858) = some r := by rw [if_neg (show ¬ (false = true) by decide)] at H; exact H
      clear H
      have H := H1
      clear H1
      have H' := Aside0.mk H
      clear H
      have hcz26_0 : wr.cell? ⟨gb859, 0, none⟩ = some (.int .i64 t856) := (blk_cell BK859.out 0).trans rfl
      have hcz26_1 : wr.cell? ⟨gb859, 1, none⟩ = some (.int .i64 t857) := (blk_cell BK859.out 1).trans rfl
      have hcz26_2 : wr.cell? ⟨gb859, 2, none⟩ = some (.int .i64 t858) := (blk_cell BK859.out 2).trans rfl
      have hfz26_0 := blk_frozen BK859.out 0
      have hfz26_1 := blk_frozen BK859.out 1
      have hfz26_2 := blk_frozen BK859.out 2
      go_wp2_with (first | ((with_reducible refine gate_callee (f := 43) rfl ?_); refine goesL_ (some 16) rfl rfl Try.func43 (by kernel_rfl) rfl #[.agg #[.int .i64 t856, .int .i64 t857]] rfl mp_ ?_; (with_reducible refine (spec_CountGaps.calls t856 t857 t861 _ A10.out).mono ?_); rintro e w27 ⟨rfl, hb⟩; refine ⟨_, rfl, ?_⟩; have n0_ := Aside0.mk (blk_below (g := gb859) (o := .cells #[.int .i64 t856, .int .i64 t857, .int .i64 t858] 30 (0, 0)) (kb_ BK859.out) hb); have n1_ := Aside0.mk (below_step hb_ hb); clear BK859; clear HB; have BK859 := n0_; have HB := n1_; clear n0_ n1_; (try clear hb); (try clear hb2); (try clear hk); (try clear hi); have hcz28_0 := cz_ (.int .i64 t856) BK859.out 0; have hcz28_1 := cz_ (.int .i64 t857) BK859.out 1; have hcz28_2 := cz_ (.int .i64 t858) BK859.out 2; have hfz28_0 := blk_frozen BK859.out 0; have hfz28_1 := blk_frozen BK859.out 1; have hfz28_2 := blk_frozen BK859.out 2) | ((with_reducible refine gate_callee (f := 46) rfl ?_); refine goesL_ (some 22) rfl rfl Try.func46 (by kernel_rfl) rfl #[.agg #[.int .i64 t856, .int .i64 t857, .int .i64 t858], .int .i64 x6_1] rfl mp_ ?_; (with_reducible refine (impl_IsPassage.calls t856 t857 t858 x6_1 false _ A12.out).mono ?_); rintro e w29 ⟨rfl, hb⟩; refine ⟨_, rfl, ?_⟩; have n0_ := Aside0.mk (blk_below (g := gb859) (o := .cells #[.int .i64 t856, .int .i64 t857, .int .i64 t858] 30 (0, 0)) (kb_ BK859.out) hb); have n1_ := Aside0.mk (below_step hb_ hb); clear BK859; clear HB; have BK859 := n0_; have HB := n1_; clear n0_ n1_; (try clear hb); (try clear hb2); (try clear hk); (try clear hi)))
      go_roundg k1
      case measure => have := HK1.out; omega
      case rel => exact ⟨(x5_1), (wrap64 (x6_1 + 1)), (by first | rfl | (simp; done) | (simp [*]; done)), (by first | rfl | (simp; done) | (simp [*]; done)), H', ⟨by have := HK1.out; omega⟩, ⟨kb_ BK859.out⟩, ⟨hb_⟩⟩
    ·rw [if_neg c11] at H
     have c11b0 : decide (x6_1 < t861) = false := decide_eq_false c11
     clear c11
     by_cases c30 : t860 ≥ 0
     ·rw [if_pos c30] at H
      have c30b0 : decide (0 ≤ t860) = true := decide_eq_true c30
      clear c30
      replace H := Option.bind_eq_some_iff.mp H
      obtain ⟨t862, A310, H⟩ := H
      replace H : (if t862 ≥ 1 then (if (x5_1 == (t860 == 0)) = true then ((impl_IsPerfect.f k1 t856 t857 t858).bind fun t863 => ((impl_IsConnected.f k1 t856 t857 t858).bind fun t864 => (if t864 = true then (some (t863 == (t860 == 0))) else (some (t863 == false))))) else (some false)) else (some false)) = some r := H
      have A31 := Aside0.mk A310
      clear A310
      by_cases c32 : t862 ≥ 1
      ·rw [if_pos c32] at H
       have c32b0 : decide (1 ≤ t862) = true := decide_eq_true c32
       clear c32
       by_cases c33 : (x5_1 == (t860 == 0)) = true
       ·rw [if_pos c33] at H
        have c33b0 : (x5_1 == (t860 == 0)) = true := c33
        (try (have c33b1 : decide (x5_1 = (t860 == 0)) = true := by simpa using c33))
        (try (have c33b2 : (x5_1 == (t860 == 0)) = true := by simpa using c33))
        clear c33
        replace H := Option.bind_eq_some_iff.mp H
        obtain ⟨t863, A340, H⟩ := H
        replace H : ((impl_IsConnected.f k1 t856 t857 t858).bind fun t864 => (if t864 = true then (some (t863 == (t860 == 0))) else (some (t863 == false)))) = some r := H
        have A34 := Aside0.mk A340
        clear A340
        replace H := Option.bind_eq_some_iff.mp H
        obtain ⟨t864, A350, H⟩ := H
        replace H : (if t864 = true then (some (t863 == (t860 == 0))) else (some (t863 == false))) = some r := H
        have A35 := Aside0.mk A350
        clear A350
        by_cases c36 : t864 = true
        ·subst c36
         have H1 : (some (t863 == (t860 == 0))) = some r := by rw [if_pos rfl] at H; exact H
         clear H
         have H := H1
         clear H1
         obtain rfl := Option.some.inj H
         have hcz37_0 : wr.cell? ⟨gb859, 0, none⟩ = some (.int .i64 t856) := (blk_cell BK859.out 0).trans rfl
         have hcz37_1 : wr.cell? ⟨gb859, 1, none⟩ = some (.int .i64 t857) := (blk_cell BK859.out 1).trans rfl
         have hcz37_2 : wr.cell? ⟨gb859, 2, none⟩ = some (.int .i64 t858) := (blk_cell BK859.out 2).trans rfl
         have hfz37_0 := blk_frozen BK859.out 0
         have hfz37_1 := blk_frozen BK859.out 1
         have hfz37_2 := blk_frozen BK859.out 2
         try go_wp2_with (first | ((with_reducible refine gate_callee (f := 43) rfl ?_); refine goesL_ (some 16) rfl rfl Try.func43 (by kernel_rfl) rfl #[.agg #[.int .i64 t856, .int .i64 t857]] rfl mp_ ?_; (with_reducible refine (spec_CountGaps.calls t856 t857 t861 _ A10.out).mono ?_); rintro e w38 ⟨rfl, hb⟩; refine ⟨_, rfl, ?_⟩; have n0_ := Aside0.mk (blk_below (g := gb859) (o := .cells #[.int .i64 t856, .int .i64 t857, .int .i64 t858] 30 (0, 0)) (kb_ BK859.out) hb); have n1_ := Aside0.mk (below_step hb_ hb); clear BK859; clear HB; have BK859 := n0_; have HB := n1_; clear n0_ n1_; (try clear hb); (try clear hb2); (try clear hk); (try clear hi)))
         have n0_ := Aside0.mk (blk_drew BK859.out)
         have n1_ := Aside0.mk (below_drew1 HB.out)
         clear BK859
         clear HB
         have BK859 := n0_
         have HB := n1_
         clear n0_ n1_
         refine start_ (n := 25) (S := fun w' => w'.cell? ⟨gb859, 0, none⟩ = some (.int .i64 t856) ∧ w'.cell? ⟨gb859, 1, none⟩ = some (.int .i64 t857) ∧ w'.cell? ⟨gb859, 2, none⟩ = some (.int .i64 t858)) (ds := []) #[false, false, false, false, false, false, false, false, false, false, false, false, false, false, false, false, false, false, false, false, false, false, false, false, false] (by kernel_rfl) rfl rfl ⟨(blk_cell BK859.out 0).trans rfl, (blk_cell BK859.out 1).trans rfl, (blk_cell BK859.out 2).trans rfl⟩ (fun hHeld => ?_); refine with_tabW laws_FnPerfects.tab11 laws_FnPerfects.bits11 (fun HT_ HW_ => ?_)
         generalize w38.drew = w39 at BK859 HB hHeld ⊢
         refine pure_ (i := 0) (N := some 29) (v := ?_) (a' := ?_) #[true, false, false, false, false, false, false, false, false, false, false, false, false, false, false, false, false, false, false, false, false, false, false, false, false] rfl rfl (any_of HT_.out (by kernel_rfl)) (fun _ _ _ h => h) (Or.inl ⟨by rfl, ?_⟩) ?_ ?_
         rotate_left
         ·intro w'
          go_simp
          with_reducible rfl
         rotate_left
         ·simp only [Act.put, List.setIfInBounds_toArray, List.set_cons_zero, List.set_cons_succ, i64_w, i32_w]
          rfl
         refine pure_ (i := 1) (N := some 30) (v := ?_) (a' := ?_) #[true, true, false, false, false, false, false, false, false, false, false, false, false, false, false, false, false, false, false, false, false, false, false, false, false] rfl rfl (any_of HT_.out (by kernel_rfl)) (fun _ _ _ h => h) (Or.inl ⟨by rfl, ?_⟩) ?_ ?_
         rotate_left
         ·intro w'
          go_simp
          with_reducible rfl
         rotate_left
         ·simp only [Act.put, List.setIfInBounds_toArray, List.set_cons_zero, List.set_cons_succ, i64_w, i32_w]
          rfl
         refine pure_ (i := 2) (N := some 31) (v := ?_) (a' := ?_) #[true, true, true, false, false, false, false, false, false, false, false, false, false, false, false, false, false, false, false, false, false, false, false, false, false] rfl rfl (any_of HT_.out (by kernel_rfl)) (fun _ _ _ h => h) (Or.inl ⟨by rfl, ?_⟩) ?_ ?_
         rotate_left
         ·intro w'
          go_simp
          with_reducible rfl
         rotate_left
         ·simp only [Act.put, List.setIfInBounds_toArray, List.set_cons_zero, List.set_cons_succ, i64_w, i32_w]
          rfl
         refine take_ (i := 3) (N := some 32) (v := ?_) (a' := ?_) #[true, true, true, true, false, false, false, false, false, false, false, false, false, false, false, false, false, false, false, false, false, false, false, false, false] rfl rfl (take_ofW HT_.out HW_.out (by kernel_rfl)) (fun _ _ _ h => h) (Or.inl ⟨by rfl, ?_⟩) hHeld ?_ ?_
         rotate_left
         ·rintro w' ⟨s0, s1, s2⟩
          go_simp
          with_reducible rfl
         rotate_left
         ·simp only [Act.put, List.setIfInBounds_toArray, List.set_cons_zero, List.set_cons_succ, i64_w, i32_w]
          rfl
         refine one_ (i := 4) (N := some 33) #[true, true, true, true, true, false, false, false, false, false, false, false, false, false, false, false, false, false, false, false, false, false, false, false, false] rfl rfl (one_of HT_.out (by kernel_rfl)) (by decide) (fun K hK => ?_)
         refine goes_ Try.func53 (by kernel_rfl) rfl #[.agg #[.int .i64 t856, .int .i64 t857, .int .i64 t858]] (by rfl) rfl rfl mp_ ?_
         with_reducible refine (impl_CountParts.calls k1 t856 t857 t858 t862 _ A31.out).mono ?_
         rintro e w40 ⟨rfl, hb⟩
         refine ⟨_, rfl, ?_⟩
         have n0_ := Aside0.mk (blk_below (g := gb859) (o := .cells #[.int .i64 t856, .int .i64 t857, .int .i64 t858] 30 (0, 0)) (kb_ BK859.out) hb)
         have n1_ := Aside0.mk (below_step hb_ hb)
         clear BK859
         clear HB
         have BK859 := n0_
         have HB := n1_
         clear n0_ n1_
         (try clear hb)
         (try clear hb2)
         (try clear hk)
         (try clear hi)
         refine hK.out _ _ ⟨(blk_cell BK859.out 0).trans rfl, (blk_cell BK859.out 1).trans rfl, (blk_cell BK859.out 2).trans rfl⟩ (fun hHeld => ?_)
         clear hK K
         refine norm_ (a' := ?_) ?_ ?_
         rotate_left
         ·show Act.put _ (some 33) _ = _
          simp only [Act.put, List.setIfInBounds_toArray, List.set_cons_zero, List.set_cons_succ, i64_w, i32_w]
          rfl
         refine pure_ (i := 5) (N := some 34) (v := ?_) (a' := ?_) #[true, true, true, true, true, true, false, false, false, false, false, false, false, false, false, false, false, false, false, false, false, false, false, false, false] rfl rfl (any_of HT_.out (by kernel_rfl)) (fun _ _ _ h => h) (Or.inl ⟨by rfl, ?_⟩) ?_ ?_
         rotate_left
         ·intro w'
          go_simp
          with_reducible rfl
         rotate_left
         ·simp only [Act.put, List.setIfInBounds_toArray, List.set_cons_zero, List.set_cons_succ, i64_w, i32_w]
          rfl
         refine pure_ (i := 6) (N := some 35) (v := ?_) (a' := ?_) #[true, true, true, true, true, true, true, false, false, false, false, false, false, false, false, false, false, false, false, false, false, false, false, false, false] rfl rfl (any_of HT_.out (by kernel_rfl)) (fun _ _ _ h => h) (Or.inl ⟨by rfl, ?_⟩) ?_ ?_
         rotate_left
         ·intro w'
          go_simp
          with_reducible rfl
         rotate_left
         ·simp only [Act.put, List.setIfInBounds_toArray, List.set_cons_zero, List.set_cons_succ, i64_w, i32_w]
          rfl
         refine pure_ (i := 7) (N := some 36) (v := ?_) (a' := ?_) #[true, true, true, true, true, true, true, true, false, false, false, false, false, false, false, false, false, false, false, false, false, false, false, false, false] rfl rfl (any_of HT_.out (by kernel_rfl)) (fun _ _ _ h => h) (Or.inl ⟨by rfl, ?_⟩) ?_ ?_
         rotate_left
         ·intro w'
          go_simp
          with_reducible rfl
         rotate_left
         ·simp only [Act.put, List.setIfInBounds_toArray, List.set_cons_zero, List.set_cons_succ, i64_w, i32_w]
          rfl
         refine pure_ (i := 8) (N := some 37) (v := ?_) (a' := ?_) #[true, true, true, true, true, true, true, true, true, false, false, false, false, false, false, false, false, false, false, false, false, false, false, false, false] rfl rfl (any_of HT_.out (by kernel_rfl)) (fun _ _ _ h => h) (Or.inl ⟨by rfl, ?_⟩) ?_ ?_
         rotate_left
         ·intro w'
          go_simp
          with_reducible rfl
         rotate_left
         ·simp only [Act.put, List.setIfInBounds_toArray, List.set_cons_zero, List.set_cons_succ, i64_w, i32_w]
          rfl
         refine pure_ (i := 9) (N := some 38) (v := ?_) (a' := ?_) #[true, true, true, true, true, true, true, true, true, true, false, false, false, false, false, false, false, false, false, false, false, false, false, false, false] rfl rfl (any_of HT_.out (by kernel_rfl)) (fun _ _ _ h => h) (Or.inl ⟨by rfl, ?_⟩) ?_ ?_
         rotate_left
         ·intro w'
          go_simp
          with_reducible rfl
         rotate_left
         ·simp only [Act.put, List.setIfInBounds_toArray, List.set_cons_zero, List.set_cons_succ, i64_w, i32_w]
          rfl
         refine pure_ (i := 10) (N := some 39) (v := ?_) (a' := ?_) #[true, true, true, true, true, true, true, true, true, true, true, false, false, false, false, false, false, false, false, false, false, false, false, false, false] rfl rfl (any_of HT_.out (by kernel_rfl)) (fun _ _ _ h => h) (Or.inl ⟨by rfl, ?_⟩) ?_ ?_
         rotate_left
         ·intro w'
          go_simp
          with_reducible rfl
         rotate_left
         ·simp only [Act.put, List.setIfInBounds_toArray, List.set_cons_zero, List.set_cons_succ, i64_w, i32_w]
          rfl
         refine pure_ (i := 11) (N := some 40) (v := ?_) (a' := ?_) #[true, true, true, true, true, true, true, true, true, true, true, true, false, false, false, false, false, false, false, false, false, false, false, false, false] rfl rfl (any_of HT_.out (by kernel_rfl)) (fun _ _ _ h => h) (Or.inl ⟨by rfl, ?_⟩) ?_ ?_
         rotate_left
         ·intro w'
          go_simp
          with_reducible rfl
         rotate_left
         ·simp only [Act.put, List.setIfInBounds_toArray, List.set_cons_zero, List.set_cons_succ, i64_w, i32_w]
          rfl
         refine pure_ (i := 12) (N := some 41) (v := ?_) (a' := ?_) #[true, true, true, true, true, true, true, true, true, true, true, true, true, false, false, false, false, false, false, false, false, false, false, false, false] rfl rfl (any_of HT_.out (by kernel_rfl)) (fun _ _ _ h => h) (Or.inl ⟨by rfl, ?_⟩) ?_ ?_
         rotate_left
         ·intro w'
          go_simp
          with_reducible rfl
         rotate_left
         ·simp only [Act.put, List.setIfInBounds_toArray, List.set_cons_zero, List.set_cons_succ, i64_w, i32_w]
          rfl
         refine pure_ (i := 13) (N := some 42) (v := ?_) (a' := ?_) #[true, true, true, true, true, true, true, true, true, true, true, true, true, true, false, false, false, false, false, false, false, false, false, false, false] rfl rfl (any_of HT_.out (by kernel_rfl)) (fun _ _ _ h => h) (Or.inl ⟨by rfl, ?_⟩) ?_ ?_
         rotate_left
         ·intro w'
          go_simp
          with_reducible rfl
         rotate_left
         ·simp only [Act.put, List.setIfInBounds_toArray, List.set_cons_zero, List.set_cons_succ, i64_w, i32_w]
          rfl
         refine take_ (i := 14) (N := some 43) (v := ?_) (a' := ?_) #[true, true, true, true, true, true, true, true, true, true, true, true, true, true, true, false, false, false, false, false, false, false, false, false, false] rfl rfl (take_ofW HT_.out HW_.out (by kernel_rfl)) (fun _ _ _ h => h) (Or.inl ⟨by rfl, ?_⟩) hHeld ?_ ?_
         rotate_left
         ·rintro w' ⟨s0, s1, s2⟩
          go_simp
          with_reducible rfl
         rotate_left
         ·simp only [Act.put, List.setIfInBounds_toArray, List.set_cons_zero, List.set_cons_succ, i64_w, i32_w]
          rfl
         refine take_ (i := 16) (N := some 45) (v := ?_) (a' := ?_) #[true, true, true, true, true, true, true, true, true, true, true, true, true, true, true, false, true, false, false, false, false, false, false, false, false] rfl rfl (take_ofW HT_.out HW_.out (by kernel_rfl)) (fun _ _ _ h => h) (Or.inl ⟨by rfl, ?_⟩) hHeld ?_ ?_
         rotate_left
         ·rintro w' ⟨s0, s1, s2⟩
          go_simp
          with_reducible rfl
         rotate_left
         ·simp only [Act.put, List.setIfInBounds_toArray, List.set_cons_zero, List.set_cons_succ, i64_w, i32_w]
          rfl
         refine one_ (i := 15) (N := some 44) #[true, true, true, true, true, true, true, true, true, true, true, true, true, true, true, true, true, false, false, false, false, false, false, false, false] rfl rfl (one_of HT_.out (by kernel_rfl)) (by decide) (fun K hK => ?_)
         refine goes_ Try.func32 (by kernel_rfl) rfl #[.agg #[.int .i64 t856, .int .i64 t857, .int .i64 t858]] (by rfl) rfl rfl mp_ ?_
         with_reducible refine (impl_IsPerfect.calls k1 t856 t857 t858 t863 _ A34.out).mono ?_
         rintro e w41 ⟨rfl, hb⟩
         refine ⟨_, rfl, ?_⟩
         have n0_ := Aside0.mk (blk_below (g := gb859) (o := .cells #[.int .i64 t856, .int .i64 t857, .int .i64 t858] 30 (0, 0)) (kb_ BK859.out) hb)
         have n1_ := Aside0.mk (below_step hb_ hb)
         clear BK859
         clear HB
         have BK859 := n0_
         have HB := n1_
         clear n0_ n1_
         (try clear hb)
         (try clear hb2)
         (try clear hk)
         (try clear hi)
         refine hK.out _ _ ⟨(blk_cell BK859.out 0).trans rfl, (blk_cell BK859.out 1).trans rfl, (blk_cell BK859.out 2).trans rfl⟩ (fun hHeld => ?_)
         clear hK K
         refine norm_ (a' := ?_) ?_ ?_
         rotate_left
         ·show Act.put _ (some 44) _ = _
          simp only [Act.put, List.setIfInBounds_toArray, List.set_cons_zero, List.set_cons_succ, i64_w, i32_w]
          rfl
         refine one_ (i := 17) (N := some 46) #[true, true, true, true, true, true, true, true, true, true, true, true, true, true, true, true, true, true, false, false, false, false, false, false, false] rfl rfl (one_of HT_.out (by kernel_rfl)) (by decide) (fun K hK => ?_)
         refine goes_ Try.func56 (by kernel_rfl) rfl #[.agg #[.int .i64 t856, .int .i64 t857, .int .i64 t858]] (by rfl) rfl rfl mp_ ?_
         with_reducible refine (impl_IsConnected.calls k1 t856 t857 t858 true _ A35.out).mono ?_
         rintro e w42 ⟨rfl, hb⟩
         refine ⟨_, rfl, ?_⟩
         have n0_ := Aside0.mk (blk_below (g := gb859) (o := .cells #[.int .i64 t856, .int .i64 t857, .int .i64 t858] 30 (0, 0)) (kb_ BK859.out) hb)
         have n1_ := Aside0.mk (below_step hb_ hb)
         clear BK859
         clear HB
         have BK859 := n0_
         have HB := n1_
         clear n0_ n1_
         (try clear hb)
         (try clear hb2)
         (try clear hk)
         (try clear hi)
         refine hK.out _ _ ⟨(blk_cell BK859.out 0).trans rfl, (blk_cell BK859.out 1).trans rfl, (blk_cell BK859.out 2).trans rfl⟩ (fun hHeld => ?_)
         clear hK K
         refine norm_ (a' := ?_) ?_ ?_
         rotate_left
         ·show Act.put _ (some 46) _ = _
          simp only [Act.put, List.setIfInBounds_toArray, List.set_cons_zero, List.set_cons_succ, i64_w, i32_w]
          rfl
         refine pure_ (i := 18) (N := some 47) (v := ?_) (a' := ?_) #[true, true, true, true, true, true, true, true, true, true, true, true, true, true, true, true, true, true, true, false, false, false, false, false, false] rfl rfl (any_of HT_.out (by kernel_rfl)) (fun _ _ _ h => h) (Or.inl ⟨by rfl, ?_⟩) ?_ ?_
         rotate_left
         ·intro w'
          go_simp
          with_reducible rfl
         rotate_left
         ·simp only [Act.put, List.setIfInBounds_toArray, List.set_cons_zero, List.set_cons_succ, i64_w, i32_w]
          rfl
         refine pure_ (i := 19) (N := some 48) (v := ?_) (a' := ?_) #[true, true, true, true, true, true, true, true, true, true, true, true, true, true, true, true, true, true, true, true, false, false, false, false, false] rfl rfl (any_of HT_.out (by kernel_rfl)) (fun _ _ _ h => h) (Or.inl ⟨by rfl, ?_⟩) ?_ ?_
         rotate_left
         ·intro w'
          go_simp
          with_reducible rfl
         rotate_left
         ·simp only [Act.put, List.setIfInBounds_toArray, List.set_cons_zero, List.set_cons_succ, i64_w, i32_w]
          rfl
         refine pure_ (i := 20) (N := some 49) (v := ?_) (a' := ?_) #[true, true, true, true, true, true, true, true, true, true, true, true, true, true, true, true, true, true, true, true, true, false, false, false, false] rfl rfl (any_of HT_.out (by kernel_rfl)) (fun _ _ _ h => h) (Or.inl ⟨by rfl, ?_⟩) ?_ ?_
         rotate_left
         ·intro w'
          go_simp
          with_reducible rfl
         rotate_left
         ·simp only [Act.put, List.setIfInBounds_toArray, List.set_cons_zero, List.set_cons_succ, i64_w, i32_w]
          rfl
         refine pure_ (i := 21) (N := some 50) (v := ?_) (a' := ?_) #[true, true, true, true, true, true, true, true, true, true, true, true, true, true, true, true, true, true, true, true, true, true, false, false, false] rfl rfl (any_of HT_.out (by kernel_rfl)) (fun _ _ _ h => h) (Or.inl ⟨by rfl, ?_⟩) ?_ ?_
         rotate_left
         ·intro w'
          go_simp
          with_reducible rfl
         rotate_left
         ·simp only [Act.put, List.setIfInBounds_toArray, List.set_cons_zero, List.set_cons_succ, i64_w, i32_w]
          rfl
         refine pure_ (i := 22) (N := some 51) (v := ?_) (a' := ?_) #[true, true, true, true, true, true, true, true, true, true, true, true, true, true, true, true, true, true, true, true, true, true, true, false, false] rfl rfl (any_of HT_.out (by kernel_rfl)) (fun _ _ _ h => h) (Or.inl ⟨by rfl, ?_⟩) ?_ ?_
         rotate_left
         ·intro w'
          go_simp
          with_reducible rfl
         rotate_left
         ·simp only [Act.put, List.setIfInBounds_toArray, List.set_cons_zero, List.set_cons_succ, i64_w, i32_w]
          rfl
         refine pure_ (i := 23) (N := some 52) (v := ?_) (a' := ?_) #[true, true, true, true, true, true, true, true, true, true, true, true, true, true, true, true, true, true, true, true, true, true, true, true, false] rfl rfl (any_of HT_.out (by kernel_rfl)) (fun _ _ _ h => h) (Or.inl ⟨by rfl, ?_⟩) ?_ ?_
         rotate_left
         ·intro w'
          go_simp
          with_reducible rfl
         rotate_left
         ·simp only [Act.put, List.setIfInBounds_toArray, List.set_cons_zero, List.set_cons_succ, i64_w, i32_w]
          rfl
         refine pure_ (i := 24) (N := some 2) (v := ?_) (a' := ?_) #[true, true, true, true, true, true, true, true, true, true, true, true, true, true, true, true, true, true, true, true, true, true, true, true, true] rfl rfl (any_of HT_.out (by kernel_rfl)) (fun _ _ _ h => h) (Or.inl ⟨by rfl, ?_⟩) ?_ ?_
         rotate_left
         ·intro w'
          go_simp
          with_reducible rfl
         rotate_left
         ·simp only [Act.put, List.setIfInBounds_toArray, List.set_cons_zero, List.set_cons_succ, i64_w, i32_w]
          rfl
         refine done_ (done_of HT_.out (by kernel_rfl)) ?_
         try go_wp2
         go_ret
         exact ⟨er_, hb_⟩
        ·replace c36 := Bool.eq_false_iff.mpr c36
         subst c36
         have H1 : (some (t863 == false)) = some r := by rw [if_neg (show ¬ (false = true) by decide)] at H; exact H
         clear H
         have H := H1
         clear H1
         obtain rfl := Option.some.inj H
         have hcz43_0 : wr.cell? ⟨gb859, 0, none⟩ = some (.int .i64 t856) := (blk_cell BK859.out 0).trans rfl
         have hcz43_1 : wr.cell? ⟨gb859, 1, none⟩ = some (.int .i64 t857) := (blk_cell BK859.out 1).trans rfl
         have hcz43_2 : wr.cell? ⟨gb859, 2, none⟩ = some (.int .i64 t858) := (blk_cell BK859.out 2).trans rfl
         have hfz43_0 := blk_frozen BK859.out 0
         have hfz43_1 := blk_frozen BK859.out 1
         have hfz43_2 := blk_frozen BK859.out 2
         try go_wp2_with (first | ((with_reducible refine gate_callee (f := 43) rfl ?_); refine goesL_ (some 16) rfl rfl Try.func43 (by kernel_rfl) rfl #[.agg #[.int .i64 t856, .int .i64 t857]] rfl mp_ ?_; (with_reducible refine (spec_CountGaps.calls t856 t857 t861 _ A10.out).mono ?_); rintro e w44 ⟨rfl, hb⟩; refine ⟨_, rfl, ?_⟩; have n0_ := Aside0.mk (blk_below (g := gb859) (o := .cells #[.int .i64 t856, .int .i64 t857, .int .i64 t858] 30 (0, 0)) (kb_ BK859.out) hb); have n1_ := Aside0.mk (below_step hb_ hb); clear BK859; clear HB; have BK859 := n0_; have HB := n1_; clear n0_ n1_; (try clear hb); (try clear hb2); (try clear hk); (try clear hi)))
         have n0_ := Aside0.mk (blk_drew BK859.out)
         have n1_ := Aside0.mk (below_drew1 HB.out)
         clear BK859
         clear HB
         have BK859 := n0_
         have HB := n1_
         clear n0_ n1_
         refine start_ (n := 25) (S := fun w' => w'.cell? ⟨gb859, 0, none⟩ = some (.int .i64 t856) ∧ w'.cell? ⟨gb859, 1, none⟩ = some (.int .i64 t857) ∧ w'.cell? ⟨gb859, 2, none⟩ = some (.int .i64 t858)) (ds := []) #[false, false, false, false, false, false, false, false, false, false, false, false, false, false, false, false, false, false, false, false, false, false, false, false, false] (by kernel_rfl) rfl rfl ⟨(blk_cell BK859.out 0).trans rfl, (blk_cell BK859.out 1).trans rfl, (blk_cell BK859.out 2).trans rfl⟩ (fun hHeld => ?_); refine with_tabW laws_FnPerfects.tab11 laws_FnPerfects.bits11 (fun HT_ HW_ => ?_)
         generalize w44.drew = w45 at BK859 HB hHeld ⊢
         refine pure_ (i := 0) (N := some 29) (v := ?_) (a' := ?_) #[true, false, false, false, false, false, false, false, false, false, false, false, false, false, false, false, false, false, false, false, false, false, false, false, false] rfl rfl (any_of HT_.out (by kernel_rfl)) (fun _ _ _ h => h) (Or.inl ⟨by rfl, ?_⟩) ?_ ?_
         rotate_left
         ·intro w'
          go_simp
          with_reducible rfl
         rotate_left
         ·simp only [Act.put, List.setIfInBounds_toArray, List.set_cons_zero, List.set_cons_succ, i64_w, i32_w]
          rfl
         refine pure_ (i := 1) (N := some 30) (v := ?_) (a' := ?_) #[true, true, false, false, false, false, false, false, false, false, false, false, false, false, false, false, false, false, false, false, false, false, false, false, false] rfl rfl (any_of HT_.out (by kernel_rfl)) (fun _ _ _ h => h) (Or.inl ⟨by rfl, ?_⟩) ?_ ?_
         rotate_left
         ·intro w'
          go_simp
          with_reducible rfl
         rotate_left
         ·simp only [Act.put, List.setIfInBounds_toArray, List.set_cons_zero, List.set_cons_succ, i64_w, i32_w]
          rfl
         refine pure_ (i := 2) (N := some 31) (v := ?_) (a' := ?_) #[true, true, true, false, false, false, false, false, false, false, false, false, false, false, false, false, false, false, false, false, false, false, false, false, false] rfl rfl (any_of HT_.out (by kernel_rfl)) (fun _ _ _ h => h) (Or.inl ⟨by rfl, ?_⟩) ?_ ?_
         rotate_left
         ·intro w'
          go_simp
          with_reducible rfl
         rotate_left
         ·simp only [Act.put, List.setIfInBounds_toArray, List.set_cons_zero, List.set_cons_succ, i64_w, i32_w]
          rfl
         refine take_ (i := 3) (N := some 32) (v := ?_) (a' := ?_) #[true, true, true, true, false, false, false, false, false, false, false, false, false, false, false, false, false, false, false, false, false, false, false, false, false] rfl rfl (take_ofW HT_.out HW_.out (by kernel_rfl)) (fun _ _ _ h => h) (Or.inl ⟨by rfl, ?_⟩) hHeld ?_ ?_
         rotate_left
         ·rintro w' ⟨s0, s1, s2⟩
          go_simp
          with_reducible rfl
         rotate_left
         ·simp only [Act.put, List.setIfInBounds_toArray, List.set_cons_zero, List.set_cons_succ, i64_w, i32_w]
          rfl
         refine one_ (i := 4) (N := some 33) #[true, true, true, true, true, false, false, false, false, false, false, false, false, false, false, false, false, false, false, false, false, false, false, false, false] rfl rfl (one_of HT_.out (by kernel_rfl)) (by decide) (fun K hK => ?_)
         refine goes_ Try.func53 (by kernel_rfl) rfl #[.agg #[.int .i64 t856, .int .i64 t857, .int .i64 t858]] (by rfl) rfl rfl mp_ ?_
         with_reducible refine (impl_CountParts.calls k1 t856 t857 t858 t862 _ A31.out).mono ?_
         rintro e w46 ⟨rfl, hb⟩
         refine ⟨_, rfl, ?_⟩
         have n0_ := Aside0.mk (blk_below (g := gb859) (o := .cells #[.int .i64 t856, .int .i64 t857, .int .i64 t858] 30 (0, 0)) (kb_ BK859.out) hb)
         have n1_ := Aside0.mk (below_step hb_ hb)
         clear BK859
         clear HB
         have BK859 := n0_
         have HB := n1_
         clear n0_ n1_
         (try clear hb)
         (try clear hb2)
         (try clear hk)
         (try clear hi)
         refine hK.out _ _ ⟨(blk_cell BK859.out 0).trans rfl, (blk_cell BK859.out 1).trans rfl, (blk_cell BK859.out 2).trans rfl⟩ (fun hHeld => ?_)
         clear hK K
         refine norm_ (a' := ?_) ?_ ?_
         rotate_left
         ·show Act.put _ (some 33) _ = _
          simp only [Act.put, List.setIfInBounds_toArray, List.set_cons_zero, List.set_cons_succ, i64_w, i32_w]
          rfl
         refine pure_ (i := 5) (N := some 34) (v := ?_) (a' := ?_) #[true, true, true, true, true, true, false, false, false, false, false, false, false, false, false, false, false, false, false, false, false, false, false, false, false] rfl rfl (any_of HT_.out (by kernel_rfl)) (fun _ _ _ h => h) (Or.inl ⟨by rfl, ?_⟩) ?_ ?_
         rotate_left
         ·intro w'
          go_simp
          with_reducible rfl
         rotate_left
         ·simp only [Act.put, List.setIfInBounds_toArray, List.set_cons_zero, List.set_cons_succ, i64_w, i32_w]
          rfl
         refine pure_ (i := 6) (N := some 35) (v := ?_) (a' := ?_) #[true, true, true, true, true, true, true, false, false, false, false, false, false, false, false, false, false, false, false, false, false, false, false, false, false] rfl rfl (any_of HT_.out (by kernel_rfl)) (fun _ _ _ h => h) (Or.inl ⟨by rfl, ?_⟩) ?_ ?_
         rotate_left
         ·intro w'
          go_simp
          with_reducible rfl
         rotate_left
         ·simp only [Act.put, List.setIfInBounds_toArray, List.set_cons_zero, List.set_cons_succ, i64_w, i32_w]
          rfl
         refine pure_ (i := 7) (N := some 36) (v := ?_) (a' := ?_) #[true, true, true, true, true, true, true, true, false, false, false, false, false, false, false, false, false, false, false, false, false, false, false, false, false] rfl rfl (any_of HT_.out (by kernel_rfl)) (fun _ _ _ h => h) (Or.inl ⟨by rfl, ?_⟩) ?_ ?_
         rotate_left
         ·intro w'
          go_simp
          with_reducible rfl
         rotate_left
         ·simp only [Act.put, List.setIfInBounds_toArray, List.set_cons_zero, List.set_cons_succ, i64_w, i32_w]
          rfl
         refine pure_ (i := 8) (N := some 37) (v := ?_) (a' := ?_) #[true, true, true, true, true, true, true, true, true, false, false, false, false, false, false, false, false, false, false, false, false, false, false, false, false] rfl rfl (any_of HT_.out (by kernel_rfl)) (fun _ _ _ h => h) (Or.inl ⟨by rfl, ?_⟩) ?_ ?_
         rotate_left
         ·intro w'
          go_simp
          with_reducible rfl
         rotate_left
         ·simp only [Act.put, List.setIfInBounds_toArray, List.set_cons_zero, List.set_cons_succ, i64_w, i32_w]
          rfl
         refine pure_ (i := 9) (N := some 38) (v := ?_) (a' := ?_) #[true, true, true, true, true, true, true, true, true, true, false, false, false, false, false, false, false, false, false, false, false, false, false, false, false] rfl rfl (any_of HT_.out (by kernel_rfl)) (fun _ _ _ h => h) (Or.inl ⟨by rfl, ?_⟩) ?_ ?_
         rotate_left
         ·intro w'
          go_simp
          with_reducible rfl
         rotate_left
         ·simp only [Act.put, List.setIfInBounds_toArray, List.set_cons_zero, List.set_cons_succ, i64_w, i32_w]
          rfl
         refine pure_ (i := 10) (N := some 39) (v := ?_) (a' := ?_) #[true, true, true, true, true, true, true, true, true, true, true, false, false, false, false, false, false, false, false, false, false, false, false, false, false] rfl rfl (any_of HT_.out (by kernel_rfl)) (fun _ _ _ h => h) (Or.inl ⟨by rfl, ?_⟩) ?_ ?_
         rotate_left
         ·intro w'
          go_simp
          with_reducible rfl
         rotate_left
         ·simp only [Act.put, List.setIfInBounds_toArray, List.set_cons_zero, List.set_cons_succ, i64_w, i32_w]
          rfl
         refine pure_ (i := 11) (N := some 40) (v := ?_) (a' := ?_) #[true, true, true, true, true, true, true, true, true, true, true, true, false, false, false, false, false, false, false, false, false, false, false, false, false] rfl rfl (any_of HT_.out (by kernel_rfl)) (fun _ _ _ h => h) (Or.inl ⟨by rfl, ?_⟩) ?_ ?_
         rotate_left
         ·intro w'
          go_simp
          with_reducible rfl
         rotate_left
         ·simp only [Act.put, List.setIfInBounds_toArray, List.set_cons_zero, List.set_cons_succ, i64_w, i32_w]
          rfl
         refine pure_ (i := 12) (N := some 41) (v := ?_) (a' := ?_) #[true, true, true, true, true, true, true, true, true, true, true, true, true, false, false, false, false, false, false, false, false, false, false, false, false] rfl rfl (any_of HT_.out (by kernel_rfl)) (fun _ _ _ h => h) (Or.inl ⟨by rfl, ?_⟩) ?_ ?_
         rotate_left
         ·intro w'
          go_simp
          with_reducible rfl
         rotate_left
         ·simp only [Act.put, List.setIfInBounds_toArray, List.set_cons_zero, List.set_cons_succ, i64_w, i32_w]
          rfl
         refine pure_ (i := 13) (N := some 42) (v := ?_) (a' := ?_) #[true, true, true, true, true, true, true, true, true, true, true, true, true, true, false, false, false, false, false, false, false, false, false, false, false] rfl rfl (any_of HT_.out (by kernel_rfl)) (fun _ _ _ h => h) (Or.inl ⟨by rfl, ?_⟩) ?_ ?_
         rotate_left
         ·intro w'
          go_simp
          with_reducible rfl
         rotate_left
         ·simp only [Act.put, List.setIfInBounds_toArray, List.set_cons_zero, List.set_cons_succ, i64_w, i32_w]
          rfl
         refine take_ (i := 14) (N := some 43) (v := ?_) (a' := ?_) #[true, true, true, true, true, true, true, true, true, true, true, true, true, true, true, false, false, false, false, false, false, false, false, false, false] rfl rfl (take_ofW HT_.out HW_.out (by kernel_rfl)) (fun _ _ _ h => h) (Or.inl ⟨by rfl, ?_⟩) hHeld ?_ ?_
         rotate_left
         ·rintro w' ⟨s0, s1, s2⟩
          go_simp
          with_reducible rfl
         rotate_left
         ·simp only [Act.put, List.setIfInBounds_toArray, List.set_cons_zero, List.set_cons_succ, i64_w, i32_w]
          rfl
         refine take_ (i := 16) (N := some 45) (v := ?_) (a' := ?_) #[true, true, true, true, true, true, true, true, true, true, true, true, true, true, true, false, true, false, false, false, false, false, false, false, false] rfl rfl (take_ofW HT_.out HW_.out (by kernel_rfl)) (fun _ _ _ h => h) (Or.inl ⟨by rfl, ?_⟩) hHeld ?_ ?_
         rotate_left
         ·rintro w' ⟨s0, s1, s2⟩
          go_simp
          with_reducible rfl
         rotate_left
         ·simp only [Act.put, List.setIfInBounds_toArray, List.set_cons_zero, List.set_cons_succ, i64_w, i32_w]
          rfl
         refine one_ (i := 15) (N := some 44) #[true, true, true, true, true, true, true, true, true, true, true, true, true, true, true, true, true, false, false, false, false, false, false, false, false] rfl rfl (one_of HT_.out (by kernel_rfl)) (by decide) (fun K hK => ?_)
         refine goes_ Try.func32 (by kernel_rfl) rfl #[.agg #[.int .i64 t856, .int .i64 t857, .int .i64 t858]] (by rfl) rfl rfl mp_ ?_
         with_reducible refine (impl_IsPerfect.calls k1 t856 t857 t858 t863 _ A34.out).mono ?_
         rintro e w47 ⟨rfl, hb⟩
         refine ⟨_, rfl, ?_⟩
         have n0_ := Aside0.mk (blk_below (g := gb859) (o := .cells #[.int .i64 t856, .int .i64 t857, .int .i64 t858] 30 (0, 0)) (kb_ BK859.out) hb)
         have n1_ := Aside0.mk (below_step hb_ hb)
         clear BK859
         clear HB
         have BK859 := n0_
         have HB := n1_
         clear n0_ n1_
         (try clear hb)
         (try clear hb2)
         (try clear hk)
         (try clear hi)
         refine hK.out _ _ ⟨(blk_cell BK859.out 0).trans rfl, (blk_cell BK859.out 1).trans rfl, (blk_cell BK859.out 2).trans rfl⟩ (fun hHeld => ?_)
         clear hK K
         refine norm_ (a' := ?_) ?_ ?_
         rotate_left
         ·show Act.put _ (some 44) _ = _
          simp only [Act.put, List.setIfInBounds_toArray, List.set_cons_zero, List.set_cons_succ, i64_w, i32_w]
          rfl
         refine one_ (i := 17) (N := some 46) #[true, true, true, true, true, true, true, true, true, true, true, true, true, true, true, true, true, true, false, false, false, false, false, false, false] rfl rfl (one_of HT_.out (by kernel_rfl)) (by decide) (fun K hK => ?_)
         refine goes_ Try.func56 (by kernel_rfl) rfl #[.agg #[.int .i64 t856, .int .i64 t857, .int .i64 t858]] (by rfl) rfl rfl mp_ ?_
         with_reducible refine (impl_IsConnected.calls k1 t856 t857 t858 false _ A35.out).mono ?_
         rintro e w48 ⟨rfl, hb⟩
         refine ⟨_, rfl, ?_⟩
         have n0_ := Aside0.mk (blk_below (g := gb859) (o := .cells #[.int .i64 t856, .int .i64 t857, .int .i64 t858] 30 (0, 0)) (kb_ BK859.out) hb)
         have n1_ := Aside0.mk (below_step hb_ hb)
         clear BK859
         clear HB
         have BK859 := n0_
         have HB := n1_
         clear n0_ n1_
         (try clear hb)
         (try clear hb2)
         (try clear hk)
         (try clear hi)
         refine hK.out _ _ ⟨(blk_cell BK859.out 0).trans rfl, (blk_cell BK859.out 1).trans rfl, (blk_cell BK859.out 2).trans rfl⟩ (fun hHeld => ?_)
         clear hK K
         refine norm_ (a' := ?_) ?_ ?_
         rotate_left
         ·show Act.put _ (some 46) _ = _
          simp only [Act.put, List.setIfInBounds_toArray, List.set_cons_zero, List.set_cons_succ, i64_w, i32_w]
          rfl
         refine pure_ (i := 18) (N := some 47) (v := ?_) (a' := ?_) #[true, true, true, true, true, true, true, true, true, true, true, true, true, true, true, true, true, true, true, false, false, false, false, false, false] rfl rfl (any_of HT_.out (by kernel_rfl)) (fun _ _ _ h => h) (Or.inl ⟨by rfl, ?_⟩) ?_ ?_
         rotate_left
         ·intro w'
          go_simp
          with_reducible rfl
         rotate_left
         ·simp only [Act.put, List.setIfInBounds_toArray, List.set_cons_zero, List.set_cons_succ, i64_w, i32_w]
          rfl
         refine pure_ (i := 19) (N := some 48) (v := undef) (a' := ?_) #[true, true, true, true, true, true, true, true, true, true, true, true, true, true, true, true, true, true, true, true, false, false, false, false, false] rfl rfl (any_of HT_.out (by kernel_rfl)) (fun _ _ _ h => h) (Or.inr ⟨by rfl, rfl⟩) ?_ ?_
         rotate_left
         ·simp only [Act.put, List.setIfInBounds_toArray, List.set_cons_zero, List.set_cons_succ, i64_w, i32_w]
          rfl
         refine pure_ (i := 20) (N := some 49) (v := undef) (a' := ?_) #[true, true, true, true, true, true, true, true, true, true, true, true, true, true, true, true, true, true, true, true, true, false, false, false, false] rfl rfl (any_of HT_.out (by kernel_rfl)) (fun _ _ _ h => h) (Or.inr ⟨by rfl, rfl⟩) ?_ ?_
         rotate_left
         ·simp only [Act.put, List.setIfInBounds_toArray, List.set_cons_zero, List.set_cons_succ, i64_w, i32_w]
          rfl
         refine pure_ (i := 21) (N := some 50) (v := ?_) (a' := ?_) #[true, true, true, true, true, true, true, true, true, true, true, true, true, true, true, true, true, true, true, true, true, true, false, false, false] rfl rfl (any_of HT_.out (by kernel_rfl)) (fun _ _ _ h => h) (Or.inl ⟨by rfl, ?_⟩) ?_ ?_
         rotate_left
         ·intro w'
          go_simp
          with_reducible rfl
         rotate_left
         ·simp only [Act.put, List.setIfInBounds_toArray, List.set_cons_zero, List.set_cons_succ, i64_w, i32_w]
          rfl
         refine pure_ (i := 22) (N := some 51) (v := ?_) (a' := ?_) #[true, true, true, true, true, true, true, true, true, true, true, true, true, true, true, true, true, true, true, true, true, true, true, false, false] rfl rfl (any_of HT_.out (by kernel_rfl)) (fun _ _ _ h => h) (Or.inl ⟨by rfl, ?_⟩) ?_ ?_
         rotate_left
         ·intro w'
          go_simp
          with_reducible rfl
         rotate_left
         ·simp only [Act.put, List.setIfInBounds_toArray, List.set_cons_zero, List.set_cons_succ, i64_w, i32_w]
          rfl
         refine pure_ (i := 23) (N := some 52) (v := ?_) (a' := ?_) #[true, true, true, true, true, true, true, true, true, true, true, true, true, true, true, true, true, true, true, true, true, true, true, true, false] rfl rfl (any_of HT_.out (by kernel_rfl)) (fun _ _ _ h => h) (Or.inl ⟨by rfl, ?_⟩) ?_ ?_
         rotate_left
         ·intro w'
          go_simp
          with_reducible rfl
         rotate_left
         ·simp only [Act.put, List.setIfInBounds_toArray, List.set_cons_zero, List.set_cons_succ, i64_w, i32_w]
          rfl
         refine pure_ (i := 24) (N := some 2) (v := ?_) (a' := ?_) #[true, true, true, true, true, true, true, true, true, true, true, true, true, true, true, true, true, true, true, true, true, true, true, true, true] rfl rfl (any_of HT_.out (by kernel_rfl)) (fun _ _ _ h => h) (Or.inl ⟨by rfl, ?_⟩) ?_ ?_
         rotate_left
         ·intro w'
          go_simp
          with_reducible rfl
         rotate_left
         ·simp only [Act.put, List.setIfInBounds_toArray, List.set_cons_zero, List.set_cons_succ, i64_w, i32_w]
          rfl
         refine done_ (done_of HT_.out (by kernel_rfl)) ?_
         try go_wp2
         go_ret
         exact ⟨er_, hb_⟩
       ·rw [if_neg c33] at H
        have c33b0 : (x5_1 == (t860 == 0)) = false := by simpa using c33
        (try (have c33b1 : decide (x5_1 = (t860 == 0)) = false := by simpa using c33))
        (try (have c33b2 : (x5_1 == (t860 == 0)) = false := by simpa using c33))
        (try (have c33b3 : ¬ (x5_1 = (t860 == 0)) := by simpa using c33))
        clear c33
        exact absurd ((Option.some.inj H).trans HT_.out) (by decide)
      ·rw [if_neg c32] at H
       have c32b0 : decide (1 ≤ t862) = false := decide_eq_false c32
       clear c32
       exact absurd ((Option.some.inj H).trans HT_.out) (by decide)
     ·rw [if_neg c30] at H
      have c30b0 : decide (0 ≤ t860) = false := decide_eq_false c30
      clear c30
      exact absurd ((Option.some.inj H).trans HT_.out) (by decide)

/-- THE ONE PURE STATEMENT of laws_FnPerfects: yours. -/
def laws_FnPerfects.Pure : Prop := ∀ (l0 : List Int), l0.length ≤ maxLen → l0.length * 1 ≤ 140737488351232 → (∀ x ∈ l0, (Lit.int .u8 x).wf = true) → ∃ k, laws_FnPerfects.f k l0 = some true
theorem laws_FnPerfects.walk (P : laws_FnPerfects.Pure) (a0 : Option Addr) (len0 cap0 : Nat) (z0 : List Int) (w : World) (w0 : (a0 = none ∧ len0 = 0 ∧ cap0 = 0 ∧ z0 = []) ∨ ∃ x, a0 = some x ∧ len0 ≤ cap0 ∧ cap0 ≤ maxLen ∧ z0.length = cap0 ∧ (∀ i, i < z0.length → w.cell? (x.add i) = some (.int .u8 (z0.getD i 0))) ∧ ∀ n ∈ z0, (Lit.int .u8 n).wf = true) (y0 : len0 * 1 ≤ 140737488351232) :
  Calls Try.prog 14 #[.slice a0 len0 cap0] w fun e w' => e = .returned (.bool true) ∧ Below w.heap.size w w' := by
 obtain ⟨l0, rfl, hr0, hm0, hw0, hc0⟩ := ReadsInt.ofRowC w0
 obtain ⟨k, h⟩ := P l0 hm0 y0 hw0
 refine (laws_FnPerfects.calls k _ _ l0 true w (Kd.C_of_reads (d := (0 : Int)) (h1 := fun _ => rfl) hr0) hc0 ⟨rfl⟩ h).mono ?_
 rintro e w' ⟨rfl, hd⟩
 exact ⟨rfl, hd⟩

end Go.Proofs.Ytpaecckpdaiogaa.Q
