/- Plain Lean functions of Go functions, and for each the proof that its call comes to just that answer. Conditions: in each theorem's statement. -/
import Derived.Test.YtpaecckpdaiogaaQx0
import Derived.Test.YtpaecckpdaiogaaQx2
import Derived.Test.YtpaecckpdaiogaaQx49
import Derived.Test.YtpaecckpdaiogaaQx58
import Derived.Test.YtpaecckpdaiogaaWKept
namespace Go.Proofs.Ytpaecckpdaiogaa.Q
open Go.RowKit Go.Proofs.YtpaecckpdaiogaaW.PrintWords Go.Proofs.YtpaecckpdaiogaaW.PrintLast
attribute [local go_sem] max2_int min2_int max_two min_two   -- for this text's walks alone
set_option linter.unusedVariables false
set_option linter.unusedSimpArgs false

/-! ### spec_l03Tree: function 122 -/
mutual
def spec_l03Tree.l0 : Nat → Int → List Int → Int → List Int → Int → Int → Int → Int → Int → Int → Int → Option (Int × Int × Int × Int × Int)
 | 0, _, _, _, _, _, _, _, _, _, _, _ => none
 | k + 1, x6, x7, x8, x1000, x1001, x1002, x596000, x596001, x598000, x598001, x598002 => if x8 < (x7.length : Int) then (if 0 ≤ x8 then (spec_l03Tree.l0 k x6 (x7.set (x8 : Int).toNat x8) (wrap64 (x8 + 1)) x1000 x1001 x1002 x596000 x596001 x598000 x598001 x598002) else (none)) else (if x6 = 0 then (some (x598000, x598001, x598002, x1001, x1002)) else ((spec_l01Below.f x1000 x1001 x1002 x6).bind fun bt604 => ((spec_l01Below.f x1000 bt604.2.1 bt604.2.2 x6).bind fun bt607 => (spec_l03Tree.l1 k x6 x7 bt604.1 (wrap64 (1 + bt607.1)) x1000 bt607.2.1 bt607.2.2 x596000 x596001 x598000 x598001 x598002))))
def spec_l03Tree.l1 : Nat → Int → List Int → Int → Int → List Int → Int → Int → Int → Int → Int → Int → Int → Option (Int × Int × Int × Int × Int)
 | 0, _, _, _, _, _, _, _, _, _, _, _, _ => none
 | k + 1, x6, x7, x9, x10, x1000, x1001, x1002, x596000, x596001, x598000, x598001, x598002 => (spec_l03Common.f k x10 x6).bind fun t610 => (if t610 = true then (spec_l03Tree.l1 k x6 x7 x9 (wrap64 (x10 + 1)) x1000 x1001 x1002 x596000 x596001 x598000 x598001 x598002) else (spec_l03Tree.l2 k x6 x7 x9 x10 0 x1000 x1001 x1002 x596000 x596001 x598000 x598001 x598002))
def spec_l03Tree.l2 : Nat → Int → List Int → Int → Int → Int → List Int → Int → Int → Int → Int → Int → Int → Int → Option (Int × Int × Int × Int × Int)
 | 0, _, _, _, _, _, _, _, _, _, _, _, _, _ => none
 | k + 1, x6, x7, x9, x10, x11, x1000, x1001, x1002, x596000, x596001, x598000, x598001, x598002 => if x11 < x6 then (if x6 = 0 then (none) else ((spec_EndsOf.f x596000 x596001 (Int.tmod (wrap64 (x9 + (wrap64 (x11 * x10)))) x6)).bind fun bt611 => (if 0 ≤ bt611.1 then (if bt611.1 < (x7.length : Int) then (if 0 ≤ bt611.2 then (if bt611.2 < (x7.length : Int) then (if (rd x7 bt611.1) = (rd x7 bt611.2) then (spec_l03Tree.l2 k x6 x7 x9 x10 (wrap64 (x11 + 1)) x1000 x1001 x1002 x596000 x596001 x598000 x598001 x598002) else (if 0 ≤ (Int.tmod (wrap64 (x9 + (wrap64 (x11 * x10)))) x6) then (spec_l03Tree.l3 k x6 x7 x9 x10 x11 bt611.1 (rd x7 bt611.2) 0 x1000 x1001 x1002 x596000 x596001 x598000 x598001 (Go.bits .or .i64 x598002 (shl .i64 1 (Int.tmod (wrap64 (x9 + (wrap64 (x11 * x10)))) x6)))) else (none))) else (none)) else (none)) else (none)) else (none)))) else (some (x598000, x598001, x598002, x1001, x1002))
def spec_l03Tree.l3 : Nat → Int → List Int → Int → Int → Int → Int → Int → Int → List Int → Int → Int → Int → Int → Int → Int → Int → Option (Int × Int × Int × Int × Int)
 | 0, _, _, _, _, _, _, _, _, _, _, _, _, _, _, _, _ => none
 | k + 1, x6, x7, x9, x10, x11, x13, x15, x16, x1000, x1001, x1002, x596000, x596001, x598000, x598001, x598002 => if x16 < (x7.length : Int) then (if 0 ≤ x16 then (if (rd x7 x16) = x15 then (if 0 ≤ x13 then (if x13 < (x7.length : Int) then (spec_l03Tree.l3 k x6 (x7.set (x16 : Int).toNat (rd x7 x13)) x9 x10 x11 x13 x15 (wrap64 (x16 + 1)) x1000 x1001 x1002 x596000 x596001 x598000 x598001 x598002) else (none)) else (none)) else (spec_l03Tree.l3 k x6 x7 x9 x10 x11 x13 x15 (wrap64 (x16 + 1)) x1000 x1001 x1002 x596000 x596001 x598000 x598001 x598002)) else (none)) else (spec_l03Tree.l2 k x6 x7 x9 x10 (wrap64 (x11 + 1)) x1000 x1001 x1002 x596000 x596001 x598000 x598001 x598002)
end
def spec_l03Tree.f (k : Nat) (s0_0 : List Int) (s0_1 : Int) (s0_2 : Int) (a1_0 : Int) (a1_1 : Int) : Option (Int × Int × Int × Int × Int) := (spec_CountGaps.f a1_0 a1_1).bind fun t598 => ((spec_CountCells.f a1_0 a1_1).bind fun t599 => (if 0 ≤ t599 then (if (t599 : Int).toNat ≤ 35184372088832 then (spec_l03Tree.l0 k t598 (List.replicate (t599 : Int).toNat 0) 0 s0_0 s0_1 s0_2 a1_0 a1_1 a1_0 a1_1 0) else (none)) else (none)))
theorem spec_l03Tree.mono_l : ∀ k, (∀ y0 y1 y2 y3 y4 y5 y6 y7 y8 y9 y10, LeO (spec_l03Tree.l0 k y0 y1 y2 y3 y4 y5 y6 y7 y8 y9 y10) (spec_l03Tree.l0 (k + 1) y0 y1 y2 y3 y4 y5 y6 y7 y8 y9 y10)) ∧ (∀ y0 y1 y2 y3 y4 y5 y6 y7 y8 y9 y10 y11, LeO (spec_l03Tree.l1 k y0 y1 y2 y3 y4 y5 y6 y7 y8 y9 y10 y11) (spec_l03Tree.l1 (k + 1) y0 y1 y2 y3 y4 y5 y6 y7 y8 y9 y10 y11)) ∧ (∀ y0 y1 y2 y3 y4 y5 y6 y7 y8 y9 y10 y11 y12, LeO (spec_l03Tree.l2 k y0 y1 y2 y3 y4 y5 y6 y7 y8 y9 y10 y11 y12) (spec_l03Tree.l2 (k + 1) y0 y1 y2 y3 y4 y5 y6 y7 y8 y9 y10 y11 y12)) ∧ (∀ y0 y1 y2 y3 y4 y5 y6 y7 y8 y9 y10 y11 y12 y13 y14 y15, LeO (spec_l03Tree.l3 k y0 y1 y2 y3 y4 y5 y6 y7 y8 y9 y10 y11 y12 y13 y14 y15) (spec_l03Tree.l3 (k + 1) y0 y1 y2 y3 y4 y5 y6 y7 y8 y9 y10 y11 y12 y13 y14 y15))
 | 0 => ⟨fun _ _ _ _ _ _ _ _ _ _ _ r h => by simp [spec_l03Tree.l0] at h, fun _ _ _ _ _ _ _ _ _ _ _ _ r h => by simp [spec_l03Tree.l1] at h, fun _ _ _ _ _ _ _ _ _ _ _ _ _ r h => by simp [spec_l03Tree.l2] at h, fun _ _ _ _ _ _ _ _ _ _ _ _ _ _ _ _ r h => by simp [spec_l03Tree.l3] at h⟩
 | k + 1 => by
  obtain ⟨ih0, ih1, ih2, ih3⟩ := spec_l03Tree.mono_l k
  refine ⟨?_, ?_, ?_, ?_⟩
  ·intro y0 y1 y2 y3 y4 y5 y6 y7 y8 y9 y10
   unfold spec_l03Tree.l0
   repeat' first
   | (with_reducible exact ih0 _ _ _ _ _ _ _ _ _ _ _)
   | (with_reducible exact ih1 _ _ _ _ _ _ _ _ _ _ _ _)
   | (with_reducible exact ih2 _ _ _ _ _ _ _ _ _ _ _ _ _)
   | (with_reducible exact ih3 _ _ _ _ _ _ _ _ _ _ _ _ _ _ _ _)
   | (with_reducible exact spec_l03Common.mono _ _ _)
   | (with_reducible exact LeO.refl _)
   | (with_reducible exact LeO.none _)
   | (with_reducible refine LeO.ite ?_ ?_)
   | (with_reducible refine LeO.bind ?_ (fun _ => ?_))
   | exact ih0 _ _ _ _ _ _ _ _ _ _ _
   | exact ih1 _ _ _ _ _ _ _ _ _ _ _ _
   | exact ih2 _ _ _ _ _ _ _ _ _ _ _ _ _
   | exact ih3 _ _ _ _ _ _ _ _ _ _ _ _ _ _ _ _
   | exact spec_l03Common.mono _ _ _
   | exact LeO.none _
   | refine LeO.ite ?_ ?_
   | refine LeO.bind ?_ (fun _ => ?_)
  ·intro y0 y1 y2 y3 y4 y5 y6 y7 y8 y9 y10 y11
   unfold spec_l03Tree.l1
   repeat' first
   | (with_reducible exact ih0 _ _ _ _ _ _ _ _ _ _ _)
   | (with_reducible exact ih1 _ _ _ _ _ _ _ _ _ _ _ _)
   | (with_reducible exact ih2 _ _ _ _ _ _ _ _ _ _ _ _ _)
   | (with_reducible exact ih3 _ _ _ _ _ _ _ _ _ _ _ _ _ _ _ _)
   | (with_reducible exact spec_l03Common.mono _ _ _)
   | (with_reducible exact LeO.refl _)
   | (with_reducible exact LeO.none _)
   | (with_reducible refine LeO.ite ?_ ?_)
   | (with_reducible refine LeO.bind ?_ (fun _ => ?_))
   | exact ih0 _ _ _ _ _ _ _ _ _ _ _
   | exact ih1 _ _ _ _ _ _ _ _ _ _ _ _
   | exact ih2 _ _ _ _ _ _ _ _ _ _ _ _ _
   | exact ih3 _ _ _ _ _ _ _ _ _ _ _ _ _ _ _ _
   | exact spec_l03Common.mono _ _ _
   | exact LeO.none _
   | refine LeO.ite ?_ ?_
   | refine LeO.bind ?_ (fun _ => ?_)
  ·intro y0 y1 y2 y3 y4 y5 y6 y7 y8 y9 y10 y11 y12
   unfold spec_l03Tree.l2
   repeat' first
   | (with_reducible exact ih0 _ _ _ _ _ _ _ _ _ _ _)
   | (with_reducible exact ih1 _ _ _ _ _ _ _ _ _ _ _ _)
   | (with_reducible exact ih2 _ _ _ _ _ _ _ _ _ _ _ _ _)
   | (with_reducible exact ih3 _ _ _ _ _ _ _ _ _ _ _ _ _ _ _ _)
   | (with_reducible exact spec_l03Common.mono _ _ _)
   | (with_reducible exact LeO.refl _)
   | (with_reducible exact LeO.none _)
   | (with_reducible refine LeO.ite ?_ ?_)
   | (with_reducible refine LeO.bind ?_ (fun _ => ?_))
   | exact ih0 _ _ _ _ _ _ _ _ _ _ _
   | exact ih1 _ _ _ _ _ _ _ _ _ _ _ _
   | exact ih2 _ _ _ _ _ _ _ _ _ _ _ _ _
   | exact ih3 _ _ _ _ _ _ _ _ _ _ _ _ _ _ _ _
   | exact spec_l03Common.mono _ _ _
   | exact LeO.none _
   | refine LeO.ite ?_ ?_
   | refine LeO.bind ?_ (fun _ => ?_)
  ·intro y0 y1 y2 y3 y4 y5 y6 y7 y8 y9 y10 y11 y12 y13 y14 y15
   unfold spec_l03Tree.l3
   repeat' first
   | (with_reducible exact ih0 _ _ _ _ _ _ _ _ _ _ _)
   | (with_reducible exact ih1 _ _ _ _ _ _ _ _ _ _ _ _)
   | (with_reducible exact ih2 _ _ _ _ _ _ _ _ _ _ _ _ _)
   | (with_reducible exact ih3 _ _ _ _ _ _ _ _ _ _ _ _ _ _ _ _)
   | (with_reducible exact spec_l03Common.mono _ _ _)
   | (with_reducible exact LeO.refl _)
   | (with_reducible exact LeO.none _)
   | (with_reducible refine LeO.ite ?_ ?_)
   | (with_reducible refine LeO.bind ?_ (fun _ => ?_))
   | exact ih0 _ _ _ _ _ _ _ _ _ _ _
   | exact ih1 _ _ _ _ _ _ _ _ _ _ _ _
   | exact ih2 _ _ _ _ _ _ _ _ _ _ _ _ _
   | exact ih3 _ _ _ _ _ _ _ _ _ _ _ _ _ _ _ _
   | exact spec_l03Common.mono _ _ _
   | exact LeO.none _
   | refine LeO.ite ?_ ?_
   | refine LeO.bind ?_ (fun _ => ?_)
theorem spec_l03Tree.mono : ∀ a0 a1 a2 a3 a4 k, LeO (spec_l03Tree.f k a0 a1 a2 a3 a4) (spec_l03Tree.f (k + 1) a0 a1 a2 a3 a4) := by
 intro a0 a1 a2 a3 a4 k
 obtain ⟨ih0, ih1, ih2, ih3⟩ := spec_l03Tree.mono_l k
 unfold spec_l03Tree.f
 repeat' first
   | (with_reducible exact ih0 _ _ _ _ _ _ _ _ _ _ _)
   | (with_reducible exact ih1 _ _ _ _ _ _ _ _ _ _ _ _)
   | (with_reducible exact ih2 _ _ _ _ _ _ _ _ _ _ _ _ _)
   | (with_reducible exact ih3 _ _ _ _ _ _ _ _ _ _ _ _ _ _ _ _)
   | (with_reducible exact spec_l03Common.mono _ _ _)
   | (with_reducible exact LeO.refl _)
   | (with_reducible exact LeO.none _)
   | (with_reducible refine LeO.ite ?_ ?_)
   | (with_reducible refine LeO.bind ?_ (fun _ => ?_))
   | exact ih0 _ _ _ _ _ _ _ _ _ _ _
   | exact ih1 _ _ _ _ _ _ _ _ _ _ _ _
   | exact ih2 _ _ _ _ _ _ _ _ _ _ _ _ _
   | exact ih3 _ _ _ _ _ _ _ _ _ _ _ _ _ _ _ _
   | exact spec_l03Common.mono _ _ _
   | exact LeO.none _
   | refine LeO.ite ?_ ?_
   | refine LeO.bind ?_ (fun _ => ?_)
def spec_l03Tree.T19 : Bool × List (List Nat × List Nat) := (true, [([], []), ([], []), ([0, 1], [0, 1]), ([2], [2]), ([], []), ([], []), ([4, 5], [4, 5]), ([6], [6]), ([3, 7], [3, 7])])
def spec_l03Tree.B19 : List Nat := [0, 0, 3, 7, 0, 0, 48, 112, 255]
theorem spec_l03Tree.tab19 : rtab .any (opsOf Try.f122 19) = spec_l03Tree.T19 := by kernel_rfl
theorem spec_l03Tree.bits19 : waitsOk spec_l03Tree.T19.2 spec_l03Tree.B19 = true := by kernel_rfl
set_option maxHeartbeats 8000000 in
set_option maxRecDepth 100000 in
theorem spec_l03Tree.calls (k : Nat) (g : Nat) (s0_0 : List Int) (s0_1 : Int) (s0_2 : Int) (a1_0 : Int) (a1_1 : Int) (r1 : Int) (r2 : Int) (r3 : Int) (r4 : Int) (r5 : Int) (w0 w : World) (hI : IsS94 w0 w g s0_0 s0_1 s0_2) (hB : Below w0.heap.size w0 w) (h : spec_l03Tree.f k s0_0 s0_1 s0_2 a1_0 a1_1 = some (r1, r2, r3, r4, r5)) :
  Calls Try.prog 122 #[.pointer (some ⟨g, 0, none⟩), .agg #[.int .i64 a1_0, .int .i64 a1_1]] w fun e w' => e = .returned (.agg #[.int .i64 r1, .int .i64 r2, .int .i64 r3]) ∧ IsS94 w0 w' g s0_0 r4 r5 ∧ Below w0.heap.size w0 w' ∧ KeepBut w w' g none := by
 have hu28 := Try.underlying28
 have hu30 := Try.underlying30
 have HI0 := Aside0.mk hI
 have HK := Aside0.mk (KeepBut.refl w g none)
 have HL := Aside0.mk hB.size
 clear hI
 have HW0 := Aside0.mk hB.size
 have HB := Aside0.mk hB
 clear hB
 have H : ((spec_CountGaps.f a1_0 a1_1).bind fun t598 => ((spec_CountCells.f a1_0 a1_1).bind fun t599 => (if 0 ≤ t599 then (if (t599 : Int).toNat ≤ 35184372088832 then (spec_l03Tree.l0 k t598 (List.replicate (t599 : Int).toNat 0) 0 s0_0 s0_1 s0_2 a1_0 a1_1 a1_0 a1_1 0) else (none)) else (none)))) = some (r1, r2, r3, r4, r5) := h
 clear h
 replace H := Option.bind_eq_some_iff.mp H
 obtain ⟨t598, A30, H⟩ := H
 replace H : ((spec_CountCells.f a1_0 a1_1).bind fun t599 => (if 0 ≤ t599 then (if (t599 : Int).toNat ≤ 35184372088832 then (spec_l03Tree.l0 k t598 (List.replicate (t599 : Int).toNat 0) 0 s0_0 s0_1 s0_2 a1_0 a1_1 a1_0 a1_1 0) else (none)) else (none))) = some (r1, r2, r3, r4, r5) := H
 have A3 := Aside0.mk A30
 clear A30
 replace H := Option.bind_eq_some_iff.mp H
 obtain ⟨t599, A40, H⟩ := H
 replace H : (if 0 ≤ t599 then (if (t599 : Int).toNat ≤ 35184372088832 then (spec_l03Tree.l0 k t598 (List.replicate (t599 : Int).toNat 0) 0 s0_0 s0_1 s0_2 a1_0 a1_1 a1_0 a1_1 0) else (none)) else (none)) = some (r1, r2, r3, r4, r5) := H
 have A4 := Aside0.mk A40
 clear A40
 by_cases c5 : 0 ≤ t599
 ·rw [if_pos c5] at H
  have c5b0 := eq_true c5
  have c5b1 : decide (0 ≤ t599) = true := decide_eq_true c5
  clear c5
  by_cases c6 : (t599 : Int).toNat ≤ 35184372088832
  ·rw [if_pos c6] at H
   have c6b0 := eq_true c6
   have c6b1 : decide ((t599 : Int).toNat ≤ 35184372088832) = true := decide_eq_true c6
   clear c6
   obtain ⟨y600, hy600⟩ : ∃ y_ : List Int, y_ = (List.replicate (t599 : Int).toNat 0) := ⟨_, rfl⟩
   replace H : (spec_l03Tree.l0 k t598 y600 0 s0_0 s0_1 s0_2 a1_0 a1_1 a1_0 a1_1 0) = some (r1, r2, r3, r4, r5) := by first | (rw [hy600]; with_reducible exact H) | (have H2_ := (Option.bind_some _ _).symm.trans H; rw [hy600]; with_reducible exact H2_) | (have H2_ := (Option.bind_some _ _).symm.trans H; with_reducible exact H2_) | with_reducible exact H | (rw [hy600]; exact H) | exact H
   have Ny600 := Aside0.mk hy600
   clear hy600
   have H' := Aside0.mk H
   clear H
   go_enter Try.func122, Try.ntmps122
   go_wp2_with (first | ((with_reducible refine gate_dst (N := 3) rfl ?_); refine box_event ?hg (N := 3) ?hd (cs := #[.int .i64 a1_0, .int .i64 a1_1]) (t := 28) ?hr ?_; (case hd => rfl); (case hg => rfl); (case hr => first | (go_simp; done) | (go_simp; rfl)); intro gb595 hg w7 hbox hb; have n0_ := Aside0.mk (IsS94.below (by repeat (first | (with_reducible first | exact HI0.out | apply IsS94.alloc | apply IsS94.drewN | apply IsS94.drew | apply IsS94.set_1 | apply IsS94.set_2) | exact HI0.out)) hb); have n1_ := Aside0.mk (KeepBut.trans (by repeat (first | (with_reducible first | exact HK.out | apply KeepBut.set_ | apply keep_drewN | apply keep_drew | apply keep_alloc) | exact HK.out)) (KeepBut.of_below hb g none) (.inl rfl)); have n2_ := Aside0.mk (below_step (by repeat (first | (with_reducible first | exact HB.out | apply below_alloc | apply pw_below_drewN | apply below_drew1 | refine below_set ?_ (IsS94.ge HI0.out)) | exact HB.out)) hb); have n3_ := Aside0.mk (hbox); have n4_ := Aside0.mk ((by rw [hg]; exact (keep_size (w := w) (g := g) (row := none) (by repeat (first | (with_reducible first | exact HK.out | apply KeepBut.set_ | apply keep_drewN | apply keep_drew | apply keep_alloc) | exact HK.out))) : w.heap.size ≤ gb595)); have n5_ := Aside0.mk ((Nat.le_trans HW0.out (by rw [hg]; exact (keep_size (w := w) (g := g) (row := none) (by repeat (first | (with_reducible first | exact HK.out | apply KeepBut.set_ | apply keep_drewN | apply keep_drew | apply keep_alloc) | exact HK.out))) : w.heap.size ≤ gb595) : w0.heap.size ≤ gb595)); have n6_ := Aside0.mk ((by rw [hg]; exact Nat.ne_of_lt (IsS94.lt (show IsS94 w0 _ g s0_0 s0_1 s0_2 from by repeat (first | (with_reducible first | exact HI0.out | apply IsS94.alloc | apply IsS94.drewN | apply IsS94.drew | apply IsS94.set_1 | apply IsS94.set_2) | exact HI0.out))) : g ≠ gb595)); have n7_ := Aside0.mk ((by rw [hg]; exact Nat.ne_of_gt (IsS94.lt (show IsS94 w0 _ g s0_0 s0_1 s0_2 from by repeat (first | (with_reducible first | exact HI0.out | apply IsS94.alloc | apply IsS94.drewN | apply IsS94.drew | apply IsS94.set_1 | apply IsS94.set_2) | exact HI0.out))) : gb595 ≠ g)); clear HI0; clear HK; clear HB; have HI0 := n0_; have HK := n1_; have HB := n2_; have BK595 := n3_; have GW595 := n4_; have GE595 := n5_; have NB0_595 := n6_; have NB595_0 := n7_; clear n0_ n1_ n2_ n3_ n4_ n5_ n6_ n7_; clear hb hbox hg) | ((with_reducible refine gate_dst (N := 4) rfl ?_); refine box_event ?hg (N := 4) ?hd (cs := #[.int .i64 0, .int .i64 0, .int .i64 0]) (t := 30) ?hr ?_; (case hd => rfl); (case hg => rfl); (case hr => first | (go_simp; done) | (go_simp; rfl)); intro gb596 hg w8 hbox hb; have n0_ := Aside0.mk (IsS94.below (by repeat (first | (with_reducible first | exact HI0.out | apply IsS94.alloc | apply IsS94.drewN | apply IsS94.drew | apply IsS94.set_1 | apply IsS94.set_2 | refine IsS94.far ?_ NB0_595.out _) | exact HI0.out)) hb); have n1_ := Aside0.mk (blk_below (g := gb595) (o := .cells #[.int .i64 a1_0, .int .i64 a1_1] 28 (0, 0)) (kb_ BK595.out) hb); have n2_ := Aside0.mk (KeepBut.trans (by repeat (first | (with_reducible first | exact HK.out | apply KeepBut.set_ | apply keep_drewN | apply keep_drew | apply keep_alloc | refine keep_far ?_ GW595.out _) | exact HK.out)) (KeepBut.of_below hb g none) (.inl rfl)); have n3_ := Aside0.mk (below_step (by repeat (first | (with_reducible first | exact HB.out | apply below_alloc | apply pw_below_drewN | apply below_drew1 | refine below_set ?_ (IsS94.ge HI0.out) | refine below_set ?_ GE595.out) | exact HB.out)) hb); have n4_ := Aside0.mk (hbox); have n5_ := Aside0.mk ((by rw [hg]; exact (keep_size (w := w) (g := g) (row := none) (by repeat (first | (with_reducible first | exact HK.out | apply KeepBut.set_ | apply keep_drewN | apply keep_drew | apply keep_alloc | refine keep_far ?_ GW595.out _) | exact HK.out))) : w.heap.size ≤ gb596)); have n6_ := Aside0.mk ((Nat.le_trans HW0.out (by rw [hg]; exact (keep_size (w := w) (g := g) (row := none) (by repeat (first | (with_reducible first | exact HK.out | apply KeepBut.set_ | apply keep_drewN | apply keep_drew | apply keep_alloc | refine keep_far ?_ GW595.out _) | exact HK.out))) : w.heap.size ≤ gb596) : w0.heap.size ≤ gb596)); have n7_ := Aside0.mk ((by rw [hg]; exact Nat.ne_of_lt (blk_lt (g := gb595) (o := .cells #[.int .i64 a1_0, .int .i64 a1_1] 28 (0, 0)) (kb_ BK595.out)) : gb595 ≠ gb596)); have n8_ := Aside0.mk ((by rw [hg]; exact Nat.ne_of_gt (blk_lt (g := gb595) (o := .cells #[.int .i64 a1_0, .int .i64 a1_1] 28 (0, 0)) (kb_ BK595.out)) : gb596 ≠ gb595)); have n9_ := Aside0.mk ((by rw [hg]; exact Nat.ne_of_lt (IsS94.lt (show IsS94 w0 _ g s0_0 s0_1 s0_2 from by repeat (first | (with_reducible first | exact HI0.out | apply IsS94.alloc | apply IsS94.drewN | apply IsS94.drew | apply IsS94.set_1 | apply IsS94.set_2 | refine IsS94.far ?_ NB0_595.out _) | exact HI0.out))) : g ≠ gb596)); have n10_ := Aside0.mk ((by rw [hg]; exact Nat.ne_of_gt (IsS94.lt (show IsS94 w0 _ g s0_0 s0_1 s0_2 from by repeat (first | (with_reducible first | exact HI0.out | apply IsS94.alloc | apply IsS94.drewN | apply IsS94.drew | apply IsS94.set_1 | apply IsS94.set_2 | refine IsS94.far ?_ NB0_595.out _) | exact HI0.out))) : gb596 ≠ g)); clear HI0; clear BK595; clear HK; clear HB; have HI0 := n0_; have BK595 := n1_; have HK := n2_; have HB := n3_; have BK596 := n4_; have GW596 := n5_; have GE596 := n6_; have NB595_596 := n7_; have NB596_595 := n8_; have NB0_596 := n9_; have NB596_0 := n10_; clear n0_ n1_ n2_ n3_ n4_ n5_ n6_ n7_ n8_ n9_ n10_; clear hb hbox hg; have hnb9 := NB595_596.out; have hnc9 := NB596_595.out; have hnb10 := NB595_0.out; have hnc10 := NB0_595.out; have hcz11_0 := cz_ (.int .i64 a1_0) BK595.out 0; have hcz11_1 := cz_ (.int .i64 a1_1) BK595.out 1; have hfz11_0 := blk_frozen BK595.out 0; have hfz11_1 := blk_frozen BK595.out 1) | ((with_reducible refine gate_dst (N := 5) rfl ?_); refine box_event ?hg (N := 5) ?hd (cs := #[.int .i64 0, .int .i64 0, .int .i64 0]) (t := 30) ?hr ?_; (case hd => rfl); (case hg => rfl); (case hr => first | (go_simp; done) | (go_simp; rfl)); intro gb597 hg w12 hbox hb; have n0_ := Aside0.mk (IsS94.below (by repeat (first | (with_reducible first | exact HI0.out | apply IsS94.alloc | apply IsS94.drewN | apply IsS94.drew | apply IsS94.set_1 | apply IsS94.set_2 | refine IsS94.far ?_ NB0_595.out _ | refine IsS94.far ?_ NB0_596.out _) | exact HI0.out)) hb); have n1_ := Aside0.mk (blk_below (g := gb595) (o := .cells #[.int .i64 a1_0, .int .i64 a1_1] 28 (0, 0)) (kb_ BK595.out) hb); have n2_ := Aside0.mk (blk_below (g := gb596) (o := .cells #[.int .i64 0, .int .i64 0, .int .i64 0] 30 (0, 0)) (kb_ BK596.out) hb); have n3_ := Aside0.mk (KeepBut.trans (by repeat (first | (with_reducible first | exact HK.out | apply KeepBut.set_ | apply keep_drewN | apply keep_drew | apply keep_alloc | refine keep_far ?_ GW595.out _ | refine keep_far ?_ GW596.out _) | exact HK.out)) (KeepBut.of_below hb g none) (.inl rfl)); have n4_ := Aside0.mk (below_step (by repeat (first | (with_reducible first | exact HB.out | apply below_alloc | apply pw_below_drewN | apply below_drew1 | refine below_set ?_ (IsS94.ge HI0.out) | refine below_set ?_ GE595.out | refine below_set ?_ GE596.out) | exact HB.out)) hb); have n5_ := Aside0.mk (hbox); have n6_ := Aside0.mk ((by rw [hg]; exact (keep_size (w := w) (g := g) (row := none) (by repeat (first | (with_reducible first | exact HK.out | apply KeepBut.set_ | apply keep_drewN | apply keep_drew | apply keep_alloc | refine keep_far ?_ GW595.out _ | refine keep_far ?_ GW596.out _) | exact HK.out))) : w.heap.size ≤ gb597)); have n7_ := Aside0.mk ((Nat.le_trans HW0.out (by rw [hg]; exact (keep_size (w := w) (g := g) (row := none) (by repeat (first | (with_reducible first | exact HK.out | apply KeepBut.set_ | apply keep_drewN | apply keep_drew | apply keep_alloc | refine keep_far ?_ GW595.out _ | refine keep_far ?_ GW596.out _) | exact HK.out))) : w.heap.size ≤ gb597) : w0.heap.size ≤ gb597)); have n8_ := Aside0.mk ((by rw [hg]; exact Nat.ne_of_lt (blk_lt (g := gb595) (o := .cells #[.int .i64 a1_0, .int .i64 a1_1] 28 (0, 0)) (kb_ BK595.out)) : gb595 ≠ gb597)); have n9_ := Aside0.mk ((by rw [hg]; exact Nat.ne_of_gt (blk_lt (g := gb595) (o := .cells #[.int .i64 a1_0, .int .i64 a1_1] 28 (0, 0)) (kb_ BK595.out)) : gb597 ≠ gb595)); have n10_ := Aside0.mk ((by rw [hg]; exact Nat.ne_of_lt (blk_lt (g := gb596) (o := .cells #[.int .i64 0, .int .i64 0, .int .i64 0] 30 (0, 0)) (kb_ BK596.out)) : gb596 ≠ gb597)); have n11_ := Aside0.mk ((by rw [hg]; exact Nat.ne_of_gt (blk_lt (g := gb596) (o := .cells #[.int .i64 0, .int .i64 0, .int .i64 0] 30 (0, 0)) (kb_ BK596.out)) : gb597 ≠ gb596)); have n12_ := Aside0.mk ((by rw [hg]; exact Nat.ne_of_lt (IsS94.lt (show IsS94 w0 _ g s0_0 s0_1 s0_2 from by repeat (first | (with_reducible first | exact HI0.out | apply IsS94.alloc | apply IsS94.drewN | apply IsS94.drew | apply IsS94.set_1 | apply IsS94.set_2 | refine IsS94.far ?_ NB0_595.out _ | refine IsS94.far ?_ NB0_596.out _) | exact HI0.out))) : g ≠ gb597)); have n13_ := Aside0.mk ((by rw [hg]; exact Nat.ne_of_gt (IsS94.lt (show IsS94 w0 _ g s0_0 s0_1 s0_2 from by repeat (first | (with_reducible first | exact HI0.out | apply IsS94.alloc | apply IsS94.drewN | apply IsS94.drew | apply IsS94.set_1 | apply IsS94.set_2 | refine IsS94.far ?_ NB0_595.out _ | refine IsS94.far ?_ NB0_596.out _) | exact HI0.out))) : gb597 ≠ g)); clear HI0; clear BK595; clear BK596; clear HK; clear HB; have HI0 := n0_; have BK595 := n1_; have BK596 := n2_; have HK := n3_; have HB := n4_; have BK597 := n5_; have GW597 := n6_; have GE597 := n7_; have NB595_597 := n8_; have NB597_595 := n9_; have NB596_597 := n10_; have NB597_596 := n11_; have NB0_597 := n12_; have NB597_0 := n13_; clear n0_ n1_ n2_ n3_ n4_ n5_ n6_ n7_ n8_ n9_ n10_ n11_ n12_ n13_; clear hb hbox hg; have hnb13 := NB597_595.out; have hnc13 := NB595_597.out; have hnb14 := NB597_596.out; have hnc14 := NB596_597.out; have hnb15 := NB597_0.out; have hnc15 := NB0_597.out; have hcz16_0 := cz_ (.int .i64 0) BK597.out 0; have hcz16_1 := cz_ (.int .i64 0) BK597.out 1; have hcz16_2 := cz_ (.int .i64 0) BK597.out 2; have hfz16_0 := blk_frozen BK597.out 0; have hfz16_1 := blk_frozen BK597.out 1; have hfz16_2 := blk_frozen BK597.out 2; have hcz17_0 := cz_ (.int .i64 a1_0) BK595.out 0; have hcz17_1 := cz_ (.int .i64 a1_1) BK595.out 1; have hfz17_0 := blk_frozen BK595.out 0; have hfz17_1 := blk_frozen BK595.out 1) | ((with_reducible refine gate_callee (f := 43) rfl ?_); refine goesL_ (some 20) rfl rfl Try.func43 (by kernel_rfl) rfl #[.agg #[.int .i64 a1_0, .int .i64 a1_1]] rfl mp_ ?_; (with_reducible refine (spec_CountGaps.calls a1_0 a1_1 t598 _ A3.out).mono ?_); rintro e w18 ⟨rfl, hb⟩; refine ⟨_, rfl, ?_⟩; have n0_ := Aside0.mk (IsS94.below (show IsS94 w0 (((w12.setCell ⟨gb597, 0, none⟩ (.int .i64 a1_0)).setCell ⟨gb597, 1, none⟩ (.int .i64 a1_1)).setCell ⟨gb597, 2, none⟩ (.int .i64 0)) g s0_0 s0_1 s0_2 from by repeat (first | (with_reducible first | exact HI0.out | apply IsS94.alloc | apply IsS94.drewN | apply IsS94.drew | apply IsS94.set_1 | apply IsS94.set_2 | refine IsS94.far ?_ NB0_595.out _ | refine IsS94.far ?_ NB0_596.out _ | refine IsS94.far ?_ NB0_597.out _) | exact HI0.out)) hb); have n1_ := Aside0.mk (blk_below (g := gb595) (o := .cells #[.int .i64 a1_0, .int .i64 a1_1] 28 (0, 0)) (by (with_reducible repeat (first | refine blk_drewN ?_ _ | refine blk_drew ?_ | refine blk_alloc ?_ _)); refine blk_far ?_ NB595_597.out _; (with_reducible repeat (first | refine blk_drewN ?_ _ | refine blk_drew ?_ | refine blk_alloc ?_ _)); refine blk_far ?_ NB595_597.out _; (with_reducible repeat (first | refine blk_drewN ?_ _ | refine blk_drew ?_ | refine blk_alloc ?_ _)); refine blk_far ?_ NB595_597.out _; (with_reducible repeat (first | refine blk_drewN ?_ _ | refine blk_drew ?_ | refine blk_alloc ?_ _)); exact BK595.out) hb); have n2_ := Aside0.mk (blk_below (g := gb596) (o := .cells #[.int .i64 0, .int .i64 0, .int .i64 0] 30 (0, 0)) (by (with_reducible repeat (first | refine blk_drewN ?_ _ | refine blk_drew ?_ | refine blk_alloc ?_ _)); refine blk_far ?_ NB596_597.out _; (with_reducible repeat (first | refine blk_drewN ?_ _ | refine blk_drew ?_ | refine blk_alloc ?_ _)); refine blk_far ?_ NB596_597.out _; (with_reducible repeat (first | refine blk_drewN ?_ _ | refine blk_drew ?_ | refine blk_alloc ?_ _)); refine blk_far ?_ NB596_597.out _; (with_reducible repeat (first | refine blk_drewN ?_ _ | refine blk_drew ?_ | refine blk_alloc ?_ _)); exact BK596.out) hb); have n3_ := Aside0.mk (blk_below (g := gb597) (o := .cells #[.int .i64 a1_0, .int .i64 a1_1, .int .i64 0] 30 (0, 0)) (by (with_reducible repeat (first | refine blk_drewN ?_ _ | refine blk_drew ?_ | refine blk_alloc ?_ _)); refine blk_put (cs := #[.int .i64 a1_0, .int .i64 a1_1, .int .i64 0]) ?_ 2 _ rfl; (with_reducible repeat (first | refine blk_drewN ?_ _ | refine blk_drew ?_ | refine blk_alloc ?_ _)); refine blk_put (cs := #[.int .i64 a1_0, .int .i64 0, .int .i64 0]) ?_ 1 _ rfl; (with_reducible repeat (first | refine blk_drewN ?_ _ | refine blk_drew ?_ | refine blk_alloc ?_ _)); refine blk_put (cs := #[.int .i64 0, .int .i64 0, .int .i64 0]) ?_ 0 _ rfl; (with_reducible repeat (first | refine blk_drewN ?_ _ | refine blk_drew ?_ | refine blk_alloc ?_ _)); exact BK597.out) hb); have n4_ := Aside0.mk (KeepBut.trans (by repeat (first | (with_reducible first | exact HK.out | apply KeepBut.set_ | apply keep_drewN | apply keep_drew | apply keep_alloc | refine keep_far ?_ GW595.out _ | refine keep_far ?_ GW596.out _ | refine keep_far ?_ GW597.out _) | exact HK.out)) (KeepBut.of_below hb g none) (.inl rfl)); have n5_ := Aside0.mk (below_step (by repeat (first | (with_reducible first | exact HB.out | apply below_alloc | apply pw_below_drewN | apply below_drew1 | refine below_set ?_ (IsS94.ge HI0.out) | refine below_set ?_ GE595.out | refine below_set ?_ GE596.out | refine below_set ?_ GE597.out) | exact HB.out)) hb); clear HI0; clear BK595; clear BK596; clear BK597; clear HK; clear HB; have HI0 := n0_; have BK595 := n1_; have BK596 := n2_; have BK597 := n3_; have HK := n4_; have HB := n5_; clear n0_ n1_ n2_ n3_ n4_ n5_; (try clear hb); (try clear hb2); (try clear hk); (try clear hi); have hcz19_0 := cz_ (.int .i64 a1_0) BK595.out 0; have hcz19_1 := cz_ (.int .i64 a1_1) BK595.out 1; have hfz19_0 := blk_frozen BK595.out 0; have hfz19_1 := blk_frozen BK595.out 1) | ((with_reducible refine gate_callee (f := 40) rfl ?_); refine goesL_ (some 22) rfl rfl Try.func40 (by kernel_rfl) rfl #[.agg #[.int .i64 a1_0, .int .i64 a1_1]] rfl mp_ ?_; (with_reducible refine (spec_CountCells.calls a1_0 a1_1 t599 _ A4.out).mono ?_); rintro e w20 ⟨rfl, hb⟩; refine ⟨_, rfl, ?_⟩; have n0_ := Aside0.mk (IsS94.below (by repeat (first | (with_reducible first | exact HI0.out | apply IsS94.alloc | apply IsS94.drewN | apply IsS94.drew | apply IsS94.set_1 | apply IsS94.set_2 | refine IsS94.far ?_ NB0_595.out _ | refine IsS94.far ?_ NB0_596.out _ | refine IsS94.far ?_ NB0_597.out _) | exact HI0.out)) hb); have n1_ := Aside0.mk (blk_below (g := gb595) (o := .cells #[.int .i64 a1_0, .int .i64 a1_1] 28 (0, 0)) (kb_ BK595.out) hb); have n2_ := Aside0.mk (blk_below (g := gb596) (o := .cells #[.int .i64 0, .int .i64 0, .int .i64 0] 30 (0, 0)) (kb_ BK596.out) hb); have n3_ := Aside0.mk (blk_below (g := gb597) (o := .cells #[.int .i64 a1_0, .int .i64 a1_1, .int .i64 0] 30 (0, 0)) (kb_ BK597.out) hb); have n4_ := Aside0.mk (KeepBut.trans (by repeat (first | (with_reducible first | exact HK.out | apply KeepBut.set_ | apply keep_drewN | apply keep_drew | apply keep_alloc | refine keep_far ?_ GW595.out _ | refine keep_far ?_ GW596.out _ | refine keep_far ?_ GW597.out _) | exact HK.out)) (KeepBut.of_below hb g none) (.inl rfl)); have n5_ := Aside0.mk (below_step (by repeat (first | (with_reducible first | exact HB.out | apply below_alloc | apply pw_below_drewN | apply below_drew1 | refine below_set ?_ (IsS94.ge HI0.out) | refine below_set ?_ GE595.out | refine below_set ?_ GE596.out | refine below_set ?_ GE597.out) | exact HB.out)) hb); clear HI0; clear BK595; clear BK596; clear BK597; clear HK; clear HB; have HI0 := n0_; have BK595 := n1_; have BK596 := n2_; have BK597 := n3_; have HK := n4_; have HB := n5_; clear n0_ n1_ n2_ n3_ n4_ n5_; (try clear hb); (try clear hb2); (try clear hk); (try clear hi)) | ((with_reducible refine gate_dst (N := 23) rfl ?_); refine Kd.R_make (Kd.int .i64) _ 3 rfl (N := 23) rfl 26 _ _ rfl t599 rfl rfl Try.underlying26 (.int .i64 0) 8 info3 rfl (by decide) (by omega) 0 (ok := fun _ => True) (okp := fun _ => True) rfl (fun _ hk => hk) trivial (of_decide_eq_true (by first | (with_reducible assumption) | assumption)) (Nat.le_trans (Nat.mul_le_mul_right _ (of_decide_eq_true (by first | (with_reducible assumption) | assumption) : t599.toNat ≤ 35184372088832)) (by omega)) (Below.refl _ _) (Nat.le_refl _) ?_; intro v601 w21 ho22 hb hg_ hnew_; clear hg_ hnew_; (first | rw [← Ny600.out] at ho22 | (simp only [Int.reduceToNat] at ho22; rw [← Ny600.out] at ho22)); have n0_ := Aside0.mk (Kd.R_lower ho22 (keep_size (w := w) (g := g) (row := none) (by repeat (first | (with_reducible first | exact HK.out | apply KeepBut.set_ | apply keep_drewN | apply keep_drew | apply keep_alloc | refine keep_far ?_ GW595.out _ | refine keep_far ?_ GW596.out _ | refine keep_far ?_ GW597.out _) | exact HK.out)))); have n1_ := Aside0.mk (IsS94.below (by repeat (first | (with_reducible first | exact HI0.out | apply IsS94.alloc | apply IsS94.drewN | apply IsS94.drew | apply IsS94.set_1 | apply IsS94.set_2 | refine IsS94.far ?_ NB0_595.out _ | refine IsS94.far ?_ NB0_596.out _ | refine IsS94.far ?_ NB0_597.out _) | exact HI0.out)) hb); have n2_ := Aside0.mk (blk_below (g := gb595) (o := .cells #[.int .i64 a1_0, .int .i64 a1_1] 28 (0, 0)) (kb_ BK595.out) hb); have n3_ := Aside0.mk (blk_below (g := gb596) (o := .cells #[.int .i64 0, .int .i64 0, .int .i64 0] 30 (0, 0)) (kb_ BK596.out) hb); have n4_ := Aside0.mk (blk_below (g := gb597) (o := .cells #[.int .i64 a1_0, .int .i64 a1_1, .int .i64 0] 30 (0, 0)) (kb_ BK597.out) hb); have n5_ := Aside0.mk (KeepBut.trans (by repeat (first | (with_reducible first | exact HK.out | apply KeepBut.set_ | apply keep_drewN | apply keep_drew | apply keep_alloc | refine keep_far ?_ GW595.out _ | refine keep_far ?_ GW596.out _ | refine keep_far ?_ GW597.out _) | exact HK.out)) (KeepBut.of_below hb g none) (.inl rfl)); have n6_ := Aside0.mk (below_step (by repeat (first | (with_reducible first | exact HB.out | apply below_alloc | apply pw_below_drewN | apply below_drew1 | refine below_set ?_ (IsS94.ge HI0.out) | refine below_set ?_ GE595.out | refine below_set ?_ GE596.out | refine below_set ?_ GE597.out) | exact HB.out)) hb); clear HI0; clear BK595; clear BK596; clear BK597; clear HK; clear HB; have HO602 := n0_; have HI0 := n1_; have BK595 := n2_; have BK596 := n3_; have BK597 := n4_; have HK := n5_; have HB := n6_; clear n0_ n1_ n2_ n3_ n4_ n5_ n6_; clear hb ho22))
   go_loopg [8] k (fun kq v8 w' => ∃ (x7_1 : List Int) (x8_1 : Int), v8 = .int .i64 x8_1 ∧ Aside0 (spec_l03Tree.l0 kq t598 x7_1 x8_1 s0_0 s0_1 s0_2 a1_0 a1_1 a1_0 a1_1 0 = some (r1, r2, r3, r4, r5)) ∧ Aside0 (kq ≤ k) ∧ Aside0 (Kd.R (Kd.int .i64) 3 w' w.heap.size (fun _ => True) v601 x7_1) ∧ Aside0 (w'.heap[gb595]? = some (.cells #[.int .i64 a1_0, .int .i64 a1_1] 28 (0, 0))) ∧ Aside0 (w'.heap[gb596]? = some (.cells #[.int .i64 0, .int .i64 0, .int .i64 0] 30 (0, 0))) ∧ Aside0 (w'.heap[gb597]? = some (.cells #[.int .i64 a1_0, .int .i64 a1_1, .int .i64 0] 30 (0, 0))) ∧ Aside0 (IsS94 w0 w' g s0_0 s0_1 s0_2) ∧ Aside0 (KeepBut w w' g none) ∧ Aside0 (Below w0.heap.size w0 w'))
   case atStart => exact ⟨(y600), (0), (by first | rfl | (simp; done) | (simp [*]; done)), H', ⟨Nat.le_refl _⟩, ⟨kr_ HO602.out⟩, ⟨kb_ BK595.out⟩, ⟨kb_ BK596.out⟩, ⟨kb_ BK597.out⟩, ⟨by repeat (first | (with_reducible first | exact HI0.out | apply IsS94.alloc | apply IsS94.drewN | apply IsS94.drew | apply IsS94.set_1 | apply IsS94.set_2 | refine IsS94.far ?_ NB0_595.out _ | refine IsS94.far ?_ NB0_596.out _ | refine IsS94.far ?_ NB0_597.out _) | exact HI0.out)⟩, ⟨by repeat (first | (with_reducible first | exact HK.out | apply KeepBut.set_ | apply keep_drewN | apply keep_drew | apply keep_alloc | refine keep_far ?_ GW595.out _ | refine keep_far ?_ GW596.out _ | refine keep_far ?_ GW597.out _) | exact HK.out)⟩, ⟨by repeat (first | (with_reducible first | exact HB.out | apply below_alloc | apply pw_below_drewN | apply below_drew1 | refine below_set ?_ (IsS94.ge HI0.out) | refine below_set ?_ GE595.out | refine below_set ?_ GE596.out | refine below_set ?_ GE597.out) | exact HB.out)⟩⟩
   case round =>
    clear H'
    try clear c1
    try clear p2
    try clear c4
    try clear c5
    try clear c5b0
    try clear c5b1
    try clear c6
    try clear c6b0
    try clear c6b1
    try clear c9
    try clear c10
    try clear c12
    try clear c13
    try clear c14
    try clear c15
    try clear hcz11_0
    try clear hcz11_1
    try clear hcz16_0
    try clear hcz16_1
    try clear hcz16_2
    try clear hcz17_0
    try clear hcz17_1
    try clear hcz19_0
    try clear hcz19_1
    try clear hfz11_0
    try clear hfz11_1
    try clear hfz16_0
    try clear hfz16_1
    try clear hfz16_2
    try clear hfz17_0
    try clear hfz17_1
    try clear hfz19_0
    try clear hfz19_1
    obtain ⟨x7_1, x8_1, rfl, HA, HK1, HO_7, BK595, BK596, BK597, HI0, HK, HB⟩ := hrel
    cases gk with
    | zero => exact absurd HA.out (by simp [spec_l03Tree.l0])
    | succ k1 =>
     have H := HA.out
     clear HA
     simp only [spec_l03Tree.l0] at H
     by_cases c23 : x8_1 < (x7_1.length : Int)
     ·rw [if_pos c23] at H
      have c23b0 : decide (x8_1 < (x7_1.length : Int)) = true := decide_eq_true c23
      clear c23
      by_cases c24 : 0 ≤ x8_1
      ·rw [if_pos c24] at H
       have c24b0 : decide (0 ≤ x8_1) = true := decide_eq_true c24
       clear c24
       obtain ⟨y603, hy603⟩ : ∃ y_ : List Int, y_ = (x7_1.set (x8_1 : Int).toNat x8_1) := ⟨_, rfl⟩
       replace H : (spec_l03Tree.l0 k1 t598 y603 (wrap64 (x8_1 + 1)) s0_0 s0_1 s0_2 a1_0 a1_1 a1_0 a1_1 0) = some (r1, r2, r3, r4, r5) := by first | (rw [hy603]; with_reducible exact H) | (have H2_ := (Option.bind_some _ _).symm.trans H; rw [hy603]; with_reducible exact H2_) | (have H2_ := (Option.bind_some _ _).symm.trans H; with_reducible exact H2_) | with_reducible exact H | (rw [hy603]; exact H) | exact H
       have Ny603 := Aside0.mk hy603
       clear hy603
       have H' := Aside0.mk H
       clear H
       obtain ⟨Ao26, co26, eo26⟩ := Kd.R_slice HO_7.out
       subst eo26
       have p25 : 0 ≤ (x8_1 : Int) := of_decide_eq_true (by first | (with_reducible assumption) | assumption)
       have q25 : (x8_1 : Int) < ((x7_1.length : Int) : Int) := of_decide_eq_true (by first | (with_reducible assumption) | assumption)
       obtain ⟨go25, co25, eo25, gb25, gl25, cl25, HG25⟩ := Kd.R_form HO_7.out (by omega)
       (first | cases eo25 | (injection eo25 with ea_ en_ ec_; (first | subst ea_ | (injection ea_ with ea_; subst ea_)); subst ec_; clear en_))
       have GB25 := Aside0.mk gb25
       have GG25 := Aside0.mk HG25
       clear gb25 gl25 HG25
       obtain ⟨hx25_0, hf25_0⟩ := Kd.R_celln 0 HO_7.out (x8_1 : Int) p25 q25
       replace p25 := eq_true p25
       replace q25 := eq_true q25
       have HP27 := Kd.R_putg HO_7.out (x8_1 : Int) x8_1
       go_wp2_with (first | ((with_reducible refine gate_store (t := 3) (p := 33) rfl ?_); refine store_event (t := 3) (p := 33) (v := ?vo_w28) (w1 := (wr.setCell ⟨go25, (x8_1 : Int).toNat, none⟩ (.int .i64 x8_1))) ?hg ?ho ?hn ?hr ?_; (case ho => rfl); (case hg => rfl); (case hn => rfl); (case hr => first | (go_simp; done) | (go_simp; rfl)); intro w28 hw; have hg : wr.grownBy w28 (some go25) := (by rw [hw]; exact HP27.2); have hp_ : Kd.R (Kd.int .i64) 3 w28 w.heap.size (fun _ => True) (.slice (some ⟨go25, 0, none⟩) x7_1.length co26) y603 := (by rw [hw, Ny603.out]; exact HP27.1); clear HP27; have n0_ := Aside0.mk (hp_); have n1_ := Aside0.mk (blk_grown (g := gb595) (o := .cells #[.int .i64 a1_0, .int .i64 a1_1] 28 (0, 0)) (kb_ BK595.out) hg (Kd.R_ne HO_7.out BK595.out (by decide))); have n2_ := Aside0.mk (blk_grown (g := gb596) (o := .cells #[.int .i64 0, .int .i64 0, .int .i64 0] 30 (0, 0)) (kb_ BK596.out) hg (Kd.R_ne HO_7.out BK596.out (by decide))); have n3_ := Aside0.mk (blk_grown (g := gb597) (o := .cells #[.int .i64 a1_0, .int .i64 a1_1, .int .i64 0] 30 (0, 0)) (kb_ BK597.out) hg (Kd.R_ne HO_7.out BK597.out (by decide))); have n4_ := Aside0.mk (IsS94.grown (by repeat (first | (with_reducible first | exact HI0.out | apply IsS94.alloc | apply IsS94.drewN | apply IsS94.drew | apply IsS94.set_1 | apply IsS94.set_2 | refine IsS94.far ?_ NB0_595.out _ | refine IsS94.far ?_ NB0_596.out _ | refine IsS94.far ?_ NB0_597.out _) | exact HI0.out)) hg (IsS94.own_ne HI0.out HO_7.out (by decide))); have n5_ := Aside0.mk ((by rw [hw]; exact below_set (HB.out) (Nat.le_trans HL.out GB25.out) : Below w0.heap.size w0 w28)); have n6_ := Aside0.mk (KeepBut.trans (by repeat (first | (with_reducible first | exact HK.out | apply KeepBut.set_ | apply keep_drewN | apply keep_drew | apply keep_alloc | refine keep_far ?_ GW595.out _ | refine keep_far ?_ GW596.out _ | refine keep_far ?_ GW597.out _) | exact HK.out)) (KeepBut.of_grown hg g) (Kd.R_base2 HO_7.out)); clear HO_7; clear BK595; clear BK596; clear BK597; clear HI0; clear HB; clear HK; have HO_7 := n0_; have BK595 := n1_; have BK596 := n2_; have BK597 := n3_; have HI0 := n4_; have HB := n5_; have HK := n6_; clear n0_ n1_ n2_ n3_ n4_ n5_ n6_; clear hg hw hp_))
       first | go_roundg k1 | (refine Handed.intro k1 ?measure ?_; rotate_left; go_step; (try simp only [add_plain]); (repeat apply Exists.intro); refine ⟨?rel, rfl⟩)
       case measure => have := HK1.out; omega
       case rel => exact ⟨(y603), (wrap64 (x8_1 + 1)), (by first | rfl | (simp; done) | (simp [*]; done)), H', ⟨by have := HK1.out; omega⟩, ⟨kr_ HO_7.out⟩, ⟨kb_ BK595.out⟩, ⟨kb_ BK596.out⟩, ⟨kb_ BK597.out⟩, ⟨by repeat (first | (with_reducible first | exact HI0.out | apply IsS94.alloc | apply IsS94.drewN | apply IsS94.drew | apply IsS94.set_1 | apply IsS94.set_2 | refine IsS94.far ?_ NB0_595.out _ | refine IsS94.far ?_ NB0_596.out _ | refine IsS94.far ?_ NB0_597.out _) | exact HI0.out)⟩, ⟨by repeat (first | (with_reducible first | exact HK.out | apply KeepBut.set_ | apply keep_drewN | apply keep_drew | apply keep_alloc | refine keep_far ?_ GW595.out _ | refine keep_far ?_ GW596.out _ | refine keep_far ?_ GW597.out _) | exact HK.out)⟩, ⟨by repeat (first | (with_reducible first | exact HB.out | apply below_alloc | apply pw_below_drewN | apply below_drew1 | refine below_set ?_ (IsS94.ge HI0.out) | refine below_set ?_ GE595.out | refine below_set ?_ GE596.out | refine below_set ?_ GE597.out) | exact HB.out)⟩⟩
      ·rw [if_neg c24] at H
       exact absurd H (by simp)
     ·rw [if_neg c23] at H
      have c23b0 : decide (x8_1 < (x7_1.length : Int)) = false := decide_eq_false c23
      clear c23
      by_cases c29 : t598 = 0
      ·rw [if_pos c29] at H
       have c29b0 : (t598 == 0) = true := beq_iff_eq.mpr c29
       have c29b1 : (t598 != 0) = false := bne_eq_false_iff_eq.mpr c29
       clear c29
       simp only [Option.some.injEq, Prod.mk.injEq] at H
       obtain ⟨rfl, rfl, rfl, rfl, rfl⟩ := H
       obtain ⟨Ao30, co30, eo30⟩ := Kd.R_slice HO_7.out
       subst eo30
       have hnb31 := NB597_595.out
       have hnc31 := NB595_597.out
       have hnb32 := NB597_596.out
       have hnc32 := NB596_597.out
       have hnb33 := NB597_0.out
       have hnc33 := NB0_597.out
       have hcz34_0 : wr.cell? ⟨gb597, 0, none⟩ = some (.int .i64 a1_0) := (blk_cell BK597.out 0).trans rfl
       have hcz34_1 : wr.cell? ⟨gb597, 1, none⟩ = some (.int .i64 a1_1) := (blk_cell BK597.out 1).trans rfl
       have hcz34_2 : wr.cell? ⟨gb597, 2, none⟩ = some (.int .i64 0) := (blk_cell BK597.out 2).trans rfl
       have hfz34_0 := blk_frozen BK597.out 0
       have hfz34_1 := blk_frozen BK597.out 1
       have hfz34_2 := blk_frozen BK597.out 2
       have hnb35 := NB596_595.out
       have hnc35 := NB595_596.out
       have hnb36 := NB596_0.out
       have hnc36 := NB0_596.out
       have hcz37_0 : wr.cell? ⟨gb596, 0, none⟩ = some (.int .i64 0) := (blk_cell BK596.out 0).trans rfl
       have hcz37_1 : wr.cell? ⟨gb596, 1, none⟩ = some (.int .i64 0) := (blk_cell BK596.out 1).trans rfl
       have hcz37_2 : wr.cell? ⟨gb596, 2, none⟩ = some (.int .i64 0) := (blk_cell BK596.out 2).trans rfl
       have hfz37_0 := blk_frozen BK596.out 0
       have hfz37_1 := blk_frozen BK596.out 1
       have hfz37_2 := blk_frozen BK596.out 2
       go_wp2
       try (have hq595_0 : _ = some (.int .i64 a1_0) := (blk_cell BK595.out 0).trans rfl; have hqf595_0 := blk_frozen BK595.out 0; have hq595_1 : _ = some (.int .i64 a1_1) := (blk_cell BK595.out 1).trans rfl; have hqf595_1 := blk_frozen BK595.out 1; have hq596_0 : _ = some (.int .i64 a1_0) := (blk_cell BK596.out 0).trans rfl; have hqf596_0 := blk_frozen BK596.out 0; have hq596_1 : _ = some (.int .i64 a1_1) := (blk_cell BK596.out 1).trans rfl; have hqf596_1 := blk_frozen BK596.out 1; have hq596_2 : _ = some (.int .i64 0) := (blk_cell BK596.out 2).trans rfl; have hqf596_2 := blk_frozen BK596.out 2; have hq597_0 : _ = some (.int .i64 a1_0) := (blk_cell BK597.out 0).trans rfl; have hqf597_0 := blk_frozen BK597.out 0; have hq597_1 : _ = some (.int .i64 a1_1) := (blk_cell BK597.out 1).trans rfl; have hqf597_1 := blk_frozen BK597.out 1; have hq597_2 : _ = some (.int .i64 0) := (blk_cell BK597.out 2).trans rfl; have hqf597_2 := blk_frozen BK597.out 2; go_wp2)
       refine bodyPost_ret (results_cell_row rfl _ _ gb596 30 #[.int .i64 a1_0, .int .i64 a1_1, .int .i64 0] (0, 0) _ rfl (by (with_reducible repeat (first | refine blk_drewN ?_ _ | refine blk_drew ?_ | refine blk_alloc ?_ _)); refine blk_put (cs := #[.int .i64 a1_0, .int .i64 a1_1, .int .i64 0]) ?_ 2 _ rfl; (with_reducible repeat (first | refine blk_drewN ?_ _ | refine blk_drew ?_ | refine blk_alloc ?_ _)); refine blk_put (cs := #[.int .i64 a1_0, .int .i64 0, .int .i64 0]) ?_ 1 _ rfl; (with_reducible repeat (first | refine blk_drewN ?_ _ | refine blk_drew ?_ | refine blk_alloc ?_ _)); refine blk_put (cs := #[.int .i64 0, .int .i64 0, .int .i64 0]) ?_ 0 _ rfl; (with_reducible repeat (first | refine blk_drewN ?_ _ | refine blk_drew ?_ | refine blk_alloc ?_ _)); exact BK596.out) Try.underlying30 rfl (by kernel_rfl)) rfl ?_
       exact ⟨er_, by repeat (first | (with_reducible first | exact HI0.out | apply IsS94.alloc | apply IsS94.drewN | apply IsS94.drew | apply IsS94.set_1 | apply IsS94.set_2 | refine IsS94.far ?_ NB0_595.out _ | refine IsS94.far ?_ NB0_596.out _ | refine IsS94.far ?_ NB0_597.out _) | exact HI0.out), by repeat (first | (with_reducible first | exact HB.out | apply below_alloc | apply pw_below_drewN | apply below_drew1 | refine below_set ?_ (IsS94.ge HI0.out) | refine below_set ?_ GE595.out | refine below_set ?_ GE596.out | refine below_set ?_ GE597.out) | exact HB.out), by repeat (first | (with_reducible first | exact HK.out | apply KeepBut.set_ | apply keep_drewN | apply keep_drew | apply keep_alloc | refine keep_far ?_ GW595.out _ | refine keep_far ?_ GW596.out _ | refine keep_far ?_ GW597.out _) | exact HK.out)⟩
      ·rw [if_neg c29] at H
       have c29b0 : (t598 == 0) = false := beq_eq_false_iff_ne.mpr c29
       have c29b1 : (t598 != 0) = true := bne_iff_ne.mpr c29
       replace H := Option.bind_eq_some_iff.mp H
       obtain ⟨⟨t604, t605, t606⟩, A380, H⟩ := H
       replace H : ((spec_l01Below.f s0_0 t605 t606 t598).bind fun bt607 => (spec_l03Tree.l1 k1 t598 x7_1 t604 (wrap64 (1 + bt607.1)) s0_0 bt607.2.1 bt607.2.2 a1_0 a1_1 a1_0 a1_1 0)) = some (r1, r2, r3, r4, r5) := H
       have A38 := Aside0.mk A380
       clear A380
       replace H := Option.bind_eq_some_iff.mp H
       obtain ⟨⟨t607, t608, t609⟩, A390, H⟩ := H
       replace H : (spec_l03Tree.l1 k1 t598 x7_1 t604 (wrap64 (1 + t607)) s0_0 t608 t609 a1_0 a1_1 a1_0 a1_1 0) = some (r1, r2, r3, r4, r5) := H
       have A39 := Aside0.mk A390
       clear A390
       have H' := Aside0.mk H
       clear H
       obtain ⟨Ao40, co40, eo40⟩ := Kd.R_slice HO_7.out
       subst eo40
       go_wp2_with (first | ((with_reducible refine gate_callee (f := 101) rfl ?_); refine goesL_ (some 39) rfl rfl Try.func101 (by kernel_rfl) rfl #[.pointer (some ⟨g, 0, none⟩), .int .i64 t598] rfl mp_ ?_; (with_reducible refine (spec_l01Below.calls g s0_0 s0_1 s0_2 t598 t604 t605 t606 w0 _ ?side1 ?side2 A38.out).mono ?_); (case side1 => repeat (first | (with_reducible first | exact HI0.out | apply IsS94.alloc | apply IsS94.drewN | apply IsS94.drew | apply IsS94.set_1 | apply IsS94.set_2 | refine IsS94.far ?_ NB0_595.out _ | refine IsS94.far ?_ NB0_596.out _ | refine IsS94.far ?_ NB0_597.out _) | exact HI0.out)); (case side2 => repeat (first | (with_reducible first | exact HB.out | apply below_alloc | apply pw_below_drewN | apply below_drew1 | refine below_set ?_ (IsS94.ge HI0.out) | refine below_set ?_ GE595.out | refine below_set ?_ GE596.out | refine below_set ?_ GE597.out) | exact HB.out)); rintro e w41 ⟨rfl, hi, hb, hk⟩; refine ⟨_, rfl, ?_⟩; have n0_ := Aside0.mk (Kd.R_mono (Kd.R_keep (IsS94.apart (show IsS94 w0 _ g s0_0 s0_1 s0_2 from by repeat (first | (with_reducible first | exact HI0.out | apply IsS94.alloc | apply IsS94.drewN | apply IsS94.drew | apply IsS94.set_1 | apply IsS94.set_2 | refine IsS94.far ?_ NB0_595.out _ | refine IsS94.far ?_ NB0_596.out _ | refine IsS94.far ?_ NB0_597.out _) | exact HI0.out)) (kr_ HO_7.out) (by decide)) hk (fun _ h => h.2)) (fun _ h => h.1)); have n1_ := Aside0.mk (KeepBut.blk hk (g' := gb595) (o := .cells #[.int .i64 a1_0, .int .i64 a1_1] 28 (0, 0)) (kb_ BK595.out) NB595_0.out (by simp)); have n2_ := Aside0.mk (KeepBut.blk hk (g' := gb596) (o := .cells #[.int .i64 0, .int .i64 0, .int .i64 0] 30 (0, 0)) (kb_ BK596.out) NB596_0.out (by simp)); have n3_ := Aside0.mk (KeepBut.blk hk (g' := gb597) (o := .cells #[.int .i64 a1_0, .int .i64 a1_1, .int .i64 0] 30 (0, 0)) (kb_ BK597.out) NB597_0.out (by simp)); have n4_ := Aside0.mk (KeepBut.trans (by repeat (first | (with_reducible first | exact HK.out | apply KeepBut.set_ | apply keep_drewN | apply keep_drew | apply keep_alloc | refine keep_far ?_ GW595.out _ | refine keep_far ?_ GW596.out _ | refine keep_far ?_ GW597.out _) | exact HK.out)) hk (.inl rfl)); have n5_ := Aside0.mk (hb); have n6_ := Aside0.mk (hi); clear HO_7; clear BK595; clear BK596; clear BK597; clear HK; clear HB; clear HI0; have HO_7 := n0_; have BK595 := n1_; have BK596 := n2_; have BK597 := n3_; have HK := n4_; have HB := n5_; have HI0 := n6_; clear n0_ n1_ n2_ n3_ n4_ n5_ n6_; (try clear hb); (try clear hb2); (try clear hk); (try clear hi)) | ((with_reducible refine gate_callee (f := 101) rfl ?_); refine goesL_ (some 42) rfl rfl Try.func101 (by kernel_rfl) rfl #[.pointer (some ⟨g, 0, none⟩), .int .i64 t598] rfl mp_ ?_; (with_reducible refine (spec_l01Below.calls g s0_0 t605 t606 t598 t607 t608 t609 w0 _ ?side1 ?side2 A39.out).mono ?_); (case side1 => repeat (first | (with_reducible first | exact HI0.out | apply IsS94.alloc | apply IsS94.drewN | apply IsS94.drew | apply IsS94.set_1 | apply IsS94.set_2 | refine IsS94.far ?_ NB0_595.out _ | refine IsS94.far ?_ NB0_596.out _ | refine IsS94.far ?_ NB0_597.out _) | exact HI0.out)); (case side2 => repeat (first | (with_reducible first | exact HB.out | apply below_alloc | apply pw_below_drewN | apply below_drew1 | refine below_set ?_ (IsS94.ge HI0.out) | refine below_set ?_ GE595.out | refine below_set ?_ GE596.out | refine below_set ?_ GE597.out) | exact HB.out)); rintro e w42 ⟨rfl, hi, hb, hk⟩; refine ⟨_, rfl, ?_⟩; have n0_ := Aside0.mk (Kd.R_mono (Kd.R_keep (IsS94.apart (show IsS94 w0 _ g s0_0 t605 t606 from by repeat (first | (with_reducible first | exact HI0.out | apply IsS94.alloc | apply IsS94.drewN | apply IsS94.drew | apply IsS94.set_1 | apply IsS94.set_2 | refine IsS94.far ?_ NB0_595.out _ | refine IsS94.far ?_ NB0_596.out _ | refine IsS94.far ?_ NB0_597.out _) | exact HI0.out)) (kr_ HO_7.out) (by decide)) hk (fun _ h => h.2)) (fun _ h => h.1)); have n1_ := Aside0.mk (KeepBut.blk hk (g' := gb595) (o := .cells #[.int .i64 a1_0, .int .i64 a1_1] 28 (0, 0)) (kb_ BK595.out) NB595_0.out (by simp)); have n2_ := Aside0.mk (KeepBut.blk hk (g' := gb596) (o := .cells #[.int .i64 0, .int .i64 0, .int .i64 0] 30 (0, 0)) (kb_ BK596.out) NB596_0.out (by simp)); have n3_ := Aside0.mk (KeepBut.blk hk (g' := gb597) (o := .cells #[.int .i64 a1_0, .int .i64 a1_1, .int .i64 0] 30 (0, 0)) (kb_ BK597.out) NB597_0.out (by simp)); have n4_ := Aside0.mk (KeepBut.trans (by repeat (first | (with_reducible first | exact HK.out | apply KeepBut.set_ | apply keep_drewN | apply keep_drew | apply keep_alloc | refine keep_far ?_ GW595.out _ | refine keep_far ?_ GW596.out _ | refine keep_far ?_ GW597.out _) | exact HK.out)) hk (.inl rfl)); have n5_ := Aside0.mk (hb); have n6_ := Aside0.mk (hi); clear HO_7; clear BK595; clear BK596; clear BK597; clear HK; clear HB; clear HI0; have HO_7 := n0_; have BK595 := n1_; have BK596 := n2_; have BK597 := n3_; have HK := n4_; have HB := n5_; have HI0 := n6_; clear n0_ n1_ n2_ n3_ n4_ n5_ n6_; (try clear hb); (try clear hb2); (try clear hk); (try clear hi)))
       go_loopg [10] k1 (fun kq v10 w' => ∃ (x10_2 : Int), v10 = .int .i64 x10_2 ∧ Aside0 (spec_l03Tree.l1 kq t598 x7_1 t604 x10_2 s0_0 t608 t609 a1_0 a1_1 a1_0 a1_1 0 = some (r1, r2, r3, r4, r5)) ∧ Aside0 (kq ≤ k1) ∧ Aside0 (Kd.R (Kd.int .i64) 3 w' w.heap.size (fun _ => True) (.slice Ao40 x7_1.length co40) x7_1) ∧ Aside0 (w'.heap[gb595]? = some (.cells #[.int .i64 a1_0, .int .i64 a1_1] 28 (0, 0))) ∧ Aside0 (w'.heap[gb596]? = some (.cells #[.int .i64 0, .int .i64 0, .int .i64 0] 30 (0, 0))) ∧ Aside0 (w'.heap[gb597]? = some (.cells #[.int .i64 a1_0, .int .i64 a1_1, .int .i64 0] 30 (0, 0))) ∧ Aside0 (IsS94 w0 w' g s0_0 t608 t609) ∧ Aside0 (KeepBut w w' g none) ∧ Aside0 (Below w0.heap.size w0 w'))
       case atStart => exact ⟨(wrap64 (1 + t607)), (by first | rfl | (simp; done) | (simp [*]; done)), H', ⟨Nat.le_refl _⟩, ⟨kr_ HO_7.out⟩, ⟨kb_ BK595.out⟩, ⟨kb_ BK596.out⟩, ⟨kb_ BK597.out⟩, ⟨by repeat (first | (with_reducible first | exact HI0.out | apply IsS94.alloc | apply IsS94.drewN | apply IsS94.drew | apply IsS94.set_1 | apply IsS94.set_2 | refine IsS94.far ?_ NB0_595.out _ | refine IsS94.far ?_ NB0_596.out _ | refine IsS94.far ?_ NB0_597.out _) | exact HI0.out)⟩, ⟨by repeat (first | (with_reducible first | exact HK.out | apply KeepBut.set_ | apply keep_drewN | apply keep_drew | apply keep_alloc | refine keep_far ?_ GW595.out _ | refine keep_far ?_ GW596.out _ | refine keep_far ?_ GW597.out _) | exact HK.out)⟩, ⟨by repeat (first | (with_reducible first | exact HB.out | apply below_alloc | apply pw_below_drewN | apply below_drew1 | refine below_set ?_ (IsS94.ge HI0.out) | refine below_set ?_ GE595.out | refine below_set ?_ GE596.out | refine below_set ?_ GE597.out) | exact HB.out)⟩⟩
       case round =>
        clear H'
        try clear c1
        try clear c2
        try clear p2
        try clear q2
        try clear hx2
        try clear hf2
        try clear c3
        try clear c4
        try clear c5
        try clear c5b0
        try clear c5b1
        try clear q5
        try clear c6
        try clear c6b0
        try clear c6b1
        try clear p6
        try clear c9
        try clear c10
        try clear c12
        try clear c13
        try clear c14
        try clear c15
        try clear c23
        try clear c23b0
        try clear c24
        try clear c24b0
        try clear p25
        try clear q25
        try clear hx25
        try clear hf25
        try clear c29
        try clear c29b0
        try clear c29b1
        try clear c31
        try clear c32
        try clear c33
        try clear c35
        try clear c36
        try clear c40
        try clear hcz11_0
        try clear hcz11_1
        try clear hcz16_0
        try clear hcz16_1
        try clear hcz16_2
        try clear hcz17_0
        try clear hcz17_1
        try clear hcz19_0
        try clear hcz19_1
        try clear hcz34_0
        try clear hcz34_1
        try clear hcz34_2
        try clear hcz37_0
        try clear hcz37_1
        try clear hcz37_2
        try clear hfz11_0
        try clear hfz11_1
        try clear hfz16_0
        try clear hfz16_1
        try clear hfz16_2
        try clear hfz17_0
        try clear hfz17_1
        try clear hfz19_0
        try clear hfz19_1
        try clear hfz34_0
        try clear hfz34_1
        try clear hfz34_2
        try clear hfz37_0
        try clear hfz37_1
        try clear hfz37_2
        try clear hx25_0
        try clear p2
        try clear p25
        try clear q25
        obtain ⟨x10_2, rfl, HA, HK2, HO_7, BK595, BK596, BK597, HI0, HK, HB⟩ := hrel
        cases gk with
        | zero => exact absurd HA.out (by simp [spec_l03Tree.l1])
        | succ k2 =>
         have H := HA.out
         clear HA
         simp only [spec_l03Tree.l1] at H
         replace H := Option.bind_eq_some_iff.mp H
         obtain ⟨t610, A430, H⟩ := H
         replace H : (if t610 = true then (spec_l03Tree.l1 k2 t598 x7_1 t604 (wrap64 (x10_2 + 1)) s0_0 t608 t609 a1_0 a1_1 a1_0 a1_1 0) else (spec_l03Tree.l2 k2 t598 x7_1 t604 x10_2 0 s0_0 t608 t609 a1_0 a1_1 a1_0 a1_1 0)) = some (r1, r2, r3, r4, r5) := H
         have A43 := Aside0.mk A430
         clear A430
         by_cases c44 : t610 = true
         ·subst c44
          have H1 : (spec_l03Tree.l1 k2 t598 x7_1 t604 (wrap64 (x10_2 + 1)) s0_0 t608 t609 a1_0 a1_1 a1_0 a1_1 0) = some (r1, r2, r3, r4, r5) := by rw [if_pos rfl] at H; exact H
          clear H
          have H := H1
          clear H1
          have H' := Aside0.mk H
          clear H
          go_wp2_with (first | ((with_reducible refine gate_callee (f := 135) rfl ?_); refine goesL_ (some 46) rfl rfl Try.func135 (by kernel_rfl) rfl #[.int .i64 x10_2, .int .i64 t598] rfl mp_ ?_; (with_reducible refine (spec_l03Common.calls k2 x10_2 t598 true _ A43.out).mono ?_); rintro e w' ⟨rfl, ⟨nd, rfl⟩⟩; refine ⟨_, rfl, ?_⟩))
          first | go_roundg k2 | (refine Handed.intro k2 ?measure ?_; rotate_left; go_step; (try simp only [add_plain]); (repeat apply Exists.intro); refine ⟨?rel, rfl⟩)
          case measure => have := HK1.out; have := HK2.out; omega
          case rel => exact ⟨(wrap64 (x10_2 + 1)), (by first | rfl | (simp; done) | (simp [*]; done)), H', ⟨by have := HK1.out; have := HK2.out; omega⟩, ⟨kr_ HO_7.out⟩, ⟨kb_ BK595.out⟩, ⟨kb_ BK596.out⟩, ⟨kb_ BK597.out⟩, ⟨by repeat (first | (with_reducible first | exact HI0.out | apply IsS94.alloc | apply IsS94.drewN | apply IsS94.drew | apply IsS94.set_1 | apply IsS94.set_2 | refine IsS94.far ?_ NB0_595.out _ | refine IsS94.far ?_ NB0_596.out _ | refine IsS94.far ?_ NB0_597.out _) | exact HI0.out)⟩, ⟨by repeat (first | (with_reducible first | exact HK.out | apply KeepBut.set_ | apply keep_drewN | apply keep_drew | apply keep_alloc | refine keep_far ?_ GW595.out _ | refine keep_far ?_ GW596.out _ | refine keep_far ?_ GW597.out _) | exact HK.out)⟩, ⟨by repeat (first | (with_reducible first | exact HB.out | apply below_alloc | apply pw_below_drewN | apply below_drew1 | refine below_set ?_ (IsS94.ge HI0.out) | refine below_set ?_ GE595.out | refine below_set ?_ GE596.out | refine below_set ?_ GE597.out) | exact HB.out)⟩⟩
         ·replace c44 := Bool.eq_false_iff.mpr c44
          subst c44
          have H1 : (spec_l03Tree.l2 k2 t598 x7_1 t604 x10_2 0 s0_0 t608 t609 a1_0 a1_1 a1_0 a1_1 0) = some (r1, r2, r3, r4, r5) := by rw [if_neg (show ¬ (false = true) by decide)] at H; exact H
          clear H
          have H := H1
          clear H1
          have H' := Aside0.mk H
          clear H
          go_wp2_with (first | ((with_reducible refine gate_callee (f := 135) rfl ?_); refine goesL_ (some 46) rfl rfl Try.func135 (by kernel_rfl) rfl #[.int .i64 x10_2, .int .i64 t598] rfl mp_ ?_; (with_reducible refine (spec_l03Common.calls k2 x10_2 t598 false _ A43.out).mono ?_); rintro e w' ⟨rfl, ⟨nd, rfl⟩⟩; refine ⟨_, rfl, ?_⟩))
          go_loopg [11] k2 (fun kq v11 w' => ∃ (x7_3 : List Int) (x11_3 : Int) (x598002_3 : Int), v11 = .int .i64 x11_3 ∧ Aside0 (spec_l03Tree.l2 kq t598 x7_3 t604 x10_2 x11_3 s0_0 t608 t609 a1_0 a1_1 a1_0 a1_1 x598002_3 = some (r1, r2, r3, r4, r5)) ∧ Aside0 (kq ≤ k2) ∧ Aside0 (Kd.R (Kd.int .i64) 3 w' w.heap.size (fun _ => True) (.slice Ao40 x7_1.length co40) x7_3) ∧ Aside0 (w'.heap[gb595]? = some (.cells #[.int .i64 a1_0, .int .i64 a1_1] 28 (0, 0))) ∧ Aside0 (w'.heap[gb596]? = some (.cells #[.int .i64 0, .int .i64 0, .int .i64 0] 30 (0, 0))) ∧ Aside0 (w'.heap[gb597]? = some (.cells #[.int .i64 a1_0, .int .i64 a1_1, .int .i64 x598002_3] 30 (0, 0))) ∧ Aside0 (IsS94 w0 w' g s0_0 t608 t609) ∧ Aside0 (KeepBut w w' g none) ∧ Aside0 (Below w0.heap.size w0 w'))
          case atStart => exact ⟨(x7_1), (0), (0), (by first | rfl | (simp; done) | (simp [*]; done)), H', ⟨Nat.le_refl _⟩, ⟨kr_ HO_7.out⟩, ⟨kb_ BK595.out⟩, ⟨kb_ BK596.out⟩, ⟨kb_ BK597.out⟩, ⟨by repeat (first | (with_reducible first | exact HI0.out | apply IsS94.alloc | apply IsS94.drewN | apply IsS94.drew | apply IsS94.set_1 | apply IsS94.set_2 | refine IsS94.far ?_ NB0_595.out _ | refine IsS94.far ?_ NB0_596.out _ | refine IsS94.far ?_ NB0_597.out _) | exact HI0.out)⟩, ⟨by repeat (first | (with_reducible first | exact HK.out | apply KeepBut.set_ | apply keep_drewN | apply keep_drew | apply keep_alloc | refine keep_far ?_ GW595.out _ | refine keep_far ?_ GW596.out _ | refine keep_far ?_ GW597.out _) | exact HK.out)⟩, ⟨by repeat (first | (with_reducible first | exact HB.out | apply below_alloc | apply pw_below_drewN | apply below_drew1 | refine below_set ?_ (IsS94.ge HI0.out) | refine below_set ?_ GE595.out | refine below_set ?_ GE596.out | refine below_set ?_ GE597.out) | exact HB.out)⟩⟩
          case round =>
           clear H'
           try clear c1
           try clear c2
           try clear p2
           try clear q2
           try clear hx2
           try clear hf2
           try clear c3
           try clear c4
           try clear c5
           try clear c5b0
           try clear c5b1
           try clear q5
           try clear c6
           try clear c6b0
           try clear c6b1
           try clear p6
           try clear c9
           try clear c10
           try clear c12
           try clear c13
           try clear c14
           try clear c15
           try clear c23
           try clear c23b0
           try clear c24
           try clear c24b0
           try clear p25
           try clear q25
           try clear hx25
           try clear hf25
           try clear c29
           try clear c29b0
           try clear c29b1
           try clear c31
           try clear c32
           try clear c33
           try clear c35
           try clear c36
           try clear c40
           try clear c43
           try clear c44
           try clear hcz11_0
           try clear hcz11_1
           try clear hcz16_0
           try clear hcz16_1
           try clear hcz16_2
           try clear hcz17_0
           try clear hcz17_1
           try clear hcz19_0
           try clear hcz19_1
           try clear hcz34_0
           try clear hcz34_1
           try clear hcz34_2
           try clear hcz37_0
           try clear hcz37_1
           try clear hcz37_2
           try clear hfz11_0
           try clear hfz11_1
           try clear hfz16_0
           try clear hfz16_1
           try clear hfz16_2
           try clear hfz17_0
           try clear hfz17_1
           try clear hfz19_0
           try clear hfz19_1
           try clear hfz34_0
           try clear hfz34_1
           try clear hfz34_2
           try clear hfz37_0
           try clear hfz37_1
           try clear hfz37_2
           try clear hx25_0
           try clear p2
           try clear p25
           try clear p6
           try clear q2
           try clear q25
           try clear q5
           obtain ⟨x7_3, x11_3, x598002_3, rfl, HA, HK3, HO_7, BK595, BK596, BK597, HI0, HK, HB⟩ := hrel
           have hl7_3 := (Kd.R_reads' HO_7.out).1
           rw [hl7_3] at HO_7
           (try simp only [hl7_3])
           (try simp only [hl7_3] at BK595)
           (try simp only [hl7_3] at BK596)
           (try simp only [hl7_3] at BK597)
           cases gk with
           | zero => exact absurd HA.out (by simp [spec_l03Tree.l2])
           | succ k3 =>
            have H := HA.out
            clear HA
            simp only [spec_l03Tree.l2] at H
            by_cases c45 : x11_3 < t598
            ·rw [if_pos c45] at H
             have c45b0 : decide (x11_3 < t598) = true := decide_eq_true c45
             clear c45
             by_cases c46 : t598 = 0
             ·rw [if_pos c46] at H
              exact absurd H (by simp)
             ·rw [if_neg c46] at H
              have c46b0 : (t598 == 0) = false := beq_eq_false_iff_ne.mpr c46
              have c46b1 : (t598 != 0) = true := bne_iff_ne.mpr c46
              replace H := Option.bind_eq_some_iff.mp H
              obtain ⟨⟨t611, t612⟩, A470, H⟩ := H
              replace H : (if 0 ≤ t611 then (if t611 < (x7_3.length : Int) then (if 0 ≤ t612 then (if t612 < (x7_3.length : Int) then (if (rd x7_3 t611) = (rd x7_3 t612) then (spec_l03Tree.l2 k3 t598 x7_3 t604 x10_2 (wrap64 (x11_3 + 1)) s0_0 t608 t609 a1_0 a1_1 a1_0 a1_1 x598002_3) else (if 0 ≤ (Int.tmod (wrap64 (t604 + (wrap64 (x11_3 * x10_2)))) t598) then (spec_l03Tree.l3 k3 t598 x7_3 t604 x10_2 x11_3 t611 (rd x7_3 t612) 0 s0_0 t608 t609 a1_0 a1_1 a1_0 a1_1 (Go.bits .or .i64 x598002_3 (shl .i64 1 (Int.tmod (wrap64 (t604 + (wrap64 (x11_3 * x10_2)))) t598)))) else (none))) else (none)) else (none)) else (none)) else (none)) = some (r1, r2, r3, r4, r5) := H
              have A47 := Aside0.mk A470
              clear A470
              by_cases c48 : 0 ≤ t611
              ·rw [if_pos c48] at H
               have c48b0 : decide (0 ≤ t611) = true := decide_eq_true c48
               clear c48
               by_cases c49 : t611 < (x7_3.length : Int)
               ·rw [if_pos c49] at H
                have c49b0 : decide (t611 < (x7_3.length : Int)) = true := decide_eq_true c49
                clear c49
                by_cases c50 : 0 ≤ t612
                ·rw [if_pos c50] at H
                 have c50b0 : decide (0 ≤ t612) = true := decide_eq_true c50
                 clear c50
                 by_cases c51 : t612 < (x7_3.length : Int)
                 ·rw [if_pos c51] at H
                  have c51b0 : decide (t612 < (x7_3.length : Int)) = true := decide_eq_true c51
                  clear c51
                  by_cases c52 : (rd x7_3 t611) = (rd x7_3 t612)
                  ·rw [if_pos c52] at H
                   have c52b0 : ((rd x7_3 t611) == (rd x7_3 t612)) = true := beq_iff_eq.mpr c52
                   have c52b1 : ((rd x7_3 t611) != (rd x7_3 t612)) = false := bne_eq_false_iff_eq.mpr c52
                   clear c52
                   have H' := Aside0.mk H
                   clear H
                   have hnb53 := NB595_596.out
                   have hnc53 := NB596_595.out
                   have hnb54 := NB595_597.out
                   have hnc54 := NB597_595.out
                   have hnb55 := NB595_0.out
                   have hnc55 := NB0_595.out
                   have hcz56_0 : wr.cell? ⟨gb595, 0, none⟩ = some (.int .i64 a1_0) := (blk_cell BK595.out 0).trans rfl
                   have hcz56_1 : wr.cell? ⟨gb595, 1, none⟩ = some (.int .i64 a1_1) := (blk_cell BK595.out 1).trans rfl
                   have hfz56_0 := blk_frozen BK595.out 0
                   have hfz56_1 := blk_frozen BK595.out 1
                   try go_wp2_with (first | ((with_reducible refine gate_callee (f := 133) rfl ?_); refine goesL_ (some 64) rfl rfl Try.func133 (by kernel_rfl) rfl #[.agg #[.int .i64 a1_0, .int .i64 a1_1], .int .i64 (Int.tmod (wrap64 (t604 + (wrap64 (x11_3 * x10_2)))) t598)] rfl mp_ ?_; (with_reducible refine (spec_EndsOf.calls a1_0 a1_1 (Int.tmod (wrap64 (t604 + (wrap64 (x11_3 * x10_2)))) t598) t611 t612 _ A47.out).mono ?_); rintro e w57 ⟨rfl, hb⟩; refine ⟨_, rfl, ?_⟩; have n0_ := Aside0.mk (Kd.R_below (kr_ HO_7.out) hb); have n1_ := Aside0.mk (blk_below (g := gb595) (o := .cells #[.int .i64 a1_0, .int .i64 a1_1] 28 (0, 0)) (kb_ BK595.out) hb); have n2_ := Aside0.mk (blk_below (g := gb596) (o := .cells #[.int .i64 0, .int .i64 0, .int .i64 0] 30 (0, 0)) (kb_ BK596.out) hb); have n3_ := Aside0.mk (blk_below (g := gb597) (o := .cells #[.int .i64 a1_0, .int .i64 a1_1, .int .i64 x598002_3] 30 (0, 0)) (kb_ BK597.out) hb); have n4_ := Aside0.mk (IsS94.below (by repeat (first | (with_reducible first | exact HI0.out | apply IsS94.alloc | apply IsS94.drewN | apply IsS94.drew | apply IsS94.set_1 | apply IsS94.set_2 | refine IsS94.far ?_ NB0_595.out _ | refine IsS94.far ?_ NB0_596.out _ | refine IsS94.far ?_ NB0_597.out _) | exact HI0.out)) hb); have n5_ := Aside0.mk (KeepBut.trans (by repeat (first | (with_reducible first | exact HK.out | apply KeepBut.set_ | apply keep_drewN | apply keep_drew | apply keep_alloc | refine keep_far ?_ GW595.out _ | refine keep_far ?_ GW596.out _ | refine keep_far ?_ GW597.out _) | exact HK.out)) (KeepBut.of_below hb g none) (.inl rfl)); have n6_ := Aside0.mk (below_step (by repeat (first | (with_reducible first | exact HB.out | apply below_alloc | apply pw_below_drewN | apply below_drew1 | refine below_set ?_ (IsS94.ge HI0.out) | refine below_set ?_ GE595.out | refine below_set ?_ GE596.out | refine below_set ?_ GE597.out) | exact HB.out)) hb); clear HO_7; clear BK595; clear BK596; clear BK597; clear HI0; clear HK; clear HB; have HO_7 := n0_; have BK595 := n1_; have BK596 := n2_; have BK597 := n3_; have HI0 := n4_; have HK := n5_; have HB := n6_; clear n0_ n1_ n2_ n3_ n4_ n5_ n6_; (try clear hb); (try clear hb2); (try clear hk); (try clear hi)))
                   have n0_ := Aside0.mk (Kd.R_drew HO_7.out)
                   have n1_ := Aside0.mk (blk_drew BK595.out)
                   have n2_ := Aside0.mk (blk_drew BK596.out)
                   have n3_ := Aside0.mk (blk_drew BK597.out)
                   have n4_ := Aside0.mk (IsS94.drew HI0.out)
                   have n5_ := Aside0.mk (keep_drew HK.out)
                   have n6_ := Aside0.mk (below_drew1 HB.out)
                   clear HO_7
                   clear BK595
                   clear BK596
                   clear BK597
                   clear HI0
                   clear HK
                   clear HB
                   have HO_7 := n0_
                   have BK595 := n1_
                   have BK596 := n2_
                   have BK597 := n3_
                   have HI0 := n4_
                   have HK := n5_
                   have HB := n6_
                   clear n0_ n1_ n2_ n3_ n4_ n5_ n6_
                   have p613 : 0 ≤ (t611 : Int) := of_decide_eq_true (by first | (with_reducible assumption) | assumption)
                   have q613 : t611 < (x7_3.length : Int) := of_decide_eq_true (by first | (with_reducible assumption) | assumption)
                   obtain ⟨ad613, e613, hx613_0⟩ := Kd.at_int (Kd.R_reads' HO_7.out).2.2 t611 p613 q613
                   cases e613
                   replace p613 := eq_true p613
                   replace q613 := eq_true q613
                   have p614 : 0 ≤ (t612 : Int) := of_decide_eq_true (by first | (with_reducible assumption) | assumption)
                   have q614 : t612 < (x7_3.length : Int) := of_decide_eq_true (by first | (with_reducible assumption) | assumption)
                   obtain ⟨ad614, e614, hx614_0⟩ := Kd.at_int (Kd.R_reads' HO_7.out).2.2 t612 p614 q614
                   obtain rfl : ad613 = ad614 := (by injection e614)
                   replace p614 := eq_true p614
                   replace q614 := eq_true q614
                   refine start_ (n := 9) (S := fun w' => w'.cell? (ad613.add (t611).toNat) = some (.int .i64 (rd x7_3 t611)) ∧ w'.cell? (ad613.add (t612).toNat) = some (.int .i64 (rd x7_3 t612))) (ds := []) #[false, false, false, false, false, false, false, false, false] (by kernel_rfl) rfl rfl ⟨hx613_0, hx614_0⟩ (fun hHeld => ?_); refine with_tabW spec_l03Tree.tab19 spec_l03Tree.bits19 (fun HT_ HW_ => ?_)
                   generalize w57.drew = w58 at HO_7 BK595 BK596 BK597 HI0 HK HB hx613_0 hx614_0 hHeld ⊢
                   refine pure_ (i := 0) (N := some 67) (v := ?_) (a' := ?_) #[true, false, false, false, false, false, false, false, false] rfl rfl (any_of HT_.out (by kernel_rfl)) (fun _ _ _ h => h) (Or.inl ⟨by rfl, ?_⟩) ?_ ?_
                   rotate_left
                   ·intro w'
                    go_simp
                    with_reducible rfl
                   rotate_left
                   ·simp only [Act.put, List.setIfInBounds_toArray, List.set_cons_zero, List.set_cons_succ, i64_w, i32_w]
                    rfl
                   refine pure_ (i := 1) (N := some 68) (v := ?_) (a' := ?_) #[true, true, false, false, false, false, false, false, false] rfl rfl (any_of HT_.out (by kernel_rfl)) (fun _ _ _ h => h) (Or.inl ⟨by rfl, ?_⟩) ?_ ?_
                   rotate_left
                   ·intro w'
                    go_simp
                    with_reducible rfl
                   rotate_left
                   ·simp only [Act.put, List.setIfInBounds_toArray, List.set_cons_zero, List.set_cons_succ, i64_w, i32_w]
                    rfl
                   refine pure_ (i := 2) (N := some 69) (v := ?_) (a' := ?_) #[true, true, true, false, false, false, false, false, false] rfl rfl (any_of HT_.out (by kernel_rfl)) (fun _ _ _ h => h) (Or.inl ⟨by rfl, ?_⟩) ?_ ?_
                   rotate_left
                   ·intro w'
                    go_simp
                    with_reducible rfl
                   rotate_left
                   ·simp only [Act.put, List.setIfInBounds_toArray, List.set_cons_zero, List.set_cons_succ, i64_w, i32_w]
                    rfl
                   refine pure_ (i := 4) (N := some 71) (v := ?_) (a' := ?_) #[true, true, true, false, true, false, false, false, false] rfl rfl (any_of HT_.out (by kernel_rfl)) (fun _ _ _ h => h) (Or.inl ⟨by rfl, ?_⟩) ?_ ?_
                   rotate_left
                   ·intro w'
                    go_simp
                    with_reducible rfl
                   rotate_left
                   ·simp only [Act.put, List.setIfInBounds_toArray, List.set_cons_zero, List.set_cons_succ, i64_w, i32_w]
                    rfl
                   refine pure_ (i := 5) (N := some 72) (v := ?_) (a' := ?_) #[true, true, true, false, true, true, false, false, false] rfl rfl (any_of HT_.out (by kernel_rfl)) (fun _ _ _ h => h) (Or.inl ⟨by rfl, ?_⟩) ?_ ?_
                   rotate_left
                   ·intro w'
                    go_simp
                    with_reducible rfl
                   rotate_left
                   ·simp only [Act.put, List.setIfInBounds_toArray, List.set_cons_zero, List.set_cons_succ, i64_w, i32_w]
                    rfl
                   refine pure_ (i := 6) (N := some 73) (v := ?_) (a' := ?_) #[true, true, true, false, true, true, true, false, false] rfl rfl (any_of HT_.out (by kernel_rfl)) (fun _ _ _ h => h) (Or.inl ⟨by rfl, ?_⟩) ?_ ?_
                   rotate_left
                   ·intro w'
                    go_simp
                    with_reducible rfl
                   rotate_left
                   ·simp only [Act.put, List.setIfInBounds_toArray, List.set_cons_zero, List.set_cons_succ, i64_w, i32_w]
                    rfl
                   refine take_ (i := 3) (N := some 70) (v := ?_) (a' := ?_) #[true, true, true, true, true, true, true, false, false] rfl rfl (take_ofW HT_.out HW_.out (by kernel_rfl)) (fun _ _ _ h => h) (Or.inl ⟨by rfl, ?_⟩) hHeld ?_ ?_
                   rotate_left
                   ·rintro w' ⟨s0, s1⟩
                    go_simp
                    with_reducible rfl
                   rotate_left
                   ·simp only [Act.put, List.setIfInBounds_toArray, List.set_cons_zero, List.set_cons_succ, i64_w, i32_w]
                    rfl
                   refine take_ (i := 7) (N := some 74) (v := ?_) (a' := ?_) #[true, true, true, true, true, true, true, true, false] rfl rfl (take_ofW HT_.out HW_.out (by kernel_rfl)) (fun _ _ _ h => h) (Or.inl ⟨by rfl, ?_⟩) hHeld ?_ ?_
                   rotate_left
                   ·rintro w' ⟨s0, s1⟩
                    go_simp
                    with_reducible rfl
                   rotate_left
                   ·simp only [Act.put, List.setIfInBounds_toArray, List.set_cons_zero, List.set_cons_succ, i64_w, i32_w]
                    rfl
                   refine pure_ (i := 8) (N := some 75) (v := ?_) (a' := ?_) #[true, true, true, true, true, true, true, true, true] rfl rfl (any_of HT_.out (by kernel_rfl)) (fun _ _ _ h => h) (Or.inl ⟨by rfl, ?_⟩) ?_ ?_
                   rotate_left
                   ·intro w'
                    go_simp
                    with_reducible rfl
                   rotate_left
                   ·simp only [Act.put, List.setIfInBounds_toArray, List.set_cons_zero, List.set_cons_succ, i64_w, i32_w]
                    rfl
                   refine done_ (done_of HT_.out (by kernel_rfl)) ?_
                   try go_wp2
                   (try simp only [← hl7_3])
                   first | go_roundg k3 | (refine Handed.intro k3 ?measure ?_; rotate_left; go_step; (try simp only [add_plain]); (repeat apply Exists.intro); refine ⟨?rel, rfl⟩)
                   case measure => have := HK1.out; have := HK2.out; have := HK3.out; omega
                   case rel => exact ⟨(x7_3), (wrap64 (x11_3 + 1)), (x598002_3), (by first | rfl | (simp; done) | (simp [*]; done)), H', ⟨by have := HK1.out; have := HK2.out; have := HK3.out; omega⟩, ⟨by (try simp only [hl7_3]); (with_reducible repeat (first | apply Kd.R_alloc | apply Kd.R_drewN | apply Kd.R_drew)); exact HO_7.out⟩, ⟨by (try simp only [hl7_3]); (with_reducible repeat (first | refine blk_drewN ?_ _ | refine blk_drew ?_ | refine blk_alloc ?_ _)); exact BK595.out⟩, ⟨by (try simp only [hl7_3]); (with_reducible repeat (first | refine blk_drewN ?_ _ | refine blk_drew ?_ | refine blk_alloc ?_ _)); exact BK596.out⟩, ⟨by (try simp only [hl7_3]); (with_reducible repeat (first | refine blk_drewN ?_ _ | refine blk_drew ?_ | refine blk_alloc ?_ _)); exact BK597.out⟩, ⟨by repeat (first | (with_reducible first | exact HI0.out | apply IsS94.alloc | apply IsS94.drewN | apply IsS94.drew | apply IsS94.set_1 | apply IsS94.set_2 | refine IsS94.far ?_ NB0_595.out _ | refine IsS94.far ?_ NB0_596.out _ | refine IsS94.far ?_ NB0_597.out _) | exact HI0.out)⟩, ⟨by repeat (first | (with_reducible first | exact HK.out | apply KeepBut.set_ | apply keep_drewN | apply keep_drew | apply keep_alloc | refine keep_far ?_ GW595.out _ | refine keep_far ?_ GW596.out _ | refine keep_far ?_ GW597.out _) | exact HK.out)⟩, ⟨by repeat (first | (with_reducible first | exact HB.out | apply below_alloc | apply pw_below_drewN | apply below_drew1 | refine below_set ?_ (IsS94.ge HI0.out) | refine below_set ?_ GE595.out | refine below_set ?_ GE596.out | refine below_set ?_ GE597.out) | exact HB.out)⟩⟩
                  ·rw [if_neg c52] at H
                   have c52b0 : ((rd x7_3 t611) == (rd x7_3 t612)) = false := beq_eq_false_iff_ne.mpr c52
                   have c52b1 : ((rd x7_3 t611) != (rd x7_3 t612)) = true := bne_iff_ne.mpr c52
                   obtain ⟨ji59, hji59⟩ : ∃ j_ : Int, (Int.tmod (wrap64 (t604 + (wrap64 (x11_3 * x10_2)))) t598) = j_ := ⟨_, rfl⟩
                   replace H : (if 0 ≤ (ji59) then (spec_l03Tree.l3 k3 t598 x7_3 t604 x10_2 x11_3 t611 (rd x7_3 t612) 0 s0_0 t608 t609 a1_0 a1_1 a1_0 a1_1 (Go.bits .or .i64 x598002_3 (shl .i64 1 (ji59)))) else (none)) = some (r1, r2, r3, r4, r5) := by first | (rw [hji59] at H; exact H) | (simp only [hji59] at H ⊢; exact H)
                   (try rw [hji59] at A47)
                   by_cases c60 : 0 ≤ (ji59)
                   ·rw [if_pos c60] at H
                    have c60b0 := eq_true c60
                    have c60b1 : decide (0 ≤ (ji59)) = true := decide_eq_true c60
                    clear c60
                    obtain ⟨ji61, hji61⟩ : ∃ j_ : Int, (shl .i64 1 (ji59)) = j_ := ⟨_, rfl⟩
                    replace H : (spec_l03Tree.l3 k3 t598 x7_3 t604 x10_2 x11_3 t611 (rd x7_3 t612) 0 s0_0 t608 t609 a1_0 a1_1 a1_0 a1_1 (Go.bits .or .i64 x598002_3 (ji61))) = some (r1, r2, r3, r4, r5) := by first | (rw [hji61] at H; exact H) | (simp only [hji61] at H ⊢; exact H)
                    (try rw [hji61] at A47)
                    have hji61_ : (IntKind.i64.wrap (1 * 2 ^ min (ji59).toNat 64)) = ji61 := hji61
                    have hji61z : (ji59) ≤ 64 → (IntKind.i64.wrap (1 * 2 ^ (ji59).toNat)) = ji61 := shl_small hji61
                    have hji61u : (IntKind.i64.wrap (2 ^ min (ji59).toNat 64)) = ji61 := by have h_ := hji61_; rw [Int.one_mul] at h_; exact h_
                    have hji61v : (ji59) ≤ 64 → (IntKind.i64.wrap (2 ^ (ji59).toNat)) = ji61 := fun hle_ => by have h_ := hji61z hle_; rw [Int.one_mul] at h_; exact h_
                    have hji61y : (wrap64 (1 * 2 ^ min (ji59).toNat 64)) = ji61 := (i64_w _).symm.trans hji61_
                    have hji61x : (ji59) ≤ 64 → (wrap64 (1 * 2 ^ (ji59).toNat)) = ji61 := fun h_ => (i64_w _).symm.trans (hji61z h_)
                    have H' := Aside0.mk H
                    clear H
                    have hnb62 := NB595_596.out
                    have hnc62 := NB596_595.out
                    have hnb63 := NB595_597.out
                    have hnc63 := NB597_595.out
                    have hnb64 := NB595_0.out
                    have hnc64 := NB0_595.out
                    have hcz65_0 : wr.cell? ⟨gb595, 0, none⟩ = some (.int .i64 a1_0) := (blk_cell BK595.out 0).trans rfl
                    have hcz65_1 : wr.cell? ⟨gb595, 1, none⟩ = some (.int .i64 a1_1) := (blk_cell BK595.out 1).trans rfl
                    have hfz65_0 := blk_frozen BK595.out 0
                    have hfz65_1 := blk_frozen BK595.out 1
                    try go_wp2_with (first | ((with_reducible refine gate_callee (f := 133) rfl ?_); refine goesL_ (some 64) rfl rfl Try.func133 (by kernel_rfl) rfl #[.agg #[.int .i64 a1_0, .int .i64 a1_1], .int .i64 ji59] rfl (by (try simp only [List.map_toArray, List.map_cons, List.map_nil]); first | done | (simp only [hji59]; rfl) | rfl | (simp only [List.length_drop, List.length_take]; rfl)) ?_; (with_reducible refine (spec_EndsOf.calls a1_0 a1_1 ji59 t611 t612 _ A47.out).mono ?_); rintro e w66 ⟨rfl, hb⟩; refine ⟨_, rfl, ?_⟩; have n0_ := Aside0.mk (Kd.R_below (kr_ HO_7.out) hb); have n1_ := Aside0.mk (blk_below (g := gb595) (o := .cells #[.int .i64 a1_0, .int .i64 a1_1] 28 (0, 0)) (kb_ BK595.out) hb); have n2_ := Aside0.mk (blk_below (g := gb596) (o := .cells #[.int .i64 0, .int .i64 0, .int .i64 0] 30 (0, 0)) (kb_ BK596.out) hb); have n3_ := Aside0.mk (blk_below (g := gb597) (o := .cells #[.int .i64 a1_0, .int .i64 a1_1, .int .i64 x598002_3] 30 (0, 0)) (kb_ BK597.out) hb); have n4_ := Aside0.mk (IsS94.below (by repeat (first | (with_reducible first | exact HI0.out | apply IsS94.alloc | apply IsS94.drewN | apply IsS94.drew | apply IsS94.set_1 | apply IsS94.set_2 | refine IsS94.far ?_ NB0_595.out _ | refine IsS94.far ?_ NB0_596.out _ | refine IsS94.far ?_ NB0_597.out _) | exact HI0.out)) hb); have n5_ := Aside0.mk (KeepBut.trans (by repeat (first | (with_reducible first | exact HK.out | apply KeepBut.set_ | apply keep_drewN | apply keep_drew | apply keep_alloc | refine keep_far ?_ GW595.out _ | refine keep_far ?_ GW596.out _ | refine keep_far ?_ GW597.out _) | exact HK.out)) (KeepBut.of_below hb g none) (.inl rfl)); have n6_ := Aside0.mk (below_step (by repeat (first | (with_reducible first | exact HB.out | apply below_alloc | apply pw_below_drewN | apply below_drew1 | refine below_set ?_ (IsS94.ge HI0.out) | refine below_set ?_ GE595.out | refine below_set ?_ GE596.out | refine below_set ?_ GE597.out) | exact HB.out)) hb); clear HO_7; clear BK595; clear BK596; clear BK597; clear HI0; clear HK; clear HB; have HO_7 := n0_; have BK595 := n1_; have BK596 := n2_; have BK597 := n3_; have HI0 := n4_; have HK := n5_; have HB := n6_; clear n0_ n1_ n2_ n3_ n4_ n5_ n6_; (try clear hb); (try clear hb2); (try clear hk); (try clear hi)))
                    have n0_ := Aside0.mk (Kd.R_drew HO_7.out)
                    have n1_ := Aside0.mk (blk_drew BK595.out)
                    have n2_ := Aside0.mk (blk_drew BK596.out)
                    have n3_ := Aside0.mk (blk_drew BK597.out)
                    have n4_ := Aside0.mk (IsS94.drew HI0.out)
                    have n5_ := Aside0.mk (keep_drew HK.out)
                    have n6_ := Aside0.mk (below_drew1 HB.out)
                    clear HO_7
                    clear BK595
                    clear BK596
                    clear BK597
                    clear HI0
                    clear HK
                    clear HB
                    have HO_7 := n0_
                    have BK595 := n1_
                    have BK596 := n2_
                    have BK597 := n3_
                    have HI0 := n4_
                    have HK := n5_
                    have HB := n6_
                    clear n0_ n1_ n2_ n3_ n4_ n5_ n6_
                    have p613 : 0 ≤ (t611 : Int) := of_decide_eq_true (by first | (with_reducible assumption) | assumption)
                    have q613 : t611 < (x7_3.length : Int) := of_decide_eq_true (by first | (with_reducible assumption) | assumption)
                    obtain ⟨ad613, e613, hx613_0⟩ := Kd.at_int (Kd.R_reads' HO_7.out).2.2 t611 p613 q613
                    cases e613
                    replace p613 := eq_true p613
                    replace q613 := eq_true q613
                    have p614 : 0 ≤ (t612 : Int) := of_decide_eq_true (by first | (with_reducible assumption) | assumption)
                    have q614 : t612 < (x7_3.length : Int) := of_decide_eq_true (by first | (with_reducible assumption) | assumption)
                    obtain ⟨ad614, e614, hx614_0⟩ := Kd.at_int (Kd.R_reads' HO_7.out).2.2 t612 p614 q614
                    obtain rfl : ad613 = ad614 := (by injection e614)
                    replace p614 := eq_true p614
                    replace q614 := eq_true q614
                    refine start_ (n := 9) (S := fun w' => w'.cell? (ad613.add (t611).toNat) = some (.int .i64 (rd x7_3 t611)) ∧ w'.cell? (ad613.add (t612).toNat) = some (.int .i64 (rd x7_3 t612))) (ds := []) #[false, false, false, false, false, false, false, false, false] (by kernel_rfl) rfl rfl ⟨hx613_0, hx614_0⟩ (fun hHeld => ?_); refine with_tabW spec_l03Tree.tab19 spec_l03Tree.bits19 (fun HT_ HW_ => ?_)
                    generalize w66.drew = w67 at HO_7 BK595 BK596 BK597 HI0 HK HB hx613_0 hx614_0 hHeld ⊢
                    refine pure_ (i := 0) (N := some 67) (v := ?_) (a' := ?_) #[true, false, false, false, false, false, false, false, false] rfl rfl (any_of HT_.out (by kernel_rfl)) (fun _ _ _ h => h) (Or.inl ⟨by rfl, ?_⟩) ?_ ?_
                    rotate_left
                    ·intro w'
                     go_simp
                     with_reducible rfl
                    rotate_left
                    ·simp only [Act.put, List.setIfInBounds_toArray, List.set_cons_zero, List.set_cons_succ, i64_w, i32_w]
                     rfl
                    refine pure_ (i := 1) (N := some 68) (v := ?_) (a' := ?_) #[true, true, false, false, false, false, false, false, false] rfl rfl (any_of HT_.out (by kernel_rfl)) (fun _ _ _ h => h) (Or.inl ⟨by rfl, ?_⟩) ?_ ?_
                    rotate_left
                    ·intro w'
                     go_simp
                     with_reducible rfl
                    rotate_left
                    ·simp only [Act.put, List.setIfInBounds_toArray, List.set_cons_zero, List.set_cons_succ, i64_w, i32_w]
                     rfl
                    refine pure_ (i := 2) (N := some 69) (v := ?_) (a' := ?_) #[true, true, true, false, false, false, false, false, false] rfl rfl (any_of HT_.out (by kernel_rfl)) (fun _ _ _ h => h) (Or.inl ⟨by rfl, ?_⟩) ?_ ?_
                    rotate_left
                    ·intro w'
                     go_simp
                     with_reducible rfl
                    rotate_left
                    ·simp only [Act.put, List.setIfInBounds_toArray, List.set_cons_zero, List.set_cons_succ, i64_w, i32_w]
                     rfl
                    refine pure_ (i := 4) (N := some 71) (v := ?_) (a' := ?_) #[true, true, true, false, true, false, false, false, false] rfl rfl (any_of HT_.out (by kernel_rfl)) (fun _ _ _ h => h) (Or.inl ⟨by rfl, ?_⟩) ?_ ?_
                    rotate_left
                    ·intro w'
                     go_simp
                     with_reducible rfl
                    rotate_left
                    ·simp only [Act.put, List.setIfInBounds_toArray, List.set_cons_zero, List.set_cons_succ, i64_w, i32_w]
                     rfl
                    refine pure_ (i := 5) (N := some 72) (v := ?_) (a' := ?_) #[true, true, true, false, true, true, false, false, false] rfl rfl (any_of HT_.out (by kernel_rfl)) (fun _ _ _ h => h) (Or.inl ⟨by rfl, ?_⟩) ?_ ?_
                    rotate_left
                    ·intro w'
                     go_simp
                     with_reducible rfl
                    rotate_left
                    ·simp only [Act.put, List.setIfInBounds_toArray, List.set_cons_zero, List.set_cons_succ, i64_w, i32_w]
                     rfl
                    refine pure_ (i := 6) (N := some 73) (v := ?_) (a' := ?_) #[true, true, true, false, true, true, true, false, false] rfl rfl (any_of HT_.out (by kernel_rfl)) (fun _ _ _ h => h) (Or.inl ⟨by rfl, ?_⟩) ?_ ?_
                    rotate_left
                    ·intro w'
                     go_simp
                     with_reducible rfl
                    rotate_left
                    ·simp only [Act.put, List.setIfInBounds_toArray, List.set_cons_zero, List.set_cons_succ, i64_w, i32_w]
                     rfl
                    refine take_ (i := 3) (N := some 70) (v := ?_) (a' := ?_) #[true, true, true, true, true, true, true, false, false] rfl rfl (take_ofW HT_.out HW_.out (by kernel_rfl)) (fun _ _ _ h => h) (Or.inl ⟨by rfl, ?_⟩) hHeld ?_ ?_
                    rotate_left
                    ·rintro w' ⟨s0, s1⟩
                     go_simp
                     with_reducible rfl
                    rotate_left
                    ·simp only [Act.put, List.setIfInBounds_toArray, List.set_cons_zero, List.set_cons_succ, i64_w, i32_w]
                     rfl
                    refine take_ (i := 7) (N := some 74) (v := ?_) (a' := ?_) #[true, true, true, true, true, true, true, true, false] rfl rfl (take_ofW HT_.out HW_.out (by kernel_rfl)) (fun _ _ _ h => h) (Or.inl ⟨by rfl, ?_⟩) hHeld ?_ ?_
                    rotate_left
                    ·rintro w' ⟨s0, s1⟩
                     go_simp
                     with_reducible rfl
                    rotate_left
                    ·simp only [Act.put, List.setIfInBounds_toArray, List.set_cons_zero, List.set_cons_succ, i64_w, i32_w]
                     rfl
                    refine pure_ (i := 8) (N := some 75) (v := ?_) (a' := ?_) #[true, true, true, true, true, true, true, true, true] rfl rfl (any_of HT_.out (by kernel_rfl)) (fun _ _ _ h => h) (Or.inl ⟨by rfl, ?_⟩) ?_ ?_
                    rotate_left
                    ·intro w'
                     go_simp
                     with_reducible rfl
                    rotate_left
                    ·simp only [Act.put, List.setIfInBounds_toArray, List.set_cons_zero, List.set_cons_succ, i64_w, i32_w]
                     rfl
                    refine done_ (done_of HT_.out (by kernel_rfl)) ?_
                    try go_wp2
                    have n0_ := Aside0.mk (Kd.R_drew HO_7.out)
                    have n1_ := Aside0.mk (blk_drew BK595.out)
                    have n2_ := Aside0.mk (blk_drew BK596.out)
                    have n3_ := Aside0.mk (blk_drew BK597.out)
                    have n4_ := Aside0.mk (IsS94.drew HI0.out)
                    have n5_ := Aside0.mk (keep_drew HK.out)
                    have n6_ := Aside0.mk (below_drew1 HB.out)
                    clear HO_7
                    clear BK595
                    clear BK596
                    clear BK597
                    clear HI0
                    clear HK
                    clear HB
                    have HO_7 := n0_
                    have BK595 := n1_
                    have BK596 := n2_
                    have BK597 := n3_
                    have HI0 := n4_
                    have HK := n5_
                    have HB := n6_
                    clear n0_ n1_ n2_ n3_ n4_ n5_ n6_
                    refine start_ (n := 7) (S := fun w' => w'.cell? ⟨gb597, 0, none⟩ = some (.int .i64 a1_0) ∧ w'.cell? ⟨gb597, 1, none⟩ = some (.int .i64 a1_1) ∧ w'.cell? ⟨gb597, 2, none⟩ = some (.int .i64 x598002_3)) (ds := [6]) #[false, false, false, false, false, false, false] (by kernel_rfl) rfl rfl ⟨(blk_cell BK597.out 0).trans rfl, (blk_cell BK597.out 1).trans rfl, (blk_cell BK597.out 2).trans rfl⟩ (fun hHeld => ?_)
                    generalize w67.drew = w68 at HO_7 BK595 BK596 BK597 HI0 HK HB hHeld ⊢
                    refine pure_ (i := 0) (N := some 76) (v := ?_) (a' := ?_) #[true, false, false, false, false, false, false] rfl rfl (by kernel_rfl) (fun _ _ _ h => h) (Or.inl ⟨by rfl, ?_⟩) ?_ ?_
                    rotate_left
                    ·intro w'
                     go_simp
                     with_reducible rfl
                    rotate_left
                    ·simp only [Act.put, List.setIfInBounds_toArray, List.set_cons_zero, List.set_cons_succ, i64_w, i32_w]
                     rfl
                    refine pure_ (i := 2) (N := some 78) (v := ?_) (a' := ?_) #[true, false, true, false, false, false, false] rfl rfl (by kernel_rfl) (fun _ _ _ h => h) (Or.inl ⟨by rfl, ?_⟩) ?_ ?_
                    rotate_left
                    ·intro w'
                     go_simp
                     with_reducible rfl
                    rotate_left
                    ·simp only [Act.put, List.setIfInBounds_toArray, List.set_cons_zero, List.set_cons_succ, i64_w, i32_w]
                     rfl
                    refine pure_ (i := 3) (N := some 79) (v := ?_) (a' := ?_) #[true, false, true, true, false, false, false] rfl rfl (by kernel_rfl) (fun _ _ _ h => h) (Or.inl ⟨by rfl, ?_⟩) ?_ ?_
                    rotate_left
                    ·intro w'
                     go_simp
                     with_reducible rfl
                    rotate_left
                    ·simp only [Act.put, List.setIfInBounds_toArray, List.set_cons_zero, List.set_cons_succ, i64_w, i32_w]
                     rfl
                    refine take_ (i := 1) (N := some 77) (v := ?_) (a' := ?_) #[true, true, true, true, false, false, false] rfl rfl (by kernel_rfl) (fun _ _ _ h => h) (Or.inl ⟨by rfl, ?_⟩) hHeld ?_ ?_
                    rotate_left
                    ·rintro w' ⟨s0, s1, s2⟩
                     go_simp
                     with_reducible rfl
                    rotate_left
                    ·simp only [Act.put, List.setIfInBounds_toArray, List.set_cons_zero, List.set_cons_succ, i64_w, i32_w]
                     rfl
                    refine pure_ (i := 4) (N := some 80) (v := ?_) (a' := ?_) #[true, true, true, true, true, false, false] rfl rfl (by kernel_rfl) (fun _ _ _ h => h) (Or.inl ⟨by rfl, ?_⟩) ?_ ?_
                    rotate_left
                    ·intro w'
                     go_simp
                     with_reducible rfl
                    rotate_left
                    ·simp only [Act.put, List.setIfInBounds_toArray, List.set_cons_zero, List.set_cons_succ, i64_w, i32_w]
                     rfl
                    refine pure_ (i := 5) (N := some 81) (v := ?_) (a' := ?_) #[true, true, true, true, true, true, false] rfl rfl (by kernel_rfl) (fun _ _ _ h => h) (Or.inl ⟨by rfl, ?_⟩) ?_ ?_
                    rotate_left
                    ·intro w'
                     go_simp
                     with_reducible rfl
                    rotate_left
                    ·simp only [Act.put, List.setIfInBounds_toArray, List.set_cons_zero, List.set_cons_succ, i64_w, i32_w]
                     rfl
                    refine last_ (i := 6) (N := none) #[true, true, true, true, true, true, true] rfl rfl (by kernel_rfl) (by decide) (fun K hK => ?_)
                    have hs69 : w68.cell? ⟨gb597, 2, none⟩ = some (.int .i64 x598002_3) := (blk_cell BK597.out 2).trans rfl
                    have hfs69 := blk_frozen BK597.out 2
                    have hns69_0 := NB595_597.out
                    have hns69_1 := NB596_597.out
                    have hms69_0 := NB597_595.out
                    have hms69_1 := NB597_596.out
                    refine skip_ (w1 := ?_) (by rfl) rfl ?_ ?_
                    rotate_left
                    ·go_simp
                     rfl
                    refine hK.out _ _ ?_
                    clear hK K
                    refine done_ (by kernel_rfl) ?_
                    have p615 : 0 ≤ (t612 : Int) := of_decide_eq_true (by first | (with_reducible assumption) | assumption)
                    have q615 : t612 < (x7_3.length : Int) := of_decide_eq_true (by first | (with_reducible assumption) | assumption)
                    obtain ⟨ad615, e615, hx615_0⟩ := Kd.at_int (Kd.R_reads' HO_7.out).2.2 t612 p615 q615
                    obtain rfl : ad613 = ad615 := (by injection e615)
                    have hn615_0 : ad613.block ≠ gb597 := Kd.own_blk (Kd.R_ne HO_7.out BK597.out (by decide))
                    replace hx615_0 := (cell_far (p := ⟨gb597, 2, none⟩) (by first | (rw [add_block]; exact hn615_0) | (show (Addr.add _ _).block ≠ _; rw [add_block]; exact hn615_0) | exact hn615_0) (.int .i64 (Go.bits .or .i64 x598002_3 (ji61)))).trans hx615_0
                    clear hn615_0
                    replace p615 := eq_true p615
                    replace q615 := eq_true q615
                    try go_wp2
                    go_loopg [16] k3 (fun kq v16 w' => ∃ (x7_4 : List Int) (x16_4 : Int), v16 = .int .i64 x16_4 ∧ Aside0 (spec_l03Tree.l3 kq t598 x7_4 t604 x10_2 x11_3 t611 (rd x7_3 t612) x16_4 s0_0 t608 t609 a1_0 a1_1 a1_0 a1_1 (Go.bits .or .i64 x598002_3 (ji61)) = some (r1, r2, r3, r4, r5)) ∧ Aside0 (kq ≤ k3) ∧ Aside0 (Kd.R (Kd.int .i64) 3 w' w.heap.size (fun _ => True) (.slice (some ad613) x7_3.length co40) x7_4) ∧ Aside0 (w'.heap[gb595]? = some (.cells #[.int .i64 a1_0, .int .i64 a1_1] 28 (0, 0))) ∧ Aside0 (w'.heap[gb596]? = some (.cells #[.int .i64 0, .int .i64 0, .int .i64 0] 30 (0, 0))) ∧ Aside0 (w'.heap[gb597]? = some (.cells #[.int .i64 a1_0, .int .i64 a1_1, .int .i64 (Go.bits .or .i64 x598002_3 (ji61))] 30 (0, 0))) ∧ Aside0 (IsS94 w0 w' g s0_0 t608 t609) ∧ Aside0 (KeepBut w w' g none) ∧ Aside0 (Below w0.heap.size w0 w'))
                    case atStart => exact ⟨(x7_3), (0), (by first | rfl | (simp; done) | (simp [*]; done)), H', ⟨Nat.le_refl _⟩, ⟨by (try simp only [hl7_3]); (with_reducible repeat (first | apply Kd.R_alloc | apply Kd.R_drewN | apply Kd.R_drew)); exact Kd.R_mono (Kd.R_far (p := ⟨gb597, 2, none⟩) (Kd.R_types HO_7.out BK597.out (by decide)) (fun _ hk => hk.2) (.int .i64 (Go.bits .or .i64 x598002_3 (ji61)))) (fun _ hk => trivial)⟩, ⟨by (try simp only [hl7_3]); (with_reducible repeat (first | refine blk_drewN ?_ _ | refine blk_drew ?_ | refine blk_alloc ?_ _)); refine blk_far ?_ NB595_597.out _; (with_reducible repeat (first | refine blk_drewN ?_ _ | refine blk_drew ?_ | refine blk_alloc ?_ _)); exact BK595.out⟩, ⟨by (try simp only [hl7_3]); (with_reducible repeat (first | refine blk_drewN ?_ _ | refine blk_drew ?_ | refine blk_alloc ?_ _)); refine blk_far ?_ NB596_597.out _; (with_reducible repeat (first | refine blk_drewN ?_ _ | refine blk_drew ?_ | refine blk_alloc ?_ _)); exact BK596.out⟩, ⟨by (try simp only [hl7_3]); (with_reducible repeat (first | refine blk_drewN ?_ _ | refine blk_drew ?_ | refine blk_alloc ?_ _)); refine blk_put (cs := #[.int .i64 a1_0, .int .i64 a1_1, .int .i64 x598002_3]) ?_ 2 _ rfl; (with_reducible repeat (first | refine blk_drewN ?_ _ | refine blk_drew ?_ | refine blk_alloc ?_ _)); exact BK597.out⟩, ⟨by repeat (first | (with_reducible first | exact HI0.out | apply IsS94.alloc | apply IsS94.drewN | apply IsS94.drew | apply IsS94.set_1 | apply IsS94.set_2 | refine IsS94.far ?_ NB0_595.out _ | refine IsS94.far ?_ NB0_596.out _ | refine IsS94.far ?_ NB0_597.out _) | exact HI0.out)⟩, ⟨by repeat (first | (with_reducible first | exact HK.out | apply KeepBut.set_ | apply keep_drewN | apply keep_drew | apply keep_alloc | refine keep_far ?_ GW595.out _ | refine keep_far ?_ GW596.out _ | refine keep_far ?_ GW597.out _) | exact HK.out)⟩, ⟨by repeat (first | (with_reducible first | exact HB.out | apply below_alloc | apply pw_below_drewN | apply below_drew1 | refine below_set ?_ (IsS94.ge HI0.out) | refine below_set ?_ GE595.out | refine below_set ?_ GE596.out | refine below_set ?_ GE597.out) | exact HB.out)⟩⟩
                    case round =>
                     clear H'
                     try clear c1
                     try clear c2
                     try clear p2
                     try clear q2
                     try clear hx2
                     try clear hf2
                     try clear c3
                     try clear c4
                     try clear c5
                     try clear c5b0
                     try clear c5b1
                     try clear q5
                     try clear c6
                     try clear c6b0
                     try clear c6b1
                     try clear p6
                     try clear q6
                     try clear hx6
                     try clear c9
                     try clear c10
                     try clear c12
                     try clear c13
                     try clear c14
                     try clear c15
                     try clear c23
                     try clear c23b0
                     try clear c24
                     try clear c24b0
                     try clear p25
                     try clear q25
                     try clear hx25
                     try clear hf25
                     try clear c29
                     try clear c29b0
                     try clear c29b1
                     try clear c31
                     try clear c32
                     try clear c33
                     try clear c35
                     try clear c36
                     try clear c40
                     try clear c43
                     try clear c44
                     try clear c45
                     try clear c45b0
                     try clear c46
                     try clear c46b0
                     try clear c46b1
                     try clear c48
                     try clear c48b0
                     try clear c49
                     try clear c49b0
                     try clear c50
                     try clear c50b0
                     try clear c51
                     try clear c51b0
                     try clear c52
                     try clear c52b0
                     try clear c52b1
                     try clear c53
                     try clear c54
                     try clear c55
                     try clear c60
                     try clear c60b0
                     try clear c60b1
                     try clear p61
                     try clear q61
                     try clear hx61
                     try clear c62
                     try clear c63
                     try clear c64
                     try clear p64
                     try clear hcz11_0
                     try clear hcz11_1
                     try clear hcz16_0
                     try clear hcz16_1
                     try clear hcz16_2
                     try clear hcz17_0
                     try clear hcz17_1
                     try clear hcz19_0
                     try clear hcz19_1
                     try clear hcz34_0
                     try clear hcz34_1
                     try clear hcz34_2
                     try clear hcz37_0
                     try clear hcz37_1
                     try clear hcz37_2
                     try clear hcz56_0
                     try clear hcz56_1
                     try clear hcz65_0
                     try clear hcz65_1
                     try clear hfz11_0
                     try clear hfz11_1
                     try clear hfz16_0
                     try clear hfz16_1
                     try clear hfz16_2
                     try clear hfz17_0
                     try clear hfz17_1
                     try clear hfz19_0
                     try clear hfz19_1
                     try clear hfz34_0
                     try clear hfz34_1
                     try clear hfz34_2
                     try clear hfz37_0
                     try clear hfz37_1
                     try clear hfz37_2
                     try clear hfz56_0
                     try clear hfz56_1
                     try clear hfz65_0
                     try clear hfz65_1
                     try clear hx25_0
                     try clear hx613_0
                     try clear hx614_0
                     try clear hx615_0
                     try clear p2
                     try clear p25
                     try clear p6
                     try clear p613
                     try clear p614
                     try clear p615
                     try clear q2
                     try clear q25
                     try clear q5
                     try clear q613
                     try clear q614
                     try clear q615
                     obtain ⟨x7_4, x16_4, rfl, HA, HK4, HO_7, BK595, BK596, BK597, HI0, HK, HB⟩ := hrel
                     have hl7_4 := (Kd.R_reads' HO_7.out).1
                     rw [hl7_4] at HO_7
                     (try simp only [hl7_4])
                     (try simp only [hl7_4] at BK595)
                     (try simp only [hl7_4] at BK596)
                     (try simp only [hl7_4] at BK597)
                     cases gk with
                     | zero => exact absurd HA.out (by simp [spec_l03Tree.l3])
                     | succ k4 =>
                      have H := HA.out
                      clear HA
                      simp only [spec_l03Tree.l3] at H
                      by_cases c70 : x16_4 < (x7_4.length : Int)
                      ·rw [if_pos c70] at H
                       have c70b0 : decide (x16_4 < (x7_4.length : Int)) = true := decide_eq_true c70
                       clear c70
                       by_cases c71 : 0 ≤ x16_4
                       ·rw [if_pos c71] at H
                        have c71b0 : decide (0 ≤ x16_4) = true := decide_eq_true c71
                        clear c71
                        by_cases c72 : (rd x7_4 x16_4) = (rd x7_3 t612)
                        ·rw [if_pos c72] at H
                         have c72b0 : ((rd x7_4 x16_4) == (rd x7_3 t612)) = true := beq_iff_eq.mpr c72
                         have c72b1 : ((rd x7_4 x16_4) != (rd x7_3 t612)) = false := bne_eq_false_iff_eq.mpr c72
                         clear c72
                         by_cases c73 : 0 ≤ t611
                         ·rw [if_pos c73] at H
                          have c73b0 : decide (0 ≤ t611) = true := decide_eq_true c73
                          clear c73
                          by_cases c74 : t611 < (x7_4.length : Int)
                          ·rw [if_pos c74] at H
                           have c74b0 : decide (t611 < (x7_4.length : Int)) = true := decide_eq_true c74
                           clear c74
                           obtain ⟨y618, hy618⟩ : ∃ y_ : List Int, y_ = (x7_4.set (x16_4 : Int).toNat (rd x7_4 t611)) := ⟨_, rfl⟩
                           replace H : (spec_l03Tree.l3 k4 t598 y618 t604 x10_2 x11_3 t611 (rd x7_3 t612) (wrap64 (x16_4 + 1)) s0_0 t608 t609 a1_0 a1_1 a1_0 a1_1 (Go.bits .or .i64 x598002_3 (ji61))) = some (r1, r2, r3, r4, r5) := by first | (rw [hy618]; with_reducible exact H) | (have H2_ := (Option.bind_some _ _).symm.trans H; rw [hy618]; with_reducible exact H2_) | (have H2_ := (Option.bind_some _ _).symm.trans H; with_reducible exact H2_) | with_reducible exact H | (rw [hy618]; exact H) | exact H
                           have Ny618 := Aside0.mk hy618
                           clear hy618
                           have H' := Aside0.mk H
                           clear H
                           have p616 : 0 ≤ (x16_4 : Int) := of_decide_eq_true (by first | (with_reducible assumption) | assumption)
                           have q616 : x16_4 < (x7_4.length : Int) := of_decide_eq_true (by first | (with_reducible assumption) | assumption)
                           obtain ⟨ad616, e616, hx616_0⟩ := Kd.at_int (Kd.R_reads' HO_7.out).2.2 x16_4 p616 q616
                           obtain rfl : ad613 = ad616 := (by injection e616)
                           replace p616 := eq_true p616
                           replace q616 := eq_true q616
                           have p617 : 0 ≤ (t611 : Int) := of_decide_eq_true (by first | (with_reducible assumption) | assumption)
                           have q617 : t611 < (x7_4.length : Int) := of_decide_eq_true (by first | (with_reducible assumption) | assumption)
                           obtain ⟨ad617, e617, hx617_0⟩ := Kd.at_int (Kd.R_reads' HO_7.out).2.2 t611 p617 q617
                           obtain rfl : ad613 = ad617 := (by injection e617)
                           replace p617 := eq_true p617
                           replace q617 := eq_true q617
                           have p75 : 0 ≤ (x16_4 : Int) := of_decide_eq_true (by first | (with_reducible assumption) | assumption)
                           have q75 : (x16_4 : Int) < ((x7_4.length : Int) : Int) := of_decide_eq_true (by first | (with_reducible assumption) | assumption)
                           obtain ⟨go75, co75, eo75, gb75, gl75, cl75, HG75⟩ := Kd.R_form HO_7.out (by omega)
                           (first | cases eo75 | (injection eo75 with ea_ en_ ec_; (first | subst ea_ | (injection ea_ with ea_; subst ea_)); subst ec_; clear en_))
                           have GB75 := Aside0.mk gb75
                           have GG75 := Aside0.mk HG75
                           clear gb75 gl75 HG75
                           (first | simp only [add_plain] at hx613_0 | skip)
                           (first | simp only [add_plain] at hx614_0 | skip)
                           (first | simp only [add_plain] at hx615_0 | skip)
                           (first | simp only [add_plain] at hx616_0 | skip)
                           (first | simp only [add_plain] at hx617_0 | skip)
                           obtain ⟨hx75_0, hf75_0⟩ := Kd.R_celln 0 HO_7.out (x16_4 : Int) p75 q75
                           replace p75 := eq_true p75
                           replace q75 := eq_true q75
                           have HP76 := Kd.R_putg HO_7.out (x16_4 : Int) (rd x7_4 t611)
                           go_wp2_with (first | ((with_reducible refine gate_store (t := 3) (p := 104) rfl ?_); refine store_event (t := 3) (p := 104) (v := ?vo_w77) (w1 := (wr.setCell ⟨go75, (x16_4 : Int).toNat, none⟩ (.int .i64 (rd x7_4 t611)))) ?hg ?ho ?hn ?hr ?_; (case ho => rfl); (case hg => rfl); (case hn => rfl); (case hr => first | (go_simp; done) | (go_simp; rfl)); intro w77 hw; have hg : wr.grownBy w77 (some go75) := (by rw [hw]; exact HP76.2); have hp_ : Kd.R (Kd.int .i64) 3 w77 w.heap.size (fun _ => True) (.slice (some ⟨go75, 0, none⟩) x7_4.length co40) y618 := (by rw [hw, Ny618.out]; exact HP76.1); clear HP76; have n0_ := Aside0.mk (hp_); have n1_ := Aside0.mk (blk_grown (g := gb595) (o := .cells #[.int .i64 a1_0, .int .i64 a1_1] 28 (0, 0)) (kb_ BK595.out) hg (Kd.R_ne HO_7.out BK595.out (by decide))); have n2_ := Aside0.mk (blk_grown (g := gb596) (o := .cells #[.int .i64 0, .int .i64 0, .int .i64 0] 30 (0, 0)) (kb_ BK596.out) hg (Kd.R_ne HO_7.out BK596.out (by decide))); have n3_ := Aside0.mk (blk_grown (g := gb597) (o := .cells #[.int .i64 a1_0, .int .i64 a1_1, .int .i64 (Go.bits .or .i64 x598002_3 (ji61))] 30 (0, 0)) (kb_ BK597.out) hg (Kd.R_ne HO_7.out BK597.out (by decide))); have n4_ := Aside0.mk (IsS94.grown (by repeat (first | (with_reducible first | exact HI0.out | apply IsS94.alloc | apply IsS94.drewN | apply IsS94.drew | apply IsS94.set_1 | apply IsS94.set_2 | refine IsS94.far ?_ NB0_595.out _ | refine IsS94.far ?_ NB0_596.out _ | refine IsS94.far ?_ NB0_597.out _) | exact HI0.out)) hg (IsS94.own_ne HI0.out HO_7.out (by decide))); have n5_ := Aside0.mk ((by rw [hw]; exact below_set (HB.out) (Nat.le_trans HL.out GB75.out) : Below w0.heap.size w0 w77)); have n6_ := Aside0.mk (KeepBut.trans (by repeat (first | (with_reducible first | exact HK.out | apply KeepBut.set_ | apply keep_drewN | apply keep_drew | apply keep_alloc | refine keep_far ?_ GW595.out _ | refine keep_far ?_ GW596.out _ | refine keep_far ?_ GW597.out _) | exact HK.out)) (KeepBut.of_grown hg g) (Kd.R_base2 HO_7.out)); clear HO_7; clear BK595; clear BK596; clear BK597; clear HI0; clear HB; clear HK; have HO_7 := n0_; have BK595 := n1_; have BK596 := n2_; have BK597 := n3_; have HI0 := n4_; have HB := n5_; have HK := n6_; clear n0_ n1_ n2_ n3_ n4_ n5_ n6_; clear hg hw hp_))
                           (try simp only [← hl7_4])
                           first | go_roundg k4 | (refine Handed.intro k4 ?measure ?_; rotate_left; go_step; (try simp only [add_plain]); (repeat apply Exists.intro); refine ⟨?rel, rfl⟩)
                           case measure => have := HK1.out; have := HK2.out; have := HK3.out; have := HK4.out; omega
                           case rel => exact ⟨(y618), (wrap64 (x16_4 + 1)), (by first | rfl | (simp; done) | (simp [*]; done)), H', ⟨by have := HK1.out; have := HK2.out; have := HK3.out; have := HK4.out; omega⟩, ⟨by (try simp only [hl7_3]); (try simp only [hl7_4]); (with_reducible repeat (first | apply Kd.R_alloc | apply Kd.R_drewN | apply Kd.R_drew)); exact HO_7.out⟩, ⟨by (try simp only [hl7_3]); (try simp only [hl7_4]); (with_reducible repeat (first | refine blk_drewN ?_ _ | refine blk_drew ?_ | refine blk_alloc ?_ _)); exact BK595.out⟩, ⟨by (try simp only [hl7_3]); (try simp only [hl7_4]); (with_reducible repeat (first | refine blk_drewN ?_ _ | refine blk_drew ?_ | refine blk_alloc ?_ _)); exact BK596.out⟩, ⟨by (try simp only [hl7_3]); (try simp only [hl7_4]); (with_reducible repeat (first | refine blk_drewN ?_ _ | refine blk_drew ?_ | refine blk_alloc ?_ _)); exact BK597.out⟩, ⟨by repeat (first | (with_reducible first | exact HI0.out | apply IsS94.alloc | apply IsS94.drewN | apply IsS94.drew | apply IsS94.set_1 | apply IsS94.set_2 | refine IsS94.far ?_ NB0_595.out _ | refine IsS94.far ?_ NB0_596.out _ | refine IsS94.far ?_ NB0_597.out _) | exact HI0.out)⟩, ⟨by repeat (first | (with_reducible first | exact HK.out | apply KeepBut.set_ | apply keep_drewN | apply keep_drew | apply keep_alloc | refine keep_far ?_ GW595.out _ | refine keep_far ?_ GW596.out _ | refine keep_far ?_ GW597.out _) | exact HK.out)⟩, ⟨by repeat (first | (with_reducible first | exact HB.out | apply below_alloc | apply pw_below_drewN | apply below_drew1 | refine below_set ?_ (IsS94.ge HI0.out) | refine below_set ?_ GE595.out | refine below_set ?_ GE596.out | refine below_set ?_ GE597.out) | exact HB.out)⟩⟩
                          ·rw [if_neg c74] at H
                           exact absurd H (by simp)
                         ·rw [if_neg c73] at H
                          exact absurd H (by simp)
                        ·rw [if_neg c72] at H
                         have c72b0 : ((rd x7_4 x16_4) == (rd x7_3 t612)) = false := beq_eq_false_iff_ne.mpr c72
                         have c72b1 : ((rd x7_4 x16_4) != (rd x7_3 t612)) = true := bne_iff_ne.mpr c72
                         have H' := Aside0.mk H
                         clear H
                         have p616 : 0 ≤ (x16_4 : Int) := of_decide_eq_true (by first | (with_reducible assumption) | assumption)
                         have q616 : x16_4 < (x7_4.length : Int) := of_decide_eq_true (by first | (with_reducible assumption) | assumption)
                         obtain ⟨ad616, e616, hx616_0⟩ := Kd.at_int (Kd.R_reads' HO_7.out).2.2 x16_4 p616 q616
                         obtain rfl : ad613 = ad616 := (by injection e616)
                         replace p616 := eq_true p616
                         replace q616 := eq_true q616
                         go_wp2
                         (try simp only [← hl7_4])
                         first | go_roundg k4 | (refine Handed.intro k4 ?measure ?_; rotate_left; go_step; (try simp only [add_plain]); (repeat apply Exists.intro); refine ⟨?rel, rfl⟩)
                         case measure => have := HK1.out; have := HK2.out; have := HK3.out; have := HK4.out; omega
                         case rel => exact ⟨(x7_4), (wrap64 (x16_4 + 1)), (by first | rfl | (simp; done) | (simp [*]; done)), H', ⟨by have := HK1.out; have := HK2.out; have := HK3.out; have := HK4.out; omega⟩, ⟨by (try simp only [hl7_3]); (try simp only [hl7_4]); (with_reducible repeat (first | apply Kd.R_alloc | apply Kd.R_drewN | apply Kd.R_drew)); exact HO_7.out⟩, ⟨by (try simp only [hl7_3]); (try simp only [hl7_4]); (with_reducible repeat (first | refine blk_drewN ?_ _ | refine blk_drew ?_ | refine blk_alloc ?_ _)); exact BK595.out⟩, ⟨by (try simp only [hl7_3]); (try simp only [hl7_4]); (with_reducible repeat (first | refine blk_drewN ?_ _ | refine blk_drew ?_ | refine blk_alloc ?_ _)); exact BK596.out⟩, ⟨by (try simp only [hl7_3]); (try simp only [hl7_4]); (with_reducible repeat (first | refine blk_drewN ?_ _ | refine blk_drew ?_ | refine blk_alloc ?_ _)); exact BK597.out⟩, ⟨by repeat (first | (with_reducible first | exact HI0.out | apply IsS94.alloc | apply IsS94.drewN | apply IsS94.drew | apply IsS94.set_1 | apply IsS94.set_2 | refine IsS94.far ?_ NB0_595.out _ | refine IsS94.far ?_ NB0_596.out _ | refine IsS94.far ?_ NB0_597.out _) | exact HI0.out)⟩, ⟨by repeat (first | (with_reducible first | exact HK.out | apply KeepBut.set_ | apply keep_drewN | apply keep_drew | apply keep_alloc | refine keep_far ?_ GW595.out _ | refine keep_far ?_ GW596.out _ | refine keep_far ?_ GW597.out _) | exact HK.out)⟩, ⟨by repeat (first | (with_reducible first | exact HB.out | apply below_alloc | apply pw_below_drewN | apply below_drew1 | refine below_set ?_ (IsS94.ge HI0.out) | refine below_set ?_ GE595.out | refine below_set ?_ GE596.out | refine below_set ?_ GE597.out) | exact HB.out)⟩⟩
                       ·rw [if_neg c71] at H
                        exact absurd H (by simp)
                      ·rw [if_neg c70] at H
                       have c70b0 : decide (x16_4 < (x7_4.length : Int)) = false := decide_eq_false c70
                       clear c70
                       have H' := Aside0.mk H
                       clear H
                       go_wp2
                       (try simp only [← hl7_3, ← hl7_4])
                       first | go_roundg k4 | (refine Handed.intro k4 ?measure ?_; rotate_left; go_step; (try simp only [add_plain]); (repeat apply Exists.intro); refine ⟨?rel, rfl⟩)
                       case measure => have := HK1.out; have := HK2.out; have := HK3.out; have := HK4.out; omega
                       case rel => exact ⟨(x7_4), (wrap64 (x11_3 + 1)), ((Go.bits .or .i64 x598002_3 (ji61))), (by first | rfl | (simp; done) | (simp [*]; done)), H', ⟨by have := HK1.out; have := HK2.out; have := HK3.out; have := HK4.out; omega⟩, ⟨by (try simp only [hl7_3]); (try simp only [hl7_4]); (with_reducible repeat (first | apply Kd.R_alloc | apply Kd.R_drewN | apply Kd.R_drew)); exact HO_7.out⟩, ⟨by (try simp only [hl7_3]); (try simp only [hl7_4]); (with_reducible repeat (first | refine blk_drewN ?_ _ | refine blk_drew ?_ | refine blk_alloc ?_ _)); exact BK595.out⟩, ⟨by (try simp only [hl7_3]); (try simp only [hl7_4]); (with_reducible repeat (first | refine blk_drewN ?_ _ | refine blk_drew ?_ | refine blk_alloc ?_ _)); exact BK596.out⟩, ⟨by (try simp only [hl7_3]); (try simp only [hl7_4]); (with_reducible repeat (first | refine blk_drewN ?_ _ | refine blk_drew ?_ | refine blk_alloc ?_ _)); exact BK597.out⟩, ⟨by repeat (first | (with_reducible first | exact HI0.out | apply IsS94.alloc | apply IsS94.drewN | apply IsS94.drew | apply IsS94.set_1 | apply IsS94.set_2 | refine IsS94.far ?_ NB0_595.out _ | refine IsS94.far ?_ NB0_596.out _ | refine IsS94.far ?_ NB0_597.out _) | exact HI0.out)⟩, ⟨by repeat (first | (with_reducible first | exact HK.out | apply KeepBut.set_ | apply keep_drewN | apply keep_drew | apply keep_alloc | refine keep_far ?_ GW595.out _ | refine keep_far ?_ GW596.out _ | refine keep_far ?_ GW597.out _) | exact HK.out)⟩, ⟨by repeat (first | (with_reducible first | exact HB.out | apply below_alloc | apply pw_below_drewN | apply below_drew1 | refine below_set ?_ (IsS94.ge HI0.out) | refine below_set ?_ GE595.out | refine below_set ?_ GE596.out | refine below_set ?_ GE597.out) | exact HB.out)⟩⟩
                   ·rw [if_neg c60] at H
                    exact absurd H (by simp)
                 ·rw [if_neg c51] at H
                  exact absurd H (by simp)
                ·rw [if_neg c50] at H
                 exact absurd H (by simp)
               ·rw [if_neg c49] at H
                exact absurd H (by simp)
              ·rw [if_neg c48] at H
               exact absurd H (by simp)
            ·rw [if_neg c45] at H
             have c45b0 : decide (x11_3 < t598) = false := decide_eq_false c45
             clear c45
             simp only [Option.some.injEq, Prod.mk.injEq] at H
             obtain ⟨rfl, rfl, rfl, rfl, rfl⟩ := H
             have hnb78 := NB597_595.out
             have hnc78 := NB595_597.out
             have hnb79 := NB597_596.out
             have hnc79 := NB596_597.out
             have hnb80 := NB597_0.out
             have hnc80 := NB0_597.out
             have hcz81_0 : wr.cell? ⟨gb597, 0, none⟩ = some (.int .i64 a1_0) := (blk_cell BK597.out 0).trans rfl
             have hcz81_1 : wr.cell? ⟨gb597, 1, none⟩ = some (.int .i64 a1_1) := (blk_cell BK597.out 1).trans rfl
             have hcz81_2 : wr.cell? ⟨gb597, 2, none⟩ = some (.int .i64 x598002_3) := (blk_cell BK597.out 2).trans rfl
             have hfz81_0 := blk_frozen BK597.out 0
             have hfz81_1 := blk_frozen BK597.out 1
             have hfz81_2 := blk_frozen BK597.out 2
             have hnb82 := NB596_595.out
             have hnc82 := NB595_596.out
             have hnb83 := NB596_0.out
             have hnc83 := NB0_596.out
             have hcz84_0 : wr.cell? ⟨gb596, 0, none⟩ = some (.int .i64 0) := (blk_cell BK596.out 0).trans rfl
             have hcz84_1 : wr.cell? ⟨gb596, 1, none⟩ = some (.int .i64 0) := (blk_cell BK596.out 1).trans rfl
             have hcz84_2 : wr.cell? ⟨gb596, 2, none⟩ = some (.int .i64 0) := (blk_cell BK596.out 2).trans rfl
             have hfz84_0 := blk_frozen BK596.out 0
             have hfz84_1 := blk_frozen BK596.out 1
             have hfz84_2 := blk_frozen BK596.out 2
             go_wp2
             try (have hq595_0 : _ = some (.int .i64 a1_0) := (blk_cell BK595.out 0).trans rfl; have hqf595_0 := blk_frozen BK595.out 0; have hq595_1 : _ = some (.int .i64 a1_1) := (blk_cell BK595.out 1).trans rfl; have hqf595_1 := blk_frozen BK595.out 1; have hq596_0 : _ = some (.int .i64 a1_0) := (blk_cell BK596.out 0).trans rfl; have hqf596_0 := blk_frozen BK596.out 0; have hq596_1 : _ = some (.int .i64 a1_1) := (blk_cell BK596.out 1).trans rfl; have hqf596_1 := blk_frozen BK596.out 1; have hq596_2 : _ = some (.int .i64 x598002_3) := (blk_cell BK596.out 2).trans rfl; have hqf596_2 := blk_frozen BK596.out 2; have hq597_0 : _ = some (.int .i64 a1_0) := (blk_cell BK597.out 0).trans rfl; have hqf597_0 := blk_frozen BK597.out 0; have hq597_1 : _ = some (.int .i64 a1_1) := (blk_cell BK597.out 1).trans rfl; have hqf597_1 := blk_frozen BK597.out 1; have hq597_2 : _ = some (.int .i64 x598002_3) := (blk_cell BK597.out 2).trans rfl; have hqf597_2 := blk_frozen BK597.out 2; go_wp2)
             refine bodyPost_ret (results_cell_row rfl _ _ gb596 30 #[.int .i64 a1_0, .int .i64 a1_1, .int .i64 x598002_3] (0, 0) _ rfl (by (with_reducible repeat (first | refine blk_drewN ?_ _ | refine blk_drew ?_ | refine blk_alloc ?_ _)); refine blk_put (cs := #[.int .i64 a1_0, .int .i64 a1_1, .int .i64 0]) ?_ 2 _ rfl; (with_reducible repeat (first | refine blk_drewN ?_ _ | refine blk_drew ?_ | refine blk_alloc ?_ _)); refine blk_put (cs := #[.int .i64 a1_0, .int .i64 0, .int .i64 0]) ?_ 1 _ rfl; (with_reducible repeat (first | refine blk_drewN ?_ _ | refine blk_drew ?_ | refine blk_alloc ?_ _)); refine blk_put (cs := #[.int .i64 0, .int .i64 0, .int .i64 0]) ?_ 0 _ rfl; (with_reducible repeat (first | refine blk_drewN ?_ _ | refine blk_drew ?_ | refine blk_alloc ?_ _)); exact BK596.out) Try.underlying30 rfl (by kernel_rfl)) rfl ?_
             exact ⟨er_, by repeat (first | (with_reducible first | exact HI0.out | apply IsS94.alloc | apply IsS94.drewN | apply IsS94.drew | apply IsS94.set_1 | apply IsS94.set_2 | refine IsS94.far ?_ NB0_595.out _ | refine IsS94.far ?_ NB0_596.out _ | refine IsS94.far ?_ NB0_597.out _) | exact HI0.out), by repeat (first | (with_reducible first | exact HB.out | apply below_alloc | apply pw_below_drewN | apply below_drew1 | refine below_set ?_ (IsS94.ge HI0.out) | refine below_set ?_ GE595.out | refine below_set ?_ GE596.out | refine below_set ?_ GE597.out) | exact HB.out), by repeat (first | (with_reducible first | exact HK.out | apply KeepBut.set_ | apply keep_drewN | apply keep_drew | apply keep_alloc | refine keep_far ?_ GW595.out _ | refine keep_far ?_ GW596.out _ | refine keep_far ?_ GW597.out _) | exact HK.out)⟩
  ·rw [if_neg c6] at H
   exact absurd H (by simp)
 ·rw [if_neg c5] at H
  exact absurd H (by simp)

end Go.Proofs.Ytpaecckpdaiogaa.Q
