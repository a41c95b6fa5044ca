/- Plain Lean functions of Go functions, and for each the proof that its call comes to just that answer. Conditions: in each theorem's statement. -/
import Derived.Test.YtcocebkmfmiaeaaDoorQx0
import Derived.Test.YtcocebkmfmiaeaaDoorQx8
import Derived.Test.YtcocebkmfmiaeaaDoorQx9
import Derived.Test.YtcocebkmfmiaeaaDoorQx34
import Derived.Test.YtcocebkmfmiaeaaDoorQx35
import Derived.Test.YtcocebkmfmiaeaaDoorWApart
namespace Go.Proofs.YtcocebkmfmiaeaaDoor.Q
open Go.RowKit Go.Proofs.YtcocebkmfmiaeaaDoorW.PrintWords Go.Proofs.YtcocebkmfmiaeaaDoorW.PrintLast
attribute [local go_sem] max2_int min2_int max_two min_two   -- for this text's walks alone
set_option linter.unusedVariables false
set_option linter.unusedSimpArgs false

/-! ### impl_MazeLines: function 31 -/
mutual
def impl_MazeLines.l0 : Nat → List (List Int) → Int → Int → Int → Int → Int → Option (List ByteArray)
 | 0, _, _, _, _, _, _ => none
 | k + 1, x3, x22, x23, x495000, x495001, x495002 => if x23 < x22 then ((slices_Repeat_byte_byte.f (([35] : List Int)) (wrap64 ((wrap64 (2 * x495000)) + 1))).bind fun t502 => (if 0 ≤ x23 then (if x23 < (x3.length : Int) then (impl_MazeLines.l0 k (x3.set (x23 : Int).toNat t502) x22 (wrap64 (x23 + 1)) x495000 x495001 x495002) else (none)) else (none))) else (impl_MazeLines.l1 k x3 0 x495000 x495001 x495002)
def impl_MazeLines.l1 : Nat → List (List Int) → Int → Int → Int → Int → Option (List ByteArray)
 | 0, _, _, _, _, _ => none
 | k + 1, x3, x5, x495000, x495001, x495002 => (impl_CountCells.f x495000 x495001).bind fun t506 => (if x5 < t506 then (if x495000 = 0 then (none) else (if 0 ≤ (wrap64 ((wrap64 (2 * (wrap64 (Int.tdiv x5 x495000)))) + 1)) then (if (wrap64 ((wrap64 (2 * (wrap64 (Int.tdiv x5 x495000)))) + 1)) < (x3.length : Int) then (if 0 ≤ (wrap64 ((wrap64 (2 * (Int.tmod x5 x495000))) + 1)) then (if (wrap64 ((wrap64 (2 * (Int.tmod x5 x495000))) + 1)) < ((rd_L4 x3 (wrap64 ((wrap64 (2 * (wrap64 (Int.tdiv x5 x495000)))) + 1))).length : Int) then (impl_MazeLines.l1 k (x3.set ((wrap64 ((wrap64 (2 * (wrap64 (Int.tdiv x5 x495000)))) + 1)) : Int).toNat ((rd_L4 x3 (wrap64 ((wrap64 (2 * (wrap64 (Int.tdiv x5 x495000)))) + 1))).set ((wrap64 ((wrap64 (2 * (Int.tmod x5 x495000))) + 1)) : Int).toNat 32)) (wrap64 (x5 + 1)) x495000 x495001 x495002) else (none)) else (none)) else (none)) else (none))) else (impl_MazeLines.l2 k x3 0 x495000 x495001 x495002))
def impl_MazeLines.l2 : Nat → List (List Int) → Int → Int → Int → Int → Option (List ByteArray)
 | 0, _, _, _, _, _ => none
 | k + 1, x3, x6, x495000, x495001, x495002 => (impl_CountGaps.f x495000 x495001).bind fun t511 => (if x6 < t511 then ((impl_isOpen.f x495000 x495001 x495002 x6).bind fun t512 => (if t512 = true then ((impl_gapPlace.f x495000 x495001 x6).bind fun bt513 => (if 0 ≤ bt513.1 then (if bt513.1 < (x3.length : Int) then (if 0 ≤ bt513.2 then (if bt513.2 < ((rd_L4 x3 bt513.1).length : Int) then (impl_MazeLines.l2 k (x3.set (bt513.1 : Int).toNat ((rd_L4 x3 bt513.1).set (bt513.2 : Int).toNat 32)) (wrap64 (x6 + 1)) x495000 x495001 x495002) else (none)) else (none)) else (none)) else (none))) else (impl_MazeLines.l2 k x3 (wrap64 (x6 + 1)) x495000 x495001 x495002))) else (impl_MazeLines.l3 k ([] : List ByteArray) x3 (x3.length : Int) 0))
def impl_MazeLines.l3 : Nat → List ByteArray → List (List Int) → Int → Int → Option (List ByteArray)
 | 0, _, _, _, _ => none
 | k + 1, x9, x85, x86, x87 => if x87 < x86 then (if 0 ≤ x87 then (if x87 < (x85.length : Int) then (if x9.length < 8796093022208 then (impl_MazeLines.l3 k (x9 ++ [strOfNums (rd_L4 x85 x87)]) x85 x86 (wrap64 (x87 + 1))) else (none)) else (none)) else (none)) else (some x9)
end
def impl_MazeLines.f (k : Nat) (a0_0 : Int) (a0_1 : Int) (a0_2 : Int) : Option (List ByteArray) := (impl_MazeOk.f a0_0 a0_1 a0_2).bind fun t495 => (if t495 = true then (if 0 ≤ (wrap64 ((wrap64 (2 * a0_1)) + 1)) then (if (wrap64 ((wrap64 (2 * a0_1)) + 1) : Int).toNat ≤ 11728124029610 then ((some (List.replicate (wrap64 ((wrap64 (2 * a0_1)) + 1) : Int).toNat [] : List (List Int))).bind fun y496 => (impl_MazeLines.l0 k y496 (y496.length : Int) 0 a0_0 a0_1 a0_2)) else (none)) else (none)) else (some ([] : List ByteArray)))
theorem impl_MazeLines.mono_l : ∀ k, (∀ y0 y1 y2 y3 y4 y5, LeO (impl_MazeLines.l0 k y0 y1 y2 y3 y4 y5) (impl_MazeLines.l0 (k + 1) y0 y1 y2 y3 y4 y5)) ∧ (∀ y0 y1 y2 y3 y4, LeO (impl_MazeLines.l1 k y0 y1 y2 y3 y4) (impl_MazeLines.l1 (k + 1) y0 y1 y2 y3 y4)) ∧ (∀ y0 y1 y2 y3 y4, LeO (impl_MazeLines.l2 k y0 y1 y2 y3 y4) (impl_MazeLines.l2 (k + 1) y0 y1 y2 y3 y4)) ∧ (∀ y0 y1 y2 y3, LeO (impl_MazeLines.l3 k y0 y1 y2 y3) (impl_MazeLines.l3 (k + 1) y0 y1 y2 y3))
 | 0 => ⟨fun _ _ _ _ _ _ r h => by simp [impl_MazeLines.l0] at h, fun _ _ _ _ _ r h => by simp [impl_MazeLines.l1] at h, fun _ _ _ _ _ r h => by simp [impl_MazeLines.l2] at h, fun _ _ _ _ r h => by simp [impl_MazeLines.l3] at h⟩
 | k + 1 => by
  obtain ⟨ih0, ih1, ih2, ih3⟩ := impl_MazeLines.mono_l k
  refine ⟨?_, ?_, ?_, ?_⟩
  ·intro y0 y1 y2 y3 y4 y5
   unfold impl_MazeLines.l0
   repeat' first
   | (with_reducible exact ih0 _ _ _ _ _ _)
   | (with_reducible exact ih1 _ _ _ _ _)
   | (with_reducible exact ih2 _ _ _ _ _)
   | (with_reducible exact ih3 _ _ _ _)
   | (with_reducible exact LeO.refl _)
   | (with_reducible exact LeO.none _)
   | (with_reducible refine LeO.ite ?_ ?_)
   | (with_reducible refine LeO.bind ?_ (fun _ => ?_))
   | exact ih0 _ _ _ _ _ _
   | exact ih1 _ _ _ _ _
   | exact ih2 _ _ _ _ _
   | exact ih3 _ _ _ _
   | exact LeO.none _
   | refine LeO.ite ?_ ?_
   | refine LeO.bind ?_ (fun _ => ?_)
  ·intro y0 y1 y2 y3 y4
   unfold impl_MazeLines.l1
   repeat' first
   | (with_reducible exact ih0 _ _ _ _ _ _)
   | (with_reducible exact ih1 _ _ _ _ _)
   | (with_reducible exact ih2 _ _ _ _ _)
   | (with_reducible exact ih3 _ _ _ _)
   | (with_reducible exact LeO.refl _)
   | (with_reducible exact LeO.none _)
   | (with_reducible refine LeO.ite ?_ ?_)
   | (with_reducible refine LeO.bind ?_ (fun _ => ?_))
   | exact ih0 _ _ _ _ _ _
   | exact ih1 _ _ _ _ _
   | exact ih2 _ _ _ _ _
   | exact ih3 _ _ _ _
   | exact LeO.none _
   | refine LeO.ite ?_ ?_
   | refine LeO.bind ?_ (fun _ => ?_)
  ·intro y0 y1 y2 y3 y4
   unfold impl_MazeLines.l2
   repeat' first
   | (with_reducible exact ih0 _ _ _ _ _ _)
   | (with_reducible exact ih1 _ _ _ _ _)
   | (with_reducible exact ih2 _ _ _ _ _)
   | (with_reducible exact ih3 _ _ _ _)
   | (with_reducible exact LeO.refl _)
   | (with_reducible exact LeO.none _)
   | (with_reducible refine LeO.ite ?_ ?_)
   | (with_reducible refine LeO.bind ?_ (fun _ => ?_))
   | exact ih0 _ _ _ _ _ _
   | exact ih1 _ _ _ _ _
   | exact ih2 _ _ _ _ _
   | exact ih3 _ _ _ _
   | exact LeO.none _
   | refine LeO.ite ?_ ?_
   | refine LeO.bind ?_ (fun _ => ?_)
  ·intro y0 y1 y2 y3
   unfold impl_MazeLines.l3
   repeat' first
   | (with_reducible exact ih0 _ _ _ _ _ _)
   | (with_reducible exact ih1 _ _ _ _ _)
   | (with_reducible exact ih2 _ _ _ _ _)
   | (with_reducible exact ih3 _ _ _ _)
   | (with_reducible exact LeO.refl _)
   | (with_reducible exact LeO.none _)
   | (with_reducible refine LeO.ite ?_ ?_)
   | (with_reducible refine LeO.bind ?_ (fun _ => ?_))
   | exact ih0 _ _ _ _ _ _
   | exact ih1 _ _ _ _ _
   | exact ih2 _ _ _ _ _
   | exact ih3 _ _ _ _
   | exact LeO.none _
   | refine LeO.ite ?_ ?_
   | refine LeO.bind ?_ (fun _ => ?_)
theorem impl_MazeLines.mono : ∀ a0 a1 a2 k, LeO (impl_MazeLines.f k a0 a1 a2) (impl_MazeLines.f (k + 1) a0 a1 a2) := by
 intro a0 a1 a2 k
 obtain ⟨ih0, ih1, ih2, ih3⟩ := impl_MazeLines.mono_l k
 unfold impl_MazeLines.f
 repeat' first
   | (with_reducible exact ih0 _ _ _ _ _ _)
   | (with_reducible exact ih1 _ _ _ _ _)
   | (with_reducible exact ih2 _ _ _ _ _)
   | (with_reducible exact ih3 _ _ _ _)
   | (with_reducible exact LeO.refl _)
   | (with_reducible exact LeO.none _)
   | (with_reducible refine LeO.ite ?_ ?_)
   | (with_reducible refine LeO.bind ?_ (fun _ => ?_))
   | exact ih0 _ _ _ _ _ _
   | exact ih1 _ _ _ _ _
   | exact ih2 _ _ _ _ _
   | exact ih3 _ _ _ _
   | exact LeO.none _
   | refine LeO.ite ?_ ?_
   | refine LeO.bind ?_ (fun _ => ?_)
def impl_MazeLines.T12 : Bool × List (List Nat × List Nat) := (true, [([], []), ([], []), ([], []), ([2], [2]), ([3], [3]), ([1, 4], [1, 4]), ([5], [5]), ([6], [6]), ([0, 7], [0, 7]), ([8], [8]), ([], []), ([], []), ([11], [11]), ([12], [12]), ([10, 13], [10, 13]), ([14], [14]), ([15], [15]), ([9, 16, 0, 1, 2, 3, 4, 5, 6, 7, 8, 9, 10, 11, 12, 13, 14, 15, 16], [9, 16]), ([17, 0, 1, 2, 3, 4, 5, 6, 7, 8, 9, 10, 11, 12, 13, 14, 15, 16], [17])])
def impl_MazeLines.B12 : List Nat := [0, 0, 0, 4, 12, 30, 62, 126, 255, 511, 0, 0, 2048, 6144, 15360, 31744, 64512, 131071, 262143]
theorem impl_MazeLines.tab12 : rtab .any (opsOf Tryd.f31 12) = impl_MazeLines.T12 := by kernel_rfl
theorem impl_MazeLines.bits12 : waitsOk impl_MazeLines.T12.2 impl_MazeLines.B12 = true := by kernel_rfl
set_option maxHeartbeats 8000000 in
set_option maxRecDepth 100000 in
theorem impl_MazeLines.calls (k : Nat) (a0_0 : Int) (a0_1 : Int) (a0_2 : Int) (r : List ByteArray) (w : World) (h : impl_MazeLines.f k a0_0 a0_1 a0_2 = some r) :
  Calls Tryd.prog 31 #[.agg #[.int .i64 a0_0, .int .i64 a0_1, .int .i64 a0_2]] w fun e w' => ∃ v0_ : Value, e = .returned (v0_) ∧ Kd.R Kd.string 9 w' w.heap.size (fun _ => True) v0_ r ∧ Below w.heap.size w w' := by
 have hu34 := Tryd.underlying34
 have hu32 := Tryd.underlying32
 have HB := Aside0.mk (Below.refl w.heap.size w)
 have H : ((impl_MazeOk.f a0_0 a0_1 a0_2).bind fun t495 => (if t495 = true then (if 0 ≤ (wrap64 ((wrap64 (2 * a0_1)) + 1)) then (if (wrap64 ((wrap64 (2 * a0_1)) + 1) : Int).toNat ≤ 11728124029610 then ((some (List.replicate (wrap64 ((wrap64 (2 * a0_1)) + 1) : Int).toNat [] : List (List Int))).bind fun y496 => (impl_MazeLines.l0 k y496 (y496.length : Int) 0 a0_0 a0_1 a0_2)) else (none)) else (none)) else (some ([] : List ByteArray)))) = some r := h
 clear h
 replace H := Option.bind_eq_some_iff.mp H
 obtain ⟨t495, A20, H⟩ := H
 replace H : (if t495 = true then (if 0 ≤ (wrap64 ((wrap64 (2 * a0_1)) + 1)) then (if (wrap64 ((wrap64 (2 * a0_1)) + 1) : Int).toNat ≤ 11728124029610 then ((some (List.replicate (wrap64 ((wrap64 (2 * a0_1)) + 1) : Int).toNat [] : List (List Int))).bind fun y496 => (impl_MazeLines.l0 k y496 (y496.length : Int) 0 a0_0 a0_1 a0_2)) else (none)) else (none)) else (some ([] : List ByteArray))) = some r := H
 have A2 := Aside0.mk A20
 clear A20
 by_cases c3 : t495 = true
 ·subst c3
  have H1 : (if 0 ≤ (wrap64 ((wrap64 (2 * a0_1)) + 1)) then (if (wrap64 ((wrap64 (2 * a0_1)) + 1) : Int).toNat ≤ 11728124029610 then ((some (List.replicate (wrap64 ((wrap64 (2 * a0_1)) + 1) : Int).toNat [] : List (List Int))).bind fun y496 => (impl_MazeLines.l0 k y496 (y496.length : Int) 0 a0_0 a0_1 a0_2)) else (none)) else (none)) = some r := by rw [if_pos rfl] at H; exact H
  clear H
  have H := H1
  clear H1
  obtain ⟨ji4, hji4⟩ : ∃ j_ : Int, (wrap64 ((wrap64 (2 * a0_1)) + 1)) = j_ := ⟨_, rfl⟩
  replace H : (if 0 ≤ (ji4) then (if (ji4 : Int).toNat ≤ 11728124029610 then ((some (List.replicate (ji4 : Int).toNat [] : List (List Int))).bind fun y496 => (impl_MazeLines.l0 k y496 (y496.length : Int) 0 a0_0 a0_1 a0_2)) else (none)) else (none)) = some r := by first | (rw [hji4] at H; exact H) | (simp only [hji4] at H ⊢; exact H)
  (try rw [hji4] at A2)
  have hji4w : (IntKind.i64.wrap ((wrap64 (2 * a0_1)) + 1)) = ji4 := (i64_w _).trans hji4
  by_cases c5 : 0 ≤ (ji4)
  ·rw [if_pos c5] at H
   have c5b0 := eq_true c5
   have c5b1 : decide (0 ≤ (ji4)) = true := decide_eq_true c5
   clear c5
   by_cases c6 : (ji4 : Int).toNat ≤ 11728124029610
   ·rw [if_pos c6] at H
    have c6b0 := eq_true c6
    have c6b1 : decide ((ji4 : Int).toNat ≤ 11728124029610) = true := decide_eq_true c6
    clear c6
    obtain ⟨y496, hy496⟩ : ∃ y_ : List (List Int), y_ = (List.replicate (ji4 : Int).toNat []) := ⟨_, rfl⟩
    replace H : (impl_MazeLines.l0 k y496 (y496.length : Int) 0 a0_0 a0_1 a0_2) = some r := by first | (rw [hy496]; with_reducible exact H) | (have H2_ := (Option.bind_some _ _).symm.trans H; rw [hy496]; with_reducible exact H2_) | (have H2_ := (Option.bind_some _ _).symm.trans H; with_reducible exact H2_) | with_reducible exact H | (rw [hy496]; exact H) | exact H
    have Ny496 := Aside0.mk hy496
    clear hy496
    have H' := Aside0.mk H
    clear H
    go_enter Tryd.func31, Tryd.ntmps31
    go_wp2_with (first | ((with_reducible refine gate_dst (N := 1) rfl ?_); refine box_event ?hg (N := 1) ?hd (cs := #[.int .i64 a0_0, .int .i64 a0_1, .int .i64 a0_2]) (t := 34) ?hr ?_; (case hd => rfl); (case hg => rfl); (case hr => first | (go_simp; done) | (go_simp; rfl)); intro gb494 hg w7 hbox hb; have n0_ := Aside0.mk (below_step hb_ hb); have n1_ := Aside0.mk (hbox); have n2_ := Aside0.mk ((by rw [hg]; exact (below_size hb_) : w.heap.size ≤ gb494)); have n3_ := Aside0.mk ((by rw [hg]; exact (below_size hb_) : w.heap.size ≤ gb494)); clear HB; have HB := n0_; have BK494 := n1_; have GW494 := n2_; have GE494 := n3_; clear n0_ n1_ n2_ n3_; clear hb hbox hg; have hcz8_0 := cz_ (.int .i64 a0_0) BK494.out 0; have hcz8_1 := cz_ (.int .i64 a0_1) BK494.out 1; have hcz8_2 := cz_ (.int .i64 a0_2) BK494.out 2; have hfz8_0 := blk_frozen BK494.out 0; have hfz8_1 := blk_frozen BK494.out 1; have hfz8_2 := blk_frozen BK494.out 2) | ((with_reducible refine gate_callee (f := 41) rfl ?_); refine goesL_ (some 13) rfl rfl Tryd.func41 (by kernel_rfl) rfl #[.agg #[.int .i64 a0_0, .int .i64 a0_1, .int .i64 a0_2]] rfl mp_ ?_; (with_reducible refine (impl_MazeOk.calls a0_0 a0_1 a0_2 true _ A2.out).mono ?_); rintro e w9 ⟨rfl, hb⟩; refine ⟨_, rfl, ?_⟩; have n0_ := Aside0.mk (blk_below (g := gb494) (o := .cells #[.int .i64 a0_0, .int .i64 a0_1, .int .i64 a0_2] 34 (0, 0)) (kb_ BK494.out) hb); have n1_ := Aside0.mk (below_step hb_ hb); clear BK494; clear HB; have BK494 := n0_; have HB := n1_; clear n0_ n1_; (try clear hb); (try clear hb2); (try clear hk); (try clear hi); have hcz10_0 := cz_ (.int .i64 a0_0) BK494.out 0; have hcz10_1 := cz_ (.int .i64 a0_1) BK494.out 1; have hcz10_2 := cz_ (.int .i64 a0_2) BK494.out 2; have hfz10_0 := blk_frozen BK494.out 0; have hfz10_1 := blk_frozen BK494.out 1; have hfz10_2 := blk_frozen BK494.out 2) | ((with_reducible refine gate_dst (N := 20) rfl ?_); refine Kd.S_make (Kd.slice 5 (Kd.int .u8)) _ 40 rfl (N := 20) rfl 72 _ _ rfl ji4 rfl rfl Tryd.underlying72 (.slice none 0 0) 24 info40 rfl (by decide) (by omega) [] (ok := fun _ => True) (okp := fun _ => True) ⟨_, rfl, Kd.R_nil _ _ _ _ _⟩ (fun _ hk => hk) trivial (of_decide_eq_true (by first | (with_reducible assumption) | assumption)) (Nat.le_trans (Nat.mul_le_mul_right _ (of_decide_eq_true (by first | (with_reducible assumption) | assumption) : ji4.toNat ≤ 11728124029610)) (by omega)) (Below.refl _ _) (Nat.le_refl _) ?_; intro v497 w11 ho12 hb hg_ hnew_; clear hg_ hnew_; (first | rw [← Ny496.out] at ho12 | (simp only [Int.reduceToNat] at ho12; rw [← Ny496.out] at ho12)); have n0_ := Aside0.mk (Kd.S_lower ho12 (below_size hb_)); have n1_ := Aside0.mk (blk_below (g := gb494) (o := .cells #[.int .i64 a0_0, .int .i64 a0_1, .int .i64 a0_2] 34 (0, 0)) (kb_ BK494.out) hb); have n2_ := Aside0.mk (below_step hb_ hb); clear BK494; clear HB; have HO498 := n0_; have BK494 := n1_; have HB := n2_; clear n0_ n1_ n2_; clear hb ho12; obtain ⟨Ao13, co13, eo13⟩ := Kd.S_slice HO498.out; subst eo13))
    go_loopg [23] k (fun kq v23 w' => ∃ (x3_1 : List (List Int)) (x23_1 : Int), v23 = .int .i64 x23_1 ∧ Aside0 (impl_MazeLines.l0 kq x3_1 (y496.length : Int) x23_1 a0_0 a0_1 a0_2 = some r) ∧ Aside0 (kq ≤ k) ∧ Aside0 (Kd.S (Kd.slice 5 (Kd.int .u8)) 40 w' w.heap.size (fun _ => True) (.slice Ao13 y496.length co13) x3_1) ∧ Aside0 (w'.heap[gb494]? = some (.cells #[.int .i64 a0_0, .int .i64 a0_1, .int .i64 a0_2] 34 (0, 0))) ∧ Aside0 (Below w.heap.size w w'))
    case atStart => exact ⟨(y496), (0), (by first | rfl | (simp; done) | (simp [*]; done)), H', ⟨Nat.le_refl _⟩, ⟨by (with_reducible repeat (first | apply Kd.S_alloc | apply Kd.S_drewN | apply Kd.S_drew)); exact HO498.out⟩, ⟨kb_ BK494.out⟩, ⟨hb_⟩⟩
    case round =>
     clear H'
     try clear p2
     try clear c3
     try clear c4
     try clear c5
     try clear c5b0
     try clear c5b1
     try clear c6
     try clear c6b0
     try clear c6b1
     try clear p6
     try clear hcz10_0
     try clear hcz10_1
     try clear hcz10_2
     try clear hcz8_0
     try clear hcz8_1
     try clear hcz8_2
     try clear hfz10_0
     try clear hfz10_1
     try clear hfz10_2
     try clear hfz8_0
     try clear hfz8_1
     try clear hfz8_2
     obtain ⟨x3_1, x23_1, rfl, HA, HK1, HO_3, BK494, HB⟩ := hrel
     have hl3_1 := (Kd.S_reads' HO_3.out).1
     rw [hl3_1] at HO_3
     (try simp only [hl3_1])
     (try simp only [hl3_1] at BK494)
     cases gk with
     | zero => exact absurd HA.out (by simp [impl_MazeLines.l0])
     | succ k1 =>
      have H := HA.out
      clear HA
      simp only [impl_MazeLines.l0] at H
      by_cases c14 : x23_1 < (y496.length : Int)
      ·rw [if_pos c14] at H
       have c14b0 : decide (x23_1 < (y496.length : Int)) = true := decide_eq_true c14
       have c14e0 : decide (x23_1 < (x3_1.length : Int)) = true := by rw [← hl3_1]; exact c14b0
       clear c14
       obtain ⟨y499, hy499⟩ : ∃ y_ : List Int, y_ = (([35] : List Int)) := ⟨_, rfl⟩
       replace H : ((slices_Repeat_byte_byte.f y499 (wrap64 ((wrap64 (2 * a0_0)) + 1))).bind fun t502 => (if 0 ≤ x23_1 then (if x23_1 < (x3_1.length : Int) then (impl_MazeLines.l0 k1 (x3_1.set (x23_1 : Int).toNat t502) (y496.length : Int) (wrap64 (x23_1 + 1)) a0_0 a0_1 a0_2) else (none)) else (none))) = some r := by first | (rw [hy499]; with_reducible exact H) | (have H2_ := (Option.bind_some _ _).symm.trans H; rw [hy499]; with_reducible exact H2_) | (have H2_ := (Option.bind_some _ _).symm.trans H; with_reducible exact H2_) | with_reducible exact H | (rw [hy499]; exact H) | exact H
       have Ny499 := Aside0.mk hy499
       clear hy499
       replace H := Option.bind_eq_some_iff.mp H
       obtain ⟨t502, A150, H⟩ := H
       replace H : (if 0 ≤ x23_1 then (if x23_1 < (x3_1.length : Int) then (impl_MazeLines.l0 k1 (x3_1.set (x23_1 : Int).toNat t502) (y496.length : Int) (wrap64 (x23_1 + 1)) a0_0 a0_1 a0_2) else (none)) else (none)) = some r := H
       have A15 := Aside0.mk A150
       clear A150
       by_cases c16 : 0 ≤ x23_1
       ·rw [if_pos c16] at H
        have c16b0 : decide (0 ≤ x23_1) = true := decide_eq_true c16
        clear c16
        by_cases c17 : x23_1 < (x3_1.length : Int)
        ·rw [if_pos c17] at H
         have c17b0 : decide (x23_1 < (x3_1.length : Int)) = true := decide_eq_true c17
         clear c17
         obtain ⟨y505, hy505⟩ : ∃ y_ : List (List Int), y_ = (x3_1.set (x23_1 : Int).toNat t502) := ⟨_, rfl⟩
         replace H : (impl_MazeLines.l0 k1 y505 (y496.length : Int) (wrap64 (x23_1 + 1)) a0_0 a0_1 a0_2) = some r := by first | (rw [hy505]; with_reducible exact H) | (have H2_ := (Option.bind_some _ _).symm.trans H; rw [hy505]; with_reducible exact H2_) | (have H2_ := (Option.bind_some _ _).symm.trans H; with_reducible exact H2_) | with_reducible exact H | (rw [hy505]; exact H) | exact H
         have Ny505 := Aside0.mk hy505
         clear hy505
         have H' := Aside0.mk H
         clear H
         go_wp2_with (first | ((with_reducible refine gate_dst (N := 28) rfl ?_); refine Kd.R_lit (Kd.int .u8) _ 5 ?hg (N := 28) ?hd (xs := ([35] : List Int)) (inner := [.int .u8 35]) (ok := fun _ => True) (okp := fun _ => True) ?hr ?hp (fun _ hk => hk) trivial (Below.refl _ _) (Nat.le_refl _) (by simp) ?_; (case hd => rfl); (case hg => rfl); (case hr => first | (go_simp; done) | (go_simp; rfl)); (case hp => exact (Reps.one (show Kd.M (Kd.int .u8) _ _ _ 35 [.int .u8 35] from rfl) (Reps.none _ _))); intro v500 w19 ho20 hb hg_ hnew_; clear hg_ hnew_; (first | rw [← Ny499.out] at ho20 | (simp only [Int.reduceToNat] at ho20; rw [← Ny499.out] at ho20)); have n0_ := Aside0.mk (Kd.S_elder' (by (with_reducible repeat (first | apply Kd.S_alloc | apply Kd.S_drewN | apply Kd.S_drew)); exact HO_3.out) (Kd.R_base ho20) hb); have n1_ := Aside0.mk (Kd.R_lower ho20 (below_size hb_)); have n2_ := Aside0.mk (blk_below (g := gb494) (o := .cells #[.int .i64 a0_0, .int .i64 a0_1, .int .i64 a0_2] 34 (0, 0)) (kb_ BK494.out) hb); have n3_ := Aside0.mk (below_step hb_ hb); clear HO_3; clear BK494; clear HB; have HO_3 := n0_; have HO501 := n1_; have BK494 := n2_; have HB := n3_; clear n0_ n1_ n2_ n3_; clear hb ho20; have hcz21_0 := cz_ (.int .i64 a0_0) BK494.out 0; have hcz21_1 := cz_ (.int .i64 a0_1) BK494.out 1; have hcz21_2 := cz_ (.int .i64 a0_2) BK494.out 2; have hfz21_0 := blk_frozen BK494.out 0; have hfz21_1 := blk_frozen BK494.out 1; have hfz21_2 := blk_frozen BK494.out 2; obtain ⟨Ao22, co22, eo22⟩ := Kd.R_slice HO501.out; subst eo22) | ((with_reducible refine gate_callee (f := 52) rfl ?_); refine goesL_ (some 34) rfl rfl Tryd.func52 (by kernel_rfl) rfl #[.slice Ao22 y499.length co22, .int .i64 (wrap64 ((wrap64 (2 * a0_0)) + 1))] rfl mp_ ?_; (with_reducible refine (slices_Repeat_byte_byte.calls _ _ y499 (wrap64 ((wrap64 (2 * a0_0)) + 1)) t502 _ ?side1 ?side2 A15.out).mono ?_); (case side1 => repeat (first | exact (Kd.R_reads' HO501.out).2.2 | (with_reducible refine Kd.C_alloc ?_ _) | (with_reducible refine Kd.C_drewN ?_ _) | (with_reducible refine Kd.C_drew ?_))); (case side2 => exact (Kd.R_reads' HO501.out).2.1); rintro e w23 ⟨v503, rfl, ho0, hb⟩; refine ⟨_, rfl, ?_⟩; have n0_ := Aside0.mk (Kd.S_elder' (by (with_reducible repeat (first | apply Kd.S_alloc | apply Kd.S_drewN | apply Kd.S_drew)); exact HO_3.out) (Kd.R_base ho0) hb); have n1_ := Aside0.mk (Kd.R_elder' (kr_ HO501.out) (Kd.R_base ho0) hb); have n2_ := Aside0.mk (Kd.R_lower (Kd.R_new' ho0 (Kd.R_lt (kr_ HO501.out))) (below_size hb_)); have n3_ := Aside0.mk (blk_below (g := gb494) (o := .cells #[.int .i64 a0_0, .int .i64 a0_1, .int .i64 a0_2] 34 (0, 0)) (kb_ BK494.out) hb); have n4_ := Aside0.mk (below_step hb_ hb); clear HO_3; clear HO501; clear BK494; clear HB; have HO_3 := n0_; have HO501 := n1_; have HO504 := n2_; have BK494 := n3_; have HB := n4_; clear n0_ n1_ n2_ n3_ n4_; (try clear hb); (try clear hb2); (try clear hk); (try clear hi); (try clear ho0); have p18 : 0 ≤ (x23_1 : Int) := of_decide_eq_true (by first | (with_reducible assumption) | assumption); have q18 : (x23_1 : Int) < ((x3_1.length : Int) : Int) := of_decide_eq_true (by first | (with_reducible assumption) | assumption); obtain ⟨go18, co18, eo18, gb18, gl18, cl18, HG18⟩ := Kd.S_form HO_3.out (by omega); (first | cases eo18 | (injection eo18 with ea_ en_ ec_; (first | subst ea_ | (injection ea_ with ea_; subst ea_)); subst ec_; clear en_)); have GB18 := Aside0.mk gb18; have GG18 := Aside0.mk HG18; clear gb18 gl18 HG18; obtain ⟨_, ce18, hcl18, hM18, hcc18, hfr18, _, _⟩ := Kd.S_elem HO_3.out [] (x23_1 : Int) p18 q18; obtain ⟨ve18_0, rfl, ge18_0⟩ := hM18; have hx18_0 := hcc18 0 _ rfl; have hf18_0 := hfr18 0; (try simp only [show ((Kd.slice 5 (Kd.int .u8))).sz = 1 from rfl, Nat.mul_one, Nat.add_zero] at hx18_0); (try simp only [show ((Kd.slice 5 (Kd.int .u8))).sz = 1 from rfl, Nat.mul_one, Nat.add_zero] at hf18_0); clear hcl18 hcc18 hfr18; (try clear hM18); replace p18 := eq_true p18; replace q18 := eq_true q18; have n_ := Aside0.mk (Kd.S_mono (ok' := (fun k_ => some k_ ≠ (.slice Ao22 y499.length co22 : Value).ownBlock ∧ some k_ ≠ (v503 : Value).ownBlock)) HO_3.out (fun k_ hk => ⟨hk.1.2, hk.2⟩)); clear HO_3; have HO_3 := n_; clear n_; have HX24 := Aside0.mk (show Kd.S (Kd.slice 5 (Kd.int .u8)) 40 w23 w.heap.size (fun k_ => ((fun k_ => some k_ ≠ (.slice Ao22 y499.length co22 : Value).ownBlock)) k_ ∧ ¬ ((fun k_ => some k_ = (v503 : Value).ownBlock)) k_) (.slice (some ⟨go18, 0, none⟩) x3_1.length co13) x3_1 from (by (with_reducible repeat (first | apply Kd.S_alloc | apply Kd.S_drewN | apply Kd.S_drew)); exact Kd.S_mono HO_3.out (fun k_ hk => ⟨hk.1, fun e_ => hk.2 e_⟩))); obtain ⟨oki24, ce24, hcl24, hM24, hcc24, hfr24, hoki24, hH24⟩ := Kd.S_elem HX24.out [] (x23_1 : Int) (of_decide_eq_true (by first | (with_reducible assumption) | assumption)) (by have h_ : (x23_1 : Int) < ((x3_1.length : Int) : Int) := of_decide_eq_true (by first | (with_reducible assumption) | assumption); first | exact h_ | (have e_ := (Kd.S_reads' HO_3.out).1; omega) | simpa using h_); obtain ⟨ve24_0, rfl, ge24_0⟩ := hM24; have HP24 := Kd.S_seg hH24 (of_decide_eq_true (by first | (with_reducible assumption) | assumption)) (by have h_ : (x23_1 : Int) < ((x3_1.length : Int) : Int) := of_decide_eq_true (by first | (with_reducible assumption) | assumption); first | exact h_ | (have e_ := (Kd.S_reads' HO_3.out).1; omega) | simpa using h_) (seg := [v503]) (j := 0) (show 1 ≤ 1 from by decide) (x' := t502) (Kd.M_row (Kd.R_mono (Kd.R_tight rfl (Kd.R_mono (ok' := fun k_ => ((fun k_ => some k_ ≠ (.slice Ao22 y499.length co22 : Value).ownBlock)) k_ ∧ k_ ≠ go18) (Kd.R_apart' (HO504.out) (Kd.S_typed HO_3.out) (by decide)) (fun k_ hk => ⟨hk.1.2, fun e_ => (hk.2) (by rw [e_]; rfl)⟩))) (fun _ h_ => Or.inr (h_)))) (fun _ hk => hk) (fun k_ hk_ => ((Kd.R_mono (ok' := fun k_ => ((fun k_ => some k_ ≠ (.slice Ao22 y499.length co22 : Value).ownBlock)) k_ ∧ k_ ≠ go18) (Kd.R_apart' (HO504.out) (Kd.S_typed HO_3.out) (by decide)) (fun k_ hk => ⟨hk.1.2, fun e_ => (hk.2) (by rw [e_]; rfl)⟩))).1 k_ hk_.symm); have hx24_0 := hcc24 0 _ rfl; (try simp only [show ((Kd.slice 5 (Kd.int .u8))).sz = 1 from rfl, Nat.mul_one, Nat.add_zero] at hx24_0); have hf24_0 := hfr24 0; (try simp only [show ((Kd.slice 5 (Kd.int .u8))).sz = 1 from rfl, Nat.mul_one, Nat.add_zero] at hf24_0); clear hcl24 hcc24 hfr24; (try clear hM24); clear hoki24 hH24; (try simp only [show ((Kd.slice 5 (Kd.int .u8))).sz = 1 from rfl, Nat.mul_one, Nat.add_zero] at HP24)) | ((with_reducible refine gate_store (t := 40) (p := 35) rfl ?_); refine store_event (t := 40) (p := 35) (v := ?vo_w25) (w1 := (w23.setCell ⟨go18, (x23_1 : Int).toNat, none⟩ (v503))) ?hg ?ho ?hn ?hr ?_; (case ho => rfl); (case hg => rfl); (case hn => rfl); (case hr => obtain ⟨Aq_, cq_, eq_⟩ := Kd.R_slice HO504.out; rw [eq_]; first | (go_simp; done) | (go_simp; rfl)); intro w25 hw; have hg : w23.grownBy w25 (some go18) := (by rw [hw]; exact HP24.2); have hp_ : Kd.S (Kd.slice 5 (Kd.int .u8)) 40 w25 w.heap.size (fun k_ => some k_ ≠ (.slice Ao22 y499.length co22 : Value).ownBlock) (.slice (some ⟨go18, 0, none⟩) x3_1.length co13) y505 := (by rw [hw, Ny505.out]; exact HP24.1); clear HP24; have n0_ := Aside0.mk (hp_); have n1_ := Aside0.mk (blk_grown (g := gb494) (o := .cells #[.int .i64 a0_0, .int .i64 a0_1, .int .i64 a0_2] 34 (0, 0)) (kb_ BK494.out) hg (Kd.S_ne HO_3.out BK494.out (by decide))); have n2_ := Aside0.mk (Kd.R_over' (v := (.slice (some ⟨go18, 0, none⟩) x3_1.length co13)) (kr_ HO501.out) (Kd.S_typed HO_3.out) (by decide) hg); have n3_ := Aside0.mk ((by rw [hw]; exact below_set (HB.out) GB18.out : Below w.heap.size w w25)); clear HO_3; clear BK494; clear HO501; clear HB; clear HO504; have HO_3 := n0_; have BK494 := n1_; have HO501 := n2_; have HB := n3_; clear n0_ n1_ n2_ n3_; clear hg hw hp_))
         (try simp only [← hl3_1])
         go_roundg k1
         case measure => have := HK1.out; omega
         case rel => exact ⟨(y505), (wrap64 (x23_1 + 1)), (by first | rfl | (simp; done) | (simp [*]; done)), H', ⟨by have := HK1.out; omega⟩, ⟨by (try simp only [hl3_1]); (with_reducible repeat (first | apply Kd.S_alloc | apply Kd.S_drewN | apply Kd.S_drew)); exact Kd.S_mono HO_3.out (fun _ hk => trivial)⟩, ⟨by (try simp only [hl3_1]); (with_reducible repeat (first | refine blk_drewN ?_ _ | refine blk_drew ?_ | refine blk_alloc ?_ _)); exact BK494.out⟩, ⟨hb_⟩⟩
        ·rw [if_neg c17] at H
         exact absurd H (by simp)
       ·rw [if_neg c16] at H
        exact absurd H (by simp)
      ·rw [if_neg c14] at H
       have c14b0 : decide (x23_1 < (y496.length : Int)) = false := decide_eq_false c14
       have c14e0 : decide (x23_1 < (x3_1.length : Int)) = false := by rw [← hl3_1]; exact c14b0
       clear c14
       have H' := Aside0.mk H
       clear H
       go_wp2
       go_loopg [5] k1 (fun kq v5 w' => ∃ (x3_2 : List (List Int)) (x5_2 : Int), v5 = .int .i64 x5_2 ∧ Aside0 (impl_MazeLines.l1 kq x3_2 x5_2 a0_0 a0_1 a0_2 = some r) ∧ Aside0 (kq ≤ k1) ∧ Aside0 (Kd.S (Kd.slice 5 (Kd.int .u8)) 40 w' w.heap.size (fun _ => True) (.slice Ao13 x3_1.length co13) x3_2) ∧ Aside0 (w'.heap[gb494]? = some (.cells #[.int .i64 a0_0, .int .i64 a0_1, .int .i64 a0_2] 34 (0, 0))) ∧ Aside0 (Below w.heap.size w w'))
       case atStart => exact ⟨(x3_1), (0), (by first | rfl | (simp; done) | (simp [*]; done)), H', ⟨Nat.le_refl _⟩, ⟨by (try simp only [hl3_1]); (with_reducible repeat (first | apply Kd.S_alloc | apply Kd.S_drewN | apply Kd.S_drew)); exact HO_3.out⟩, ⟨by (try simp only [hl3_1]); (with_reducible repeat (first | refine blk_drewN ?_ _ | refine blk_drew ?_ | refine blk_alloc ?_ _)); exact BK494.out⟩, ⟨hb_⟩⟩
       case round =>
        clear H'
        try clear c1
        try clear p1
        try clear q1
        try clear hx1
        try clear hf1
        try clear c2
        try clear p2
        try clear hx2
        try clear hf2
        try clear c3
        try clear c4
        try clear c5
        try clear c5b0
        try clear c5b1
        try clear c6
        try clear c6b0
        try clear c6b1
        try clear p6
        try clear c14
        try clear c14b0
        try clear c16
        try clear c16b0
        try clear c17
        try clear c17b0
        try clear c18
        try clear p18
        try clear q18
        try clear hx18
        try clear hf18
        try clear c24
        try clear hx24
        try clear hf24
        try clear hcz10_0
        try clear hcz10_1
        try clear hcz10_2
        try clear hcz21_0
        try clear hcz21_1
        try clear hcz21_2
        try clear hcz8_0
        try clear hcz8_1
        try clear hcz8_2
        try clear hfz10_0
        try clear hfz10_1
        try clear hfz10_2
        try clear hfz21_0
        try clear hfz21_1
        try clear hfz21_2
        try clear hfz8_0
        try clear hfz8_1
        try clear hfz8_2
        try clear hx18_0
        try clear hx24_0
        try clear p18
        try clear p2
        try clear p6
        try clear q18
        obtain ⟨x3_2, x5_2, rfl, HA, HK2, HO_3, BK494, HB⟩ := hrel
        have hl3_2 := (Kd.S_reads' HO_3.out).1
        rw [hl3_2] at HO_3
        (try simp only [hl3_2])
        (try simp only [hl3_2] at BK494)
        cases gk with
        | zero => exact absurd HA.out (by simp [impl_MazeLines.l1])
        | succ k2 =>
         have H := HA.out
         clear HA
         simp only [impl_MazeLines.l1] at H
         replace H := Option.bind_eq_some_iff.mp H
         obtain ⟨t506, A260, H⟩ := H
         replace H : (if x5_2 < t506 then (if a0_0 = 0 then (none) else (if 0 ≤ (wrap64 ((wrap64 (2 * (wrap64 (Int.tdiv x5_2 a0_0)))) + 1)) then (if (wrap64 ((wrap64 (2 * (wrap64 (Int.tdiv x5_2 a0_0)))) + 1)) < (x3_2.length : Int) then (if 0 ≤ (wrap64 ((wrap64 (2 * (Int.tmod x5_2 a0_0))) + 1)) then (if (wrap64 ((wrap64 (2 * (Int.tmod x5_2 a0_0))) + 1)) < ((rd_L4 x3_2 (wrap64 ((wrap64 (2 * (wrap64 (Int.tdiv x5_2 a0_0)))) + 1))).length : Int) then (impl_MazeLines.l1 k2 (x3_2.set ((wrap64 ((wrap64 (2 * (wrap64 (Int.tdiv x5_2 a0_0)))) + 1)) : Int).toNat ((rd_L4 x3_2 (wrap64 ((wrap64 (2 * (wrap64 (Int.tdiv x5_2 a0_0)))) + 1))).set ((wrap64 ((wrap64 (2 * (Int.tmod x5_2 a0_0))) + 1)) : Int).toNat 32)) (wrap64 (x5_2 + 1)) a0_0 a0_1 a0_2) else (none)) else (none)) else (none)) else (none))) else (impl_MazeLines.l2 k2 x3_2 0 a0_0 a0_1 a0_2)) = some r := H
         have A26 := Aside0.mk A260
         clear A260
         by_cases c27 : x5_2 < t506
         ·rw [if_pos c27] at H
          have c27b0 : decide (x5_2 < t506) = true := decide_eq_true c27
          clear c27
          by_cases c28 : a0_0 = 0
          ·rw [if_pos c28] at H
           exact absurd H (by simp)
          ·rw [if_neg c28] at H
           have c28b0 : (a0_0 == 0) = false := beq_eq_false_iff_ne.mpr c28
           have c28b1 : (a0_0 != 0) = true := bne_iff_ne.mpr c28
           obtain ⟨ji29, hji29⟩ : ∃ j_ : Int, (wrap64 ((wrap64 (2 * (wrap64 (Int.tdiv x5_2 a0_0)))) + 1)) = j_ := ⟨_, rfl⟩
           replace H : (if 0 ≤ (ji29) then (if (ji29) < (x3_2.length : Int) then (if 0 ≤ (wrap64 ((wrap64 (2 * (Int.tmod x5_2 a0_0))) + 1)) then (if (wrap64 ((wrap64 (2 * (Int.tmod x5_2 a0_0))) + 1)) < ((rd_L4 x3_2 (ji29)).length : Int) then (impl_MazeLines.l1 k2 (x3_2.set ((ji29) : Int).toNat ((rd_L4 x3_2 (ji29)).set ((wrap64 ((wrap64 (2 * (Int.tmod x5_2 a0_0))) + 1)) : Int).toNat 32)) (wrap64 (x5_2 + 1)) a0_0 a0_1 a0_2) else (none)) else (none)) else (none)) else (none)) = some r := by first | (rw [hji29] at H; exact H) | (simp only [hji29] at H ⊢; exact H)
           (try rw [hji29] at A26)
           have hji29w : (IntKind.i64.wrap ((wrap64 (2 * (wrap64 (Int.tdiv x5_2 a0_0)))) + 1)) = ji29 := (i64_w _).trans hji29
           by_cases c30 : 0 ≤ (ji29)
           ·rw [if_pos c30] at H
            have c30b0 : decide (0 ≤ (ji29)) = true := decide_eq_true c30
            clear c30
            by_cases c31 : (ji29) < (x3_2.length : Int)
            ·rw [if_pos c31] at H
             have c31b0 : decide ((ji29) < (x3_2.length : Int)) = true := decide_eq_true c31
             clear c31
             obtain ⟨ji32, hji32⟩ : ∃ j_ : Int, (wrap64 ((wrap64 (2 * (Int.tmod x5_2 a0_0))) + 1)) = j_ := ⟨_, rfl⟩
             replace H : (if 0 ≤ (ji32) then (if (ji32) < ((rd_L4 x3_2 (ji29)).length : Int) then (impl_MazeLines.l1 k2 (x3_2.set ((ji29) : Int).toNat ((rd_L4 x3_2 (ji29)).set ((ji32) : Int).toNat 32)) (wrap64 (x5_2 + 1)) a0_0 a0_1 a0_2) else (none)) else (none)) = some r := by first | (rw [hji32] at H; exact H) | (simp only [hji32] at H ⊢; exact H)
             (try rw [hji32] at A26)
             have hji32w : (IntKind.i64.wrap ((wrap64 (2 * (Int.tmod x5_2 a0_0))) + 1)) = ji32 := (i64_w _).trans hji32
             by_cases c33 : 0 ≤ (ji32)
             ·rw [if_pos c33] at H
              have c33b0 : decide (0 ≤ (ji32)) = true := decide_eq_true c33
              clear c33
              by_cases c34 : (ji32) < ((rd_L4 x3_2 (ji29)).length : Int)
              ·rw [if_pos c34] at H
               have c34b0 : decide ((ji32) < ((rd_L4 x3_2 (ji29)).length : Int)) = true := decide_eq_true c34
               clear c34
               obtain ⟨y508, hy508⟩ : ∃ y_ : List Int, y_ = ((rd_L4 x3_2 (ji29)).set ((ji32) : Int).toNat 32) := ⟨_, rfl⟩
               replace H : (impl_MazeLines.l1 k2 (x3_2.set ((ji29) : Int).toNat y508) (wrap64 (x5_2 + 1)) a0_0 a0_1 a0_2) = some r := by first | (rw [hy508]; with_reducible exact H) | (have H2_ := (Option.bind_some _ _).symm.trans H; rw [hy508]; with_reducible exact H2_) | (have H2_ := (Option.bind_some _ _).symm.trans H; with_reducible exact H2_) | with_reducible exact H | (rw [hy508]; exact H) | exact H
               have Ny508 := Aside0.mk hy508
               clear hy508
               obtain ⟨y510, hy510⟩ : ∃ y_ : List (List Int), y_ = (x3_2.set ((ji29) : Int).toNat y508) := ⟨_, rfl⟩
               replace H : (impl_MazeLines.l1 k2 y510 (wrap64 (x5_2 + 1)) a0_0 a0_1 a0_2) = some r := by first | (rw [hy510]; with_reducible exact H) | (have H2_ := (Option.bind_some _ _).symm.trans H; rw [hy510]; with_reducible exact H2_) | (have H2_ := (Option.bind_some _ _).symm.trans H; with_reducible exact H2_) | with_reducible exact H | (rw [hy510]; exact H) | exact H
               have Ny510 := Aside0.mk hy510
               clear hy510
               have H' := Aside0.mk H
               clear H
               have hcz36_0 : wr.cell? ⟨gb494, 0, none⟩ = some (.int .i64 a0_0) := (blk_cell BK494.out 0).trans rfl
               have hcz36_1 : wr.cell? ⟨gb494, 1, none⟩ = some (.int .i64 a0_1) := (blk_cell BK494.out 1).trans rfl
               have hcz36_2 : wr.cell? ⟨gb494, 2, none⟩ = some (.int .i64 a0_2) := (blk_cell BK494.out 2).trans rfl
               have hfz36_0 := blk_frozen BK494.out 0
               have hfz36_1 := blk_frozen BK494.out 1
               have hfz36_2 := blk_frozen BK494.out 2
               try go_wp2_with (first | ((with_reducible refine gate_callee (f := 53) rfl ?_); refine goesL_ (some 40) rfl rfl Tryd.func53 (by kernel_rfl) rfl #[.agg #[.int .i64 a0_0, .int .i64 a0_1]] rfl mp_ ?_; (with_reducible refine (impl_CountCells.calls a0_0 a0_1 t506 _ A26.out).mono ?_); rintro e w37 ⟨rfl, hb⟩; refine ⟨_, rfl, ?_⟩; have n0_ := Aside0.mk (Kd.S_below (by (with_reducible repeat (first | apply Kd.S_alloc | apply Kd.S_drewN | apply Kd.S_drew)); exact HO_3.out) hb); have n1_ := Aside0.mk (blk_below (g := gb494) (o := .cells #[.int .i64 a0_0, .int .i64 a0_1, .int .i64 a0_2] 34 (0, 0)) (kb_ BK494.out) hb); have n2_ := Aside0.mk (below_step hb_ hb); clear HO_3; clear BK494; clear HB; have HO_3 := n0_; have BK494 := n1_; have HB := n2_; clear n0_ n1_ n2_; (try clear hb); (try clear hb2); (try clear hk); (try clear hi)))
               have n0_ := Aside0.mk (Kd.S_drew HO_3.out)
               have n1_ := Aside0.mk (blk_drew BK494.out)
               have n2_ := Aside0.mk (below_drew1 HB.out)
               clear HO_3
               clear BK494
               clear HB
               have HO_3 := n0_
               have BK494 := n1_
               have HB := n2_
               clear n0_ n1_ n2_
               have p507 : 0 ≤ ((ji29) : Int) := of_decide_eq_true (by first | (with_reducible assumption) | assumption)
               have q507 : (ji29) < (x3_2.length : Int) := of_decide_eq_true (by first | (with_reducible assumption) | assumption)
               obtain ⟨ad507, A507_0, c507_0, e507, hx507_0, hl507_0, hi507_0⟩ := at_L4 (Kd.S_reads' HO_3.out).2.2 (ji29) p507 q507
               cases e507
               obtain ⟨ce507, hce507, hMe507, hcc507⟩ := Kd.S_get HO_3.out [] (ji29) p507 (by first | exact q507 | exact of_decide_eq_true (by first | (with_reducible assumption) | assumption) | (have e_ := (Kd.S_reads' HO_3.out).1; omega))
               obtain ⟨ve507_0, rfl, ge507_0⟩ := hMe507
               have hv507_0 := hcc507 0 _ rfl
               rw [Nat.add_zero, show ((Kd.slice 5 (Kd.int .u8))).sz = 1 from rfl, Nat.mul_one] at hv507_0
               replace hv507_0 := Option.some.inj (hv507_0.symm.trans hx507_0)
               rw [hv507_0] at ge507_0
               have HL507_0 := Aside0.mk (show Kd.R (Kd.int .u8) 5 _ _ _ _ (rd_L4 x3_2 (ji29)) from ge507_0)
               clear hv507_0 ge507_0
               have HX507_0 := Aside0.mk hx507_0
               clear hcc507 hce507
               have HR507_0 := Aside0.mk hi507_0
               have HC507_0 := Aside0.mk hl507_0
               clear hi507_0 hl507_0
               replace p507 := eq_true p507
               replace q507 := eq_true q507
               have p35 : 0 ≤ ((ji32) : Int) := of_decide_eq_true (by first | (with_reducible assumption) | assumption)
               have q35 : ((ji32) : Int) < (((rd_L4 x3_2 (ji29)).length : Int) : Int) := of_decide_eq_true (by first | (with_reducible assumption) | assumption)
               obtain ⟨go35, co35, eo35, gb35, gl35, cl35, HG35⟩ := Kd.R_form HL507_0.out (by omega)
               (first | cases eo35 | (injection eo35 with ea_ en_ ec_; (first | subst ea_ | (injection ea_ with ea_; subst ea_)); subst ec_; clear en_))
               have GB35 := Aside0.mk gb35
               have GG35 := Aside0.mk HG35
               clear gb35 gl35 HG35
               obtain ⟨hx35_0, hf35_0⟩ := Kd.R_celln 0 HL507_0.out ((ji32) : Int) p35 q35
               replace p35 := eq_true p35
               replace q35 := eq_true q35
               have hq39 : ((ji29) : Int) < (x3_2.length : Int) := (by have h_ : ((ji29) : Int) < ((x3_2.length : Int) : Int) := of_decide_eq_true (by first | (with_reducible assumption) | assumption); first | exact h_ | (have e_ := (Kd.S_reads' HO_3.out).1; omega) | simpa only [List.length_set, List.length_set] using h_)
               obtain ⟨oki39, ce39, hcl39, hM39, hcc39, hok39, hbk39⟩ := Kd.S_borrow HO_3.out [] ((ji29) : Int) (of_decide_eq_true (by first | (with_reducible assumption) | assumption)) hq39
               obtain ⟨ve39_0, rfl, ge39_0⟩ := hM39
               have hv39 := hcc39 0 _ rfl
               rw [Nat.add_zero, show ((Kd.slice 5 (Kd.int .u8))).sz = 1 from rfl, Nat.mul_one] at hv39
               replace hv39 := Option.some.inj (hv39.symm.trans HX507_0.out)
               subst hv39
               clear hcc39 hcl39
               replace ge39_0 := (show Kd.R (Kd.int .u8) 5 _ _ _ _ (rd_L4 x3_2 (ji29)) from ge39_0)
               have HP39 := Kd.R_putg ge39_0 ((ji32) : Int) 32
               rw [← Ny508.out] at HP39
               have HS39 := hbk39 HP39.2 (fun k_ e_ => by injection e_ with e_; subst e_; exact ge39_0.1 _ rfl) (x' := y508) (Kd.M_row HP39.1)
               rw [← Ny510.out] at HS39
               have HQ39 := Aside0.mk HS39
               clear HP39 HS39 hbk39 hok39
               refine start_ (n := 19) (S := fun w' => w'.cell? ⟨gb494, 0, none⟩ = some (.int .i64 a0_0) ∧ w'.cell? ⟨gb494, 1, none⟩ = some (.int .i64 a0_1) ∧ w'.cell? ⟨gb494, 2, none⟩ = some (.int .i64 a0_2) ∧ w'.cell? (ad507.add ((ji29)).toNat) = some (.slice (some ⟨go35, 0, none⟩) (rd_L4 x3_2 (ji29)).length _)) (ds := [18]) #[false, false, false, false, false, false, false, false, false, false, false, false, false, false, false, false, false, false, false] (by kernel_rfl) rfl rfl ⟨(blk_cell BK494.out 0).trans rfl, (blk_cell BK494.out 1).trans rfl, (blk_cell BK494.out 2).trans rfl, hx507_0⟩ (fun hHeld => ?_); refine with_tabW impl_MazeLines.tab12 impl_MazeLines.bits12 (fun HT_ HW_ => ?_)
               generalize w37.drew = w38 at HO_3 BK494 HB GG35 HL507_0 HQ39 HR507_0 HX507_0 hf35_0 hx35_0 hx507_0 hHeld ⊢
               refine pure_ (i := 0) (N := some 44) (v := ?_) (a' := ?_) #[true, false, false, false, false, false, false, false, false, false, false, false, false, false, false, false, false, false, false] rfl rfl (any_of HT_.out (by kernel_rfl)) (fun _ _ _ h => h) (Or.inl ⟨by rfl, ?_⟩) ?_ ?_
               rotate_left
               ·intro w'
                go_simp
                with_reducible rfl
               rotate_left
               ·simp only [Act.put, List.setIfInBounds_toArray, List.set_cons_zero, List.set_cons_succ, i64_w, i32_w]
                rfl
               refine pure_ (i := 1) (N := some 45) (v := ?_) (a' := ?_) #[true, true, false, false, false, false, false, false, false, false, false, false, false, false, false, false, false, false, false] rfl rfl (any_of HT_.out (by kernel_rfl)) (fun _ _ _ h => h) (Or.inl ⟨by rfl, ?_⟩) ?_ ?_
               rotate_left
               ·intro w'
                go_simp
                with_reducible rfl
               rotate_left
               ·simp only [Act.put, List.setIfInBounds_toArray, List.set_cons_zero, List.set_cons_succ, i64_w, i32_w]
                rfl
               refine pure_ (i := 2) (N := some 46) (v := ?_) (a' := ?_) #[true, true, true, false, false, false, false, false, false, false, false, false, false, false, false, false, false, false, false] rfl rfl (any_of HT_.out (by kernel_rfl)) (fun _ _ _ h => h) (Or.inl ⟨by rfl, ?_⟩) ?_ ?_
               rotate_left
               ·intro w'
                go_simp
                with_reducible rfl
               rotate_left
               ·simp only [Act.put, List.setIfInBounds_toArray, List.set_cons_zero, List.set_cons_succ, i64_w, i32_w]
                rfl
               refine pure_ (i := 3) (N := some 47) (v := ?_) (a' := ?_) #[true, true, true, true, false, false, false, false, false, false, false, false, false, false, false, false, false, false, false] rfl rfl (any_of HT_.out (by kernel_rfl)) (fun _ _ _ h => h) (Or.inl ⟨by rfl, ?_⟩) ?_ ?_
               rotate_left
               ·intro w'
                go_simp
                with_reducible rfl
               rotate_left
               ·simp only [Act.put, List.setIfInBounds_toArray, List.set_cons_zero, List.set_cons_succ, i64_w, i32_w]
                rfl
               refine pure_ (i := 10) (N := some 54) (v := ?_) (a' := ?_) #[true, true, true, true, false, false, false, false, false, false, true, false, false, false, false, false, false, false, false] rfl rfl (any_of HT_.out (by kernel_rfl)) (fun _ _ _ h => h) (Or.inl ⟨by rfl, ?_⟩) ?_ ?_
               rotate_left
               ·intro w'
                go_simp
                with_reducible rfl
               rotate_left
               ·simp only [Act.put, List.setIfInBounds_toArray, List.set_cons_zero, List.set_cons_succ, i64_w, i32_w]
                rfl
               refine pure_ (i := 11) (N := some 55) (v := ?_) (a' := ?_) #[true, true, true, true, false, false, false, false, false, false, true, true, false, false, false, false, false, false, false] rfl rfl (any_of HT_.out (by kernel_rfl)) (fun _ _ _ h => h) (Or.inl ⟨by rfl, ?_⟩) ?_ ?_
               rotate_left
               ·intro w'
                go_simp
                with_reducible rfl
               rotate_left
               ·simp only [Act.put, List.setIfInBounds_toArray, List.set_cons_zero, List.set_cons_succ, i64_w, i32_w]
                rfl
               refine pure_ (i := 12) (N := some 56) (v := ?_) (a' := ?_) #[true, true, true, true, false, false, false, false, false, false, true, true, true, false, false, false, false, false, false] rfl rfl (any_of HT_.out (by kernel_rfl)) (fun _ _ _ h => h) (Or.inl ⟨by rfl, ?_⟩) ?_ ?_
               rotate_left
               ·intro w'
                go_simp
                with_reducible rfl
               rotate_left
               ·simp only [Act.put, List.setIfInBounds_toArray, List.set_cons_zero, List.set_cons_succ, i64_w, i32_w]
                rfl
               refine take_ (i := 4) (N := some 48) (v := ?_) (a' := ?_) #[true, true, true, true, true, false, false, false, false, false, true, true, true, false, false, false, false, false, false] rfl rfl (take_ofW HT_.out HW_.out (by kernel_rfl)) (fun _ _ _ h => h) (Or.inl ⟨by rfl, ?_⟩) hHeld ?_ ?_
               rotate_left
               ·rintro w' ⟨s0, s1, s2, s3⟩
                go_simp
                with_reducible rfl
               rotate_left
               ·simp only [Act.put, List.setIfInBounds_toArray, List.set_cons_zero, List.set_cons_succ, i64_w, i32_w]
                rfl
               refine pure_ (i := 5) (N := some 49) (v := ?_) (a' := ?_) #[true, true, true, true, true, true, false, false, false, false, true, true, true, false, false, false, false, false, false] rfl rfl (any_of HT_.out (by kernel_rfl)) (fun _ _ _ h => h) (Or.inl ⟨by rfl, ?_⟩) ?_ ?_
               rotate_left
               ·intro w'
                go_simp
                with_reducible rfl
               rotate_left
               ·simp only [Act.put, List.setIfInBounds_toArray, List.set_cons_zero, List.set_cons_succ, i64_w, i32_w]
                rfl
               refine pure_ (i := 6) (N := some 50) (v := ?_) (a' := ?_) #[true, true, true, true, true, true, true, false, false, false, true, true, true, false, false, false, false, false, false] rfl rfl (any_of HT_.out (by kernel_rfl)) (fun _ _ _ h => h) (Or.inl ⟨by rfl, ?_⟩) ?_ ?_
               rotate_left
               ·intro w'
                go_simp
                with_reducible rfl
               rotate_left
               ·simp only [Act.put, List.setIfInBounds_toArray, List.set_cons_zero, List.set_cons_succ, i64_w, i32_w]
                rfl
               refine pure_ (i := 7) (N := some 51) (v := ?_) (a' := ?_) #[true, true, true, true, true, true, true, true, false, false, true, true, true, false, false, false, false, false, false] rfl rfl (any_of HT_.out (by kernel_rfl)) (fun _ _ _ h => h) (Or.inl ⟨by rfl, ?_⟩) ?_ ?_
               rotate_left
               ·intro w'
                go_simp
                with_reducible rfl
               rotate_left
               ·simp only [Act.put, List.setIfInBounds_toArray, List.set_cons_zero, List.set_cons_succ, i64_w, i32_w]
                rfl
               refine pure_ (i := 8) (N := some 52) (v := ?_) (a' := ?_) #[true, true, true, true, true, true, true, true, true, false, true, true, true, false, false, false, false, false, false] rfl rfl (any_of HT_.out (by kernel_rfl)) (fun _ _ _ h => h) (Or.inl ⟨by rfl, ?_⟩) ?_ ?_
               rotate_left
               ·intro w'
                go_simp
                with_reducible rfl
               rotate_left
               ·simp only [Act.put, List.setIfInBounds_toArray, List.set_cons_zero, List.set_cons_succ, i64_w, i32_w]
                rfl
               refine take_ (i := 9) (N := some 53) (v := ?_) (a' := ?_) #[true, true, true, true, true, true, true, true, true, true, true, true, true, false, false, false, false, false, false] rfl rfl (take_ofW HT_.out HW_.out (by kernel_rfl)) (fun _ _ _ h => h) (Or.inl ⟨by rfl, ?_⟩) hHeld ?_ ?_
               rotate_left
               ·rintro w' ⟨s0, s1, s2, s3⟩
                go_simp
                with_reducible rfl
               rotate_left
               ·simp only [Act.put, List.setIfInBounds_toArray, List.set_cons_zero, List.set_cons_succ, i64_w, i32_w]
                rfl
               refine take_ (i := 13) (N := some 57) (v := ?_) (a' := ?_) #[true, true, true, true, true, true, true, true, true, true, true, true, true, true, false, false, false, false, false] rfl rfl (take_ofW HT_.out HW_.out (by kernel_rfl)) (fun _ _ _ h => h) (Or.inl ⟨by rfl, ?_⟩) hHeld ?_ ?_
               rotate_left
               ·rintro w' ⟨s0, s1, s2, s3⟩
                go_simp
                with_reducible rfl
               rotate_left
               ·simp only [Act.put, List.setIfInBounds_toArray, List.set_cons_zero, List.set_cons_succ, i64_w, i32_w]
                rfl
               refine pure_ (i := 14) (N := some 58) (v := ?_) (a' := ?_) #[true, true, true, true, true, true, true, true, true, true, true, true, true, true, true, false, false, false, false] rfl rfl (any_of HT_.out (by kernel_rfl)) (fun _ _ _ h => h) (Or.inl ⟨by rfl, ?_⟩) ?_ ?_
               rotate_left
               ·intro w'
                go_simp
                with_reducible rfl
               rotate_left
               ·simp only [Act.put, List.setIfInBounds_toArray, List.set_cons_zero, List.set_cons_succ, i64_w, i32_w]
                rfl
               refine pure_ (i := 15) (N := some 59) (v := ?_) (a' := ?_) #[true, true, true, true, true, true, true, true, true, true, true, true, true, true, true, true, false, false, false] rfl rfl (any_of HT_.out (by kernel_rfl)) (fun _ _ _ h => h) (Or.inl ⟨by rfl, ?_⟩) ?_ ?_
               rotate_left
               ·intro w'
                go_simp
                with_reducible rfl
               rotate_left
               ·simp only [Act.put, List.setIfInBounds_toArray, List.set_cons_zero, List.set_cons_succ, i64_w, i32_w]
                rfl
               refine pure_ (i := 16) (N := some 60) (v := ?_) (a' := ?_) #[true, true, true, true, true, true, true, true, true, true, true, true, true, true, true, true, true, false, false] rfl rfl (any_of HT_.out (by kernel_rfl)) (fun _ _ _ h => h) (Or.inl ⟨by rfl, ?_⟩) ?_ ?_
               rotate_left
               ·intro w'
                go_simp
                with_reducible rfl
               rotate_left
               ·simp only [Act.put, List.setIfInBounds_toArray, List.set_cons_zero, List.set_cons_succ, i64_w, i32_w]
                rfl
               refine pure_ (i := 17) (N := some 61) (v := ?_) (a' := ?_) #[true, true, true, true, true, true, true, true, true, true, true, true, true, true, true, true, true, true, false] rfl rfl (any_of HT_.out (by kernel_rfl)) (fun _ _ _ h => h) (Or.inl ⟨by rfl, ?_⟩) ?_ ?_
               rotate_left
               ·intro w'
                go_simp
                with_reducible rfl
               rotate_left
               ·simp only [Act.put, List.setIfInBounds_toArray, List.set_cons_zero, List.set_cons_succ, i64_w, i32_w]
                rfl
               refine last_ (i := 18) (N := none) #[true, true, true, true, true, true, true, true, true, true, true, true, true, true, true, true, true, true, true] rfl rfl (one_of HT_.out (by kernel_rfl)) (by decide) (fun K hK => ?_)
               refine skip_ (w1 := ?_) (by rfl) rfl ?_ ?_
               rotate_left
               ·go_simp
                rfl
               refine hK.out _ _ ?_
               clear hK K
               refine done_ (done_of HT_.out (by kernel_rfl)) ?_
               try go_wp2
               (try simp only [← hl3_2])
               go_roundg k2
               case measure => have := HK1.out; have := HK2.out; omega
               case rel => exact ⟨(y510), (wrap64 (x5_2 + 1)), (by first | rfl | (simp; done) | (simp [*]; done)), H', ⟨by have := HK1.out; have := HK2.out; omega⟩, ⟨by (try simp only [hl3_1]); (try simp only [hl3_2]); (with_reducible repeat (first | apply Kd.S_alloc | apply Kd.S_drewN | apply Kd.S_drew)); exact HQ39.out⟩, ⟨by (try simp only [hl3_1]); (try simp only [hl3_2]); (with_reducible repeat (first | refine blk_drewN ?_ _ | refine blk_drew ?_ | refine blk_alloc ?_ _)); refine blk_far ?_ (by have h_ := Kd.R_ne HL507_0.out BK494.out (by decide); intro e_; exact h_ (by rw [e_]; rfl)) _; (with_reducible repeat (first | refine blk_drewN ?_ _ | refine blk_drew ?_ | refine blk_alloc ?_ _)); exact BK494.out⟩, ⟨by repeat (first | (with_reducible first | exact HB.out | apply below_alloc | apply pw_below_drewN | apply below_drew1 | refine below_set ?_ GB35.out | refine below_set ?_ GE494.out) | exact HB.out)⟩⟩
              ·rw [if_neg c34] at H
               exact absurd H (by simp)
             ·rw [if_neg c33] at H
              exact absurd H (by simp)
            ·rw [if_neg c31] at H
             exact absurd H (by simp)
           ·rw [if_neg c30] at H
            exact absurd H (by simp)
         ·rw [if_neg c27] at H
          have c27b0 : decide (x5_2 < t506) = false := decide_eq_false c27
          clear c27
          have H' := Aside0.mk H
          clear H
          have hcz41_0 : wr.cell? ⟨gb494, 0, none⟩ = some (.int .i64 a0_0) := (blk_cell BK494.out 0).trans rfl
          have hcz41_1 : wr.cell? ⟨gb494, 1, none⟩ = some (.int .i64 a0_1) := (blk_cell BK494.out 1).trans rfl
          have hcz41_2 : wr.cell? ⟨gb494, 2, none⟩ = some (.int .i64 a0_2) := (blk_cell BK494.out 2).trans rfl
          have hfz41_0 := blk_frozen BK494.out 0
          have hfz41_1 := blk_frozen BK494.out 1
          have hfz41_2 := blk_frozen BK494.out 2
          go_wp2_with (first | ((with_reducible refine gate_callee (f := 53) rfl ?_); refine goesL_ (some 40) rfl rfl Tryd.func53 (by kernel_rfl) rfl #[.agg #[.int .i64 a0_0, .int .i64 a0_1]] rfl mp_ ?_; (with_reducible refine (impl_CountCells.calls a0_0 a0_1 t506 _ A26.out).mono ?_); rintro e w42 ⟨rfl, hb⟩; refine ⟨_, rfl, ?_⟩; have n0_ := Aside0.mk (Kd.S_below (by (with_reducible repeat (first | apply Kd.S_alloc | apply Kd.S_drewN | apply Kd.S_drew)); exact HO_3.out) hb); have n1_ := Aside0.mk (blk_below (g := gb494) (o := .cells #[.int .i64 a0_0, .int .i64 a0_1, .int .i64 a0_2] 34 (0, 0)) (kb_ BK494.out) hb); have n2_ := Aside0.mk (below_step hb_ hb); clear HO_3; clear BK494; clear HB; have HO_3 := n0_; have BK494 := n1_; have HB := n2_; clear n0_ n1_ n2_; (try clear hb); (try clear hb2); (try clear hk); (try clear hi)))
          go_loopg [6] k2 (fun kq v6 w' => ∃ (x3_3 : List (List Int)) (x6_3 : Int), v6 = .int .i64 x6_3 ∧ Aside0 (impl_MazeLines.l2 kq x3_3 x6_3 a0_0 a0_1 a0_2 = some r) ∧ Aside0 (kq ≤ k2) ∧ Aside0 (Kd.S (Kd.slice 5 (Kd.int .u8)) 40 w' w.heap.size (fun _ => True) (.slice Ao13 x3_2.length co13) x3_3) ∧ Aside0 (w'.heap[gb494]? = some (.cells #[.int .i64 a0_0, .int .i64 a0_1, .int .i64 a0_2] 34 (0, 0))) ∧ Aside0 (Below w.heap.size w w'))
          case atStart => exact ⟨(x3_2), (0), (by first | rfl | (simp; done) | (simp [*]; done)), H', ⟨Nat.le_refl _⟩, ⟨by (try simp only [hl3_1]); (try simp only [hl3_2]); (with_reducible repeat (first | apply Kd.S_alloc | apply Kd.S_drewN | apply Kd.S_drew)); exact HO_3.out⟩, ⟨by (try simp only [hl3_1]); (try simp only [hl3_2]); (with_reducible repeat (first | refine blk_drewN ?_ _ | refine blk_drew ?_ | refine blk_alloc ?_ _)); exact BK494.out⟩, ⟨hb_⟩⟩
          case round =>
           clear H'
           try clear c1
           try clear p1
           try clear q1
           try clear hx1
           try clear hf1
           try clear c2
           try clear p2
           try clear hx2
           try clear hf2
           try clear c3
           try clear p3
           try clear q3
           try clear hx3
           try clear hf3
           try clear c4
           try clear c5
           try clear c5b0
           try clear c5b1
           try clear p5
           try clear q5
           try clear hx5
           try clear c6
           try clear c6b0
           try clear c6b1
           try clear p6
           try clear c14
           try clear c14b0
           try clear c16
           try clear c16b0
           try clear c17
           try clear c17b0
           try clear c18
           try clear p18
           try clear q18
           try clear hx18
           try clear hf18
           try clear c24
           try clear hx24
           try clear hf24
           try clear c27
           try clear c27b0
           try clear c28
           try clear c28b0
           try clear c28b1
           try clear c30
           try clear c30b0
           try clear c31
           try clear c31b0
           try clear c33
           try clear c33b0
           try clear c34
           try clear c34b0
           try clear p35
           try clear q35
           try clear hx35
           try clear hf35
           try clear c39
           try clear q39
           try clear c41
           try clear hcz10_0
           try clear hcz10_1
           try clear hcz10_2
           try clear hcz21_0
           try clear hcz21_1
           try clear hcz21_2
           try clear hcz36_0
           try clear hcz36_1
           try clear hcz36_2
           try clear hcz41_0
           try clear hcz41_1
           try clear hcz41_2
           try clear hcz8_0
           try clear hcz8_1
           try clear hcz8_2
           try clear hfz10_0
           try clear hfz10_1
           try clear hfz10_2
           try clear hfz21_0
           try clear hfz21_1
           try clear hfz21_2
           try clear hfz36_0
           try clear hfz36_1
           try clear hfz36_2
           try clear hfz41_0
           try clear hfz41_1
           try clear hfz41_2
           try clear hfz8_0
           try clear hfz8_1
           try clear hfz8_2
           try clear hx18_0
           try clear hx24_0
           try clear hx35_0
           try clear hx507_0
           try clear p1
           try clear p18
           try clear p2
           try clear p35
           try clear p507
           try clear p6
           try clear q1
           try clear q18
           try clear q35
           try clear q507
           obtain ⟨x3_3, x6_3, rfl, HA, HK3, HO_3, BK494, HB⟩ := hrel
           have hl3_3 := (Kd.S_reads' HO_3.out).1
           rw [hl3_3] at HO_3
           (try simp only [hl3_3])
           (try simp only [hl3_3] at BK494)
           cases gk with
           | zero => exact absurd HA.out (by simp [impl_MazeLines.l2])
           | succ k3 =>
            have H := HA.out
            clear HA
            simp only [impl_MazeLines.l2] at H
            replace H := Option.bind_eq_some_iff.mp H
            obtain ⟨t511, A430, H⟩ := H
            replace H : (if x6_3 < t511 then ((impl_isOpen.f a0_0 a0_1 a0_2 x6_3).bind fun t512 => (if t512 = true then ((impl_gapPlace.f a0_0 a0_1 x6_3).bind fun bt513 => (if 0 ≤ bt513.1 then (if bt513.1 < (x3_3.length : Int) then (if 0 ≤ bt513.2 then (if bt513.2 < ((rd_L4 x3_3 bt513.1).length : Int) then (impl_MazeLines.l2 k3 (x3_3.set (bt513.1 : Int).toNat ((rd_L4 x3_3 bt513.1).set (bt513.2 : Int).toNat 32)) (wrap64 (x6_3 + 1)) a0_0 a0_1 a0_2) else (none)) else (none)) else (none)) else (none))) else (impl_MazeLines.l2 k3 x3_3 (wrap64 (x6_3 + 1)) a0_0 a0_1 a0_2))) else (impl_MazeLines.l3 k3 ([] : List ByteArray) x3_3 (x3_3.length : Int) 0)) = some r := H
            have A43 := Aside0.mk A430
            clear A430
            by_cases c44 : x6_3 < t511
            ·rw [if_pos c44] at H
             have c44b0 : decide (x6_3 < t511) = true := decide_eq_true c44
             clear c44
             replace H := Option.bind_eq_some_iff.mp H
             obtain ⟨t512, A450, H⟩ := H
             replace H : (if t512 = true then ((impl_gapPlace.f a0_0 a0_1 x6_3).bind fun bt513 => (if 0 ≤ bt513.1 then (if bt513.1 < (x3_3.length : Int) then (if 0 ≤ bt513.2 then (if bt513.2 < ((rd_L4 x3_3 bt513.1).length : Int) then (impl_MazeLines.l2 k3 (x3_3.set (bt513.1 : Int).toNat ((rd_L4 x3_3 bt513.1).set (bt513.2 : Int).toNat 32)) (wrap64 (x6_3 + 1)) a0_0 a0_1 a0_2) else (none)) else (none)) else (none)) else (none))) else (impl_MazeLines.l2 k3 x3_3 (wrap64 (x6_3 + 1)) a0_0 a0_1 a0_2)) = some r := H
             have A45 := Aside0.mk A450
             clear A450
             by_cases c46 : t512 = true
             ·subst c46
              have H1 : ((impl_gapPlace.f a0_0 a0_1 x6_3).bind fun bt513 => (if 0 ≤ bt513.1 then (if bt513.1 < (x3_3.length : Int) then (if 0 ≤ bt513.2 then (if bt513.2 < ((rd_L4 x3_3 bt513.1).length : Int) then (impl_MazeLines.l2 k3 (x3_3.set (bt513.1 : Int).toNat ((rd_L4 x3_3 bt513.1).set (bt513.2 : Int).toNat 32)) (wrap64 (x6_3 + 1)) a0_0 a0_1 a0_2) else (none)) else (none)) else (none)) else (none))) = some r := by rw [if_pos rfl] at H; exact H
              clear H
              have H := H1
              clear H1
              replace H := Option.bind_eq_some_iff.mp H
              obtain ⟨⟨t513, t514⟩, A470, H⟩ := H
              replace H : (if 0 ≤ t513 then (if t513 < (x3_3.length : Int) then (if 0 ≤ t514 then (if t514 < ((rd_L4 x3_3 t513).length : Int) then (impl_MazeLines.l2 k3 (x3_3.set (t513 : Int).toNat ((rd_L4 x3_3 t513).set (t514 : Int).toNat 32)) (wrap64 (x6_3 + 1)) a0_0 a0_1 a0_2) else (none)) else (none)) else (none)) else (none)) = some r := H
              have A47 := Aside0.mk A470
              clear A470
              by_cases c48 : 0 ≤ t513
              ·rw [if_pos c48] at H
               have c48b0 : decide (0 ≤ t513) = true := decide_eq_true c48
               clear c48
               by_cases c49 : t513 < (x3_3.length : Int)
               ·rw [if_pos c49] at H
                have c49b0 : decide (t513 < (x3_3.length : Int)) = true := decide_eq_true c49
                clear c49
                by_cases c50 : 0 ≤ t514
                ·rw [if_pos c50] at H
                 have c50b0 : decide (0 ≤ t514) = true := decide_eq_true c50
                 clear c50
                 by_cases c51 : t514 < ((rd_L4 x3_3 t513).length : Int)
                 ·rw [if_pos c51] at H
                  have c51b0 : decide (t514 < ((rd_L4 x3_3 t513).length : Int)) = true := decide_eq_true c51
                  clear c51
                  obtain ⟨y516, hy516⟩ : ∃ y_ : List Int, y_ = ((rd_L4 x3_3 t513).set (t514 : Int).toNat 32) := ⟨_, rfl⟩
                  replace H : (impl_MazeLines.l2 k3 (x3_3.set (t513 : Int).toNat y516) (wrap64 (x6_3 + 1)) a0_0 a0_1 a0_2) = some r := by first | (rw [hy516]; with_reducible exact H) | (have H2_ := (Option.bind_some _ _).symm.trans H; rw [hy516]; with_reducible exact H2_) | (have H2_ := (Option.bind_some _ _).symm.trans H; with_reducible exact H2_) | with_reducible exact H | (rw [hy516]; exact H) | exact H
                  have Ny516 := Aside0.mk hy516
                  clear hy516
                  obtain ⟨y518, hy518⟩ : ∃ y_ : List (List Int), y_ = (x3_3.set (t513 : Int).toNat y516) := ⟨_, rfl⟩
                  replace H : (impl_MazeLines.l2 k3 y518 (wrap64 (x6_3 + 1)) a0_0 a0_1 a0_2) = some r := by first | (rw [hy518]; with_reducible exact H) | (have H2_ := (Option.bind_some _ _).symm.trans H; rw [hy518]; with_reducible exact H2_) | (have H2_ := (Option.bind_some _ _).symm.trans H; with_reducible exact H2_) | with_reducible exact H | (rw [hy518]; exact H) | exact H
                  have Ny518 := Aside0.mk hy518
                  clear hy518
                  have H' := Aside0.mk H
                  clear H
                  have hcz53_0 : wr.cell? ⟨gb494, 0, none⟩ = some (.int .i64 a0_0) := (blk_cell BK494.out 0).trans rfl
                  have hcz53_1 : wr.cell? ⟨gb494, 1, none⟩ = some (.int .i64 a0_1) := (blk_cell BK494.out 1).trans rfl
                  have hcz53_2 : wr.cell? ⟨gb494, 2, none⟩ = some (.int .i64 a0_2) := (blk_cell BK494.out 2).trans rfl
                  have hfz53_0 := blk_frozen BK494.out 0
                  have hfz53_1 := blk_frozen BK494.out 1
                  have hfz53_2 := blk_frozen BK494.out 2
                  go_wp2_with (first | ((with_reducible refine gate_callee (f := 54) rfl ?_); refine goesL_ (some 65) rfl rfl Tryd.func54 (by kernel_rfl) rfl #[.agg #[.int .i64 a0_0, .int .i64 a0_1]] rfl mp_ ?_; (with_reducible refine (impl_CountGaps.calls a0_0 a0_1 t511 _ A43.out).mono ?_); rintro e w54 ⟨rfl, hb⟩; refine ⟨_, rfl, ?_⟩; have n0_ := Aside0.mk (Kd.S_below (by (with_reducible repeat (first | apply Kd.S_alloc | apply Kd.S_drewN | apply Kd.S_drew)); exact HO_3.out) hb); have n1_ := Aside0.mk (blk_below (g := gb494) (o := .cells #[.int .i64 a0_0, .int .i64 a0_1, .int .i64 a0_2] 34 (0, 0)) (kb_ BK494.out) hb); have n2_ := Aside0.mk (below_step hb_ hb); clear HO_3; clear BK494; clear HB; have HO_3 := n0_; have BK494 := n1_; have HB := n2_; clear n0_ n1_ n2_; (try clear hb); (try clear hb2); (try clear hk); (try clear hi); have hcz55_0 := cz_ (.int .i64 a0_0) BK494.out 0; have hcz55_1 := cz_ (.int .i64 a0_1) BK494.out 1; have hcz55_2 := cz_ (.int .i64 a0_2) BK494.out 2; have hfz55_0 := blk_frozen BK494.out 0; have hfz55_1 := blk_frozen BK494.out 1; have hfz55_2 := blk_frozen BK494.out 2) | ((with_reducible refine gate_callee (f := 55) rfl ?_); refine goesL_ (some 71) rfl rfl Tryd.func55 (by kernel_rfl) rfl #[.agg #[.int .i64 a0_0, .int .i64 a0_1, .int .i64 a0_2], .int .i64 x6_3] rfl mp_ ?_; (with_reducible refine (impl_isOpen.calls a0_0 a0_1 a0_2 x6_3 true _ A45.out).mono ?_); rintro e w56 ⟨rfl, hb⟩; refine ⟨_, rfl, ?_⟩; have n0_ := Aside0.mk (Kd.S_below (by (with_reducible repeat (first | apply Kd.S_alloc | apply Kd.S_drewN | apply Kd.S_drew)); exact HO_3.out) hb); have n1_ := Aside0.mk (blk_below (g := gb494) (o := .cells #[.int .i64 a0_0, .int .i64 a0_1, .int .i64 a0_2] 34 (0, 0)) (kb_ BK494.out) hb); have n2_ := Aside0.mk (below_step hb_ hb); clear HO_3; clear BK494; clear HB; have HO_3 := n0_; have BK494 := n1_; have HB := n2_; clear n0_ n1_ n2_; (try clear hb); (try clear hb2); (try clear hk); (try clear hi); have hcz57_0 := cz_ (.int .i64 a0_0) BK494.out 0; have hcz57_1 := cz_ (.int .i64 a0_1) BK494.out 1; have hcz57_2 := cz_ (.int .i64 a0_2) BK494.out 2; have hfz57_0 := blk_frozen BK494.out 0; have hfz57_1 := blk_frozen BK494.out 1; have hfz57_2 := blk_frozen BK494.out 2) | ((with_reducible refine gate_callee (f := 56) rfl ?_); refine goesL_ (some 76) rfl rfl Tryd.func56 (by kernel_rfl) rfl #[.agg #[.int .i64 a0_0, .int .i64 a0_1], .int .i64 x6_3] rfl mp_ ?_; (with_reducible refine (impl_gapPlace.calls a0_0 a0_1 x6_3 t513 t514 _ A47.out).mono ?_); rintro e w58 ⟨rfl, hb⟩; refine ⟨_, rfl, ?_⟩; have n0_ := Aside0.mk (Kd.S_below (by (with_reducible repeat (first | apply Kd.S_alloc | apply Kd.S_drewN | apply Kd.S_drew)); exact HO_3.out) hb); have n1_ := Aside0.mk (blk_below (g := gb494) (o := .cells #[.int .i64 a0_0, .int .i64 a0_1, .int .i64 a0_2] 34 (0, 0)) (kb_ BK494.out) hb); have n2_ := Aside0.mk (below_step hb_ hb); clear HO_3; clear BK494; clear HB; have HO_3 := n0_; have BK494 := n1_; have HB := n2_; clear n0_ n1_ n2_; (try clear hb); (try clear hb2); (try clear hk); (try clear hi); have p515 : 0 ≤ (t513 : Int) := of_decide_eq_true (by first | (with_reducible assumption) | assumption); have q515 : t513 < (x3_3.length : Int) := of_decide_eq_true (by first | (with_reducible assumption) | assumption); obtain ⟨ad515, A515_0, c515_0, e515, hx515_0, hl515_0, hi515_0⟩ := at_L4 (Kd.S_reads' HO_3.out).2.2 t513 p515 q515; cases e515; obtain ⟨ce515, hce515, hMe515, hcc515⟩ := Kd.S_get HO_3.out [] t513 p515 (by first | exact q515 | exact of_decide_eq_true (by first | (with_reducible assumption) | assumption) | (have e_ := (Kd.S_reads' HO_3.out).1; omega)); obtain ⟨ve515_0, rfl, ge515_0⟩ := hMe515; have hv515_0 := hcc515 0 _ rfl; rw [Nat.add_zero, show ((Kd.slice 5 (Kd.int .u8))).sz = 1 from rfl, Nat.mul_one] at hv515_0; replace hv515_0 := Option.some.inj (hv515_0.symm.trans hx515_0); rw [hv515_0] at ge515_0; have HL515_0 := Aside0.mk (show Kd.R (Kd.int .u8) 5 _ _ _ _ (rd_L4 x3_3 t513) from ge515_0); clear hv515_0 ge515_0; have HX515_0 := Aside0.mk hx515_0; clear hcc515 hce515; have HR515_0 := Aside0.mk hi515_0; have HC515_0 := Aside0.mk hl515_0; clear hi515_0 hl515_0; replace p515 := eq_true p515; replace q515 := eq_true q515; have p52 : 0 ≤ (t514 : Int) := of_decide_eq_true (by first | (with_reducible assumption) | assumption); have q52 : (t514 : Int) < (((rd_L4 x3_3 t513).length : Int) : Int) := of_decide_eq_true (by first | (with_reducible assumption) | assumption); obtain ⟨go52, co52, eo52, gb52, gl52, cl52, HG52⟩ := Kd.R_form HL515_0.out (by omega); (first | cases eo52 | (injection eo52 with ea_ en_ ec_; (first | subst ea_ | (injection ea_ with ea_; subst ea_)); subst ec_; clear en_)); have GB52 := Aside0.mk gb52; have GG52 := Aside0.mk HG52; clear gb52 gl52 HG52; obtain ⟨hx52_0, hf52_0⟩ := Kd.R_celln 0 HL515_0.out (t514 : Int) p52 q52; replace p52 := eq_true p52; replace q52 := eq_true q52; have hq59 : (t513 : Int) < (x3_3.length : Int) := (by have h_ : (t513 : Int) < ((x3_3.length : Int) : Int) := of_decide_eq_true (by first | (with_reducible assumption) | assumption); first | exact h_ | (have e_ := (Kd.S_reads' HO_3.out).1; omega) | simpa only [List.length_set, List.length_set] using h_); obtain ⟨oki59, ce59, hcl59, hM59, hcc59, hok59, hbk59⟩ := Kd.S_borrow HO_3.out [] (t513 : Int) (of_decide_eq_true (by first | (with_reducible assumption) | assumption)) hq59; obtain ⟨ve59_0, rfl, ge59_0⟩ := hM59; have hv59 := hcc59 0 _ rfl; rw [Nat.add_zero, show ((Kd.slice 5 (Kd.int .u8))).sz = 1 from rfl, Nat.mul_one] at hv59; replace hv59 := Option.some.inj (hv59.symm.trans HX515_0.out); subst hv59; clear hcc59 hcl59; replace ge59_0 := (show Kd.R (Kd.int .u8) 5 _ _ _ _ (rd_L4 x3_3 t513) from ge59_0); have HP59 := Kd.R_putg ge59_0 (t514 : Int) 32) | ((with_reducible refine gate_store (t := 5) (p := 84) rfl ?_); refine store_event (t := 5) (p := 84) (v := ?vo_w60) (w1 := (w58.setCell ⟨go52, (t514 : Int).toNat, none⟩ (.int .u8 32))) ?hg ?ho ?hn ?hr ?_; (case ho => rfl); (case hg => rfl); (case hn => rfl); (case hr => first | (go_simp; done) | (go_simp; rfl)); intro w60 hw; have hg : w58.grownBy w60 (some go52) := (by rw [hw]; exact HP59.2); have hz_ : Kd.R (Kd.int .u8) 5 w60 w.heap.size oki59 (.slice (some ⟨go52, 0, none⟩) (rd_L4 x3_3 t513).length c515_0) y516 := (by rw [hw, Ny516.out]; exact HP59.1); have hp_ : Kd.S (Kd.slice 5 (Kd.int .u8)) 40 w60 w.heap.size (fun _ => True) (.slice (some ad515) x3_3.length co13) y518 := (by rw [Ny518.out]; exact hbk59 hg (fun k_ e_ => by injection e_ with e_; subst e_; exact ge59_0.1 _ rfl) (Kd.M_row hz_)); have hm_ := Kd.R_mono hz_ hok59; clear HP59 hbk59; have n0_ := Aside0.mk (hp_); have n1_ := Aside0.mk (blk_grown (g := gb494) (o := .cells #[.int .i64 a0_0, .int .i64 a0_1, .int .i64 a0_2] 34 (0, 0)) (kb_ BK494.out) hg (Kd.R_ne HL515_0.out BK494.out (by decide))); have n2_ := Aside0.mk ((by rw [hw]; exact below_set (HB.out) GB52.out : Below w.heap.size w w60)); have n3_ := Aside0.mk (hm_); have n4_ := Aside0.mk ((Kd.R_reads' hm_).2.1); clear HO_3; clear BK494; clear HB; clear HL515_0; have HO_3 := n0_; have BK494 := n1_; have HB := n2_; have HL523 := n3_; have HC517 := n4_; clear n0_ n1_ n2_ n3_ n4_; clear hg hw hp_ hz_ hm_ hok59))
                  (try simp only [← hl3_3])
                  go_roundg k3
                  case measure => have := HK1.out; have := HK2.out; have := HK3.out; omega
                  case rel => exact ⟨(y518), (wrap64 (x6_3 + 1)), (by first | rfl | (simp; done) | (simp [*]; done)), H', ⟨by have := HK1.out; have := HK2.out; have := HK3.out; omega⟩, ⟨by (try simp only [hl3_1]); (try simp only [hl3_2]); (try simp only [hl3_3]); (with_reducible repeat (first | apply Kd.S_alloc | apply Kd.S_drewN | apply Kd.S_drew)); exact HO_3.out⟩, ⟨by (try simp only [hl3_1]); (try simp only [hl3_2]); (try simp only [hl3_3]); (with_reducible repeat (first | refine blk_drewN ?_ _ | refine blk_drew ?_ | refine blk_alloc ?_ _)); exact BK494.out⟩, ⟨hb_⟩⟩
                 ·rw [if_neg c51] at H
                  exact absurd H (by simp)
                ·rw [if_neg c50] at H
                 exact absurd H (by simp)
               ·rw [if_neg c49] at H
                exact absurd H (by simp)
              ·rw [if_neg c48] at H
               exact absurd H (by simp)
             ·replace c46 := Bool.eq_false_iff.mpr c46
              subst c46
              have H1 : (impl_MazeLines.l2 k3 x3_3 (wrap64 (x6_3 + 1)) a0_0 a0_1 a0_2) = some r := by rw [if_neg (show ¬ (false = true) by decide)] at H; exact H
              clear H
              have H := H1
              clear H1
              have H' := Aside0.mk H
              clear H
              have hcz61_0 : wr.cell? ⟨gb494, 0, none⟩ = some (.int .i64 a0_0) := (blk_cell BK494.out 0).trans rfl
              have hcz61_1 : wr.cell? ⟨gb494, 1, none⟩ = some (.int .i64 a0_1) := (blk_cell BK494.out 1).trans rfl
              have hcz61_2 : wr.cell? ⟨gb494, 2, none⟩ = some (.int .i64 a0_2) := (blk_cell BK494.out 2).trans rfl
              have hfz61_0 := blk_frozen BK494.out 0
              have hfz61_1 := blk_frozen BK494.out 1
              have hfz61_2 := blk_frozen BK494.out 2
              go_wp2_with (first | ((with_reducible refine gate_callee (f := 54) rfl ?_); refine goesL_ (some 65) rfl rfl Tryd.func54 (by kernel_rfl) rfl #[.agg #[.int .i64 a0_0, .int .i64 a0_1]] rfl mp_ ?_; (with_reducible refine (impl_CountGaps.calls a0_0 a0_1 t511 _ A43.out).mono ?_); rintro e w62 ⟨rfl, hb⟩; refine ⟨_, rfl, ?_⟩; have n0_ := Aside0.mk (Kd.S_below (by (with_reducible repeat (first | apply Kd.S_alloc | apply Kd.S_drewN | apply Kd.S_drew)); exact HO_3.out) hb); have n1_ := Aside0.mk (blk_below (g := gb494) (o := .cells #[.int .i64 a0_0, .int .i64 a0_1, .int .i64 a0_2] 34 (0, 0)) (kb_ BK494.out) hb); have n2_ := Aside0.mk (below_step hb_ hb); clear HO_3; clear BK494; clear HB; have HO_3 := n0_; have BK494 := n1_; have HB := n2_; clear n0_ n1_ n2_; (try clear hb); (try clear hb2); (try clear hk); (try clear hi); have hcz63_0 := cz_ (.int .i64 a0_0) BK494.out 0; have hcz63_1 := cz_ (.int .i64 a0_1) BK494.out 1; have hcz63_2 := cz_ (.int .i64 a0_2) BK494.out 2; have hfz63_0 := blk_frozen BK494.out 0; have hfz63_1 := blk_frozen BK494.out 1; have hfz63_2 := blk_frozen BK494.out 2) | ((with_reducible refine gate_callee (f := 55) rfl ?_); refine goesL_ (some 71) rfl rfl Tryd.func55 (by kernel_rfl) rfl #[.agg #[.int .i64 a0_0, .int .i64 a0_1, .int .i64 a0_2], .int .i64 x6_3] rfl mp_ ?_; (with_reducible refine (impl_isOpen.calls a0_0 a0_1 a0_2 x6_3 false _ A45.out).mono ?_); rintro e w64 ⟨rfl, hb⟩; refine ⟨_, rfl, ?_⟩; have n0_ := Aside0.mk (Kd.S_below (by (with_reducible repeat (first | apply Kd.S_alloc | apply Kd.S_drewN | apply Kd.S_drew)); exact HO_3.out) hb); have n1_ := Aside0.mk (blk_below (g := gb494) (o := .cells #[.int .i64 a0_0, .int .i64 a0_1, .int .i64 a0_2] 34 (0, 0)) (kb_ BK494.out) hb); have n2_ := Aside0.mk (below_step hb_ hb); clear HO_3; clear BK494; clear HB; have HO_3 := n0_; have BK494 := n1_; have HB := n2_; clear n0_ n1_ n2_; (try clear hb); (try clear hb2); (try clear hk); (try clear hi)))
              (try simp only [← hl3_3])
              go_roundg k3
              case measure => have := HK1.out; have := HK2.out; have := HK3.out; omega
              case rel => exact ⟨(x3_3), (wrap64 (x6_3 + 1)), (by first | rfl | (simp; done) | (simp [*]; done)), H', ⟨by have := HK1.out; have := HK2.out; have := HK3.out; omega⟩, ⟨by (try simp only [hl3_1]); (try simp only [hl3_2]); (try simp only [hl3_3]); (with_reducible repeat (first | apply Kd.S_alloc | apply Kd.S_drewN | apply Kd.S_drew)); exact HO_3.out⟩, ⟨by (try simp only [hl3_1]); (try simp only [hl3_2]); (try simp only [hl3_3]); (with_reducible repeat (first | refine blk_drewN ?_ _ | refine blk_drew ?_ | refine blk_alloc ?_ _)); exact BK494.out⟩, ⟨hb_⟩⟩
            ·rw [if_neg c44] at H
             have c44b0 : decide (x6_3 < t511) = false := decide_eq_false c44
             clear c44
             have H' := Aside0.mk H
             clear H
             have hcz65_0 : wr.cell? ⟨gb494, 0, none⟩ = some (.int .i64 a0_0) := (blk_cell BK494.out 0).trans rfl
             have hcz65_1 : wr.cell? ⟨gb494, 1, none⟩ = some (.int .i64 a0_1) := (blk_cell BK494.out 1).trans rfl
             have hcz65_2 : wr.cell? ⟨gb494, 2, none⟩ = some (.int .i64 a0_2) := (blk_cell BK494.out 2).trans rfl
             have hfz65_0 := blk_frozen BK494.out 0
             have hfz65_1 := blk_frozen BK494.out 1
             have hfz65_2 := blk_frozen BK494.out 2
             go_wp2_with (first | ((with_reducible refine gate_callee (f := 54) rfl ?_); refine goesL_ (some 65) rfl rfl Tryd.func54 (by kernel_rfl) rfl #[.agg #[.int .i64 a0_0, .int .i64 a0_1]] rfl mp_ ?_; (with_reducible refine (impl_CountGaps.calls a0_0 a0_1 t511 _ A43.out).mono ?_); rintro e w66 ⟨rfl, hb⟩; refine ⟨_, rfl, ?_⟩; have n0_ := Aside0.mk (Kd.S_below (by (with_reducible repeat (first | apply Kd.S_alloc | apply Kd.S_drewN | apply Kd.S_drew)); exact HO_3.out) hb); have n1_ := Aside0.mk (blk_below (g := gb494) (o := .cells #[.int .i64 a0_0, .int .i64 a0_1, .int .i64 a0_2] 34 (0, 0)) (kb_ BK494.out) hb); have n2_ := Aside0.mk (below_step hb_ hb); clear HO_3; clear BK494; clear HB; have HO_3 := n0_; have BK494 := n1_; have HB := n2_; clear n0_ n1_ n2_; (try clear hb); (try clear hb2); (try clear hk); (try clear hi)))
             go_loopg [9, 87] k3 (fun kq v9 v87 w' => ∃ (x9_4 : List ByteArray) (x87_4 : Int), v87 = .int .i64 x87_4 ∧ Aside0 (impl_MazeLines.l3 kq x9_4 x3_3 (x3_3.length : Int) x87_4 = some r) ∧ Aside0 (kq ≤ k3) ∧ Aside0 (Kd.R Kd.string 9 w' w.heap.size (fun _ => True) v9 x9_4) ∧ Aside0 (Kd.S (Kd.slice 5 (Kd.int .u8)) 40 w' w.heap.size (fun _ => True) (.slice Ao13 x3_3.length co13) x3_3) ∧ Aside0 (w'.heap[gb494]? = some (.cells #[.int .i64 a0_0, .int .i64 a0_1, .int .i64 a0_2] 34 (0, 0))) ∧ Aside0 (Below w.heap.size w w'))
             case atStart => exact ⟨(([] : List ByteArray)), (0), (by first | rfl | (simp; done) | (simp [*]; done)), H', ⟨Nat.le_refl _⟩, ⟨by (try simp only [hl3_1]); (try simp only [hl3_2]); (try simp only [hl3_3]); first | exact Kd.R_nil _ _ _ _ _ | exact Kd.N_nil _ _ _ _ _ | exact Kd.V_nil _ _ _ _ _ | exact Kd.Q_nil _ _ _ _ _ | exact Kd.S_nil _ _ _ _ _⟩, ⟨by (try simp only [hl3_1]); (try simp only [hl3_2]); (try simp only [hl3_3]); (with_reducible repeat (first | apply Kd.S_alloc | apply Kd.S_drewN | apply Kd.S_drew)); exact HO_3.out⟩, ⟨by (try simp only [hl3_1]); (try simp only [hl3_2]); (try simp only [hl3_3]); (with_reducible repeat (first | refine blk_drewN ?_ _ | refine blk_drew ?_ | refine blk_alloc ?_ _)); exact BK494.out⟩, ⟨hb_⟩⟩
             case round =>
              clear H'
              try clear c1
              try clear p1
              try clear q1
              try clear hx1
              try clear hf1
              try clear c2
              try clear p2
              try clear hx2
              try clear hf2
              try clear c3
              try clear p3
              try clear q3
              try clear hx3
              try clear hf3
              try clear c4
              try clear c5
              try clear c5b0
              try clear c5b1
              try clear p5
              try clear q5
              try clear hx5
              try clear hf5
              try clear c6
              try clear c6b0
              try clear c6b1
              try clear p6
              try clear c14
              try clear c14b0
              try clear c16
              try clear c16b0
              try clear c17
              try clear c17b0
              try clear c18
              try clear p18
              try clear q18
              try clear hx18
              try clear hf18
              try clear c24
              try clear hx24
              try clear hf24
              try clear c27
              try clear c27b0
              try clear c28
              try clear c28b0
              try clear c28b1
              try clear c30
              try clear c30b0
              try clear c31
              try clear c31b0
              try clear c33
              try clear c33b0
              try clear c34
              try clear c34b0
              try clear p35
              try clear q35
              try clear hx35
              try clear hf35
              try clear c39
              try clear q39
              try clear c41
              try clear c44
              try clear c44b0
              try clear c46
              try clear c48
              try clear c48b0
              try clear c49
              try clear c49b0
              try clear c50
              try clear c50b0
              try clear p50
              try clear q50
              try clear hx50
              try clear c51
              try clear c51b0
              try clear p51
              try clear q51
              try clear hx51
              try clear c52
              try clear p52
              try clear q52
              try clear hx52
              try clear hf52
              try clear c53
              try clear c54
              try clear c55
              try clear c56
              try clear c59
              try clear q59
              try clear p64
              try clear hcz10_0
              try clear hcz10_1
              try clear hcz10_2
              try clear hcz21_0
              try clear hcz21_1
              try clear hcz21_2
              try clear hcz36_0
              try clear hcz36_1
              try clear hcz36_2
              try clear hcz41_0
              try clear hcz41_1
              try clear hcz41_2
              try clear hcz53_0
              try clear hcz53_1
              try clear hcz53_2
              try clear hcz55_0
              try clear hcz55_1
              try clear hcz55_2
              try clear hcz57_0
              try clear hcz57_1
              try clear hcz57_2
              try clear hcz61_0
              try clear hcz61_1
              try clear hcz61_2
              try clear hcz63_0
              try clear hcz63_1
              try clear hcz63_2
              try clear hcz65_0
              try clear hcz65_1
              try clear hcz65_2
              try clear hcz8_0
              try clear hcz8_1
              try clear hcz8_2
              try clear hfz10_0
              try clear hfz10_1
              try clear hfz10_2
              try clear hfz21_0
              try clear hfz21_1
              try clear hfz21_2
              try clear hfz36_0
              try clear hfz36_1
              try clear hfz36_2
              try clear hfz41_0
              try clear hfz41_1
              try clear hfz41_2
              try clear hfz53_0
              try clear hfz53_1
              try clear hfz53_2
              try clear hfz55_0
              try clear hfz55_1
              try clear hfz55_2
              try clear hfz57_0
              try clear hfz57_1
              try clear hfz57_2
              try clear hfz61_0
              try clear hfz61_1
              try clear hfz61_2
              try clear hfz63_0
              try clear hfz63_1
              try clear hfz63_2
              try clear hfz65_0
              try clear hfz65_1
              try clear hfz65_2
              try clear hfz8_0
              try clear hfz8_1
              try clear hfz8_2
              try clear hx18_0
              try clear hx24_0
              try clear hx35_0
              try clear hx507_0
              try clear hx515_0
              try clear hx52_0
              try clear p1
              try clear p18
              try clear p2
              try clear p3
              try clear p35
              try clear p5
              try clear p507
              try clear p515
              try clear p52
              try clear p6
              try clear q1
              try clear q18
              try clear q3
              try clear q35
              try clear q39
              try clear q5
              try clear q507
              try clear q515
              try clear q52
              obtain ⟨x9_4, x87_4, rfl, HA, HK4, HO_9, HO_85, BK494, HB⟩ := hrel
              cases gk with
              | zero => exact absurd HA.out (by simp [impl_MazeLines.l3])
              | succ k4 =>
               have H := HA.out
               clear HA
               simp only [impl_MazeLines.l3] at H
               by_cases c67 : x87_4 < (x3_3.length : Int)
               ·rw [if_pos c67] at H
                have c67b0 : decide (x87_4 < (x3_3.length : Int)) = true := decide_eq_true c67
                clear c67
                by_cases c68 : 0 ≤ x87_4
                ·rw [if_pos c68] at H
                 have c68b0 : decide (0 ≤ x87_4) = true := decide_eq_true c68
                 clear c68
                 by_cases c69 : x87_4 < (x3_3.length : Int)
                 ·rw [if_pos c69] at H
                  have c69b0 : decide (x87_4 < (x3_3.length : Int)) = true := decide_eq_true c69
                  clear c69
                  by_cases c70 : x9_4.length < 8796093022208
                  ·rw [if_pos c70] at H
                   have LMc70 := Aside0.mk c70
                   clear c70
                   obtain ⟨y520, hy520⟩ : ∃ y_ : List ByteArray, y_ = (x9_4 ++ [strOfNums (rd_L4 x3_3 x87_4)]) := ⟨_, rfl⟩
                   replace H : (impl_MazeLines.l3 k4 y520 x3_3 (x3_3.length : Int) (wrap64 (x87_4 + 1))) = some r := by first | (rw [hy520]; with_reducible exact H) | (have H2_ := (Option.bind_some _ _).symm.trans H; rw [hy520]; with_reducible exact H2_) | (have H2_ := (Option.bind_some _ _).symm.trans H; with_reducible exact H2_) | with_reducible exact H | (rw [hy520]; exact H) | exact H
                   have Ny520 := Aside0.mk hy520
                   clear hy520
                   have H' := Aside0.mk H
                   clear H
                   have p519 : 0 ≤ (x87_4 : Int) := of_decide_eq_true (by first | (with_reducible assumption) | assumption)
                   have q519 : x87_4 < (x3_3.length : Int) := of_decide_eq_true (by first | (with_reducible assumption) | assumption)
                   obtain ⟨ad519, A519_0, c519_0, e519, hx519_0, hl519_0, hi519_0⟩ := at_L4 (Kd.S_reads' HO_85.out).2.2 x87_4 p519 q519
                   cases e519
                   obtain ⟨ce519, hce519, hMe519, hcc519⟩ := Kd.S_get HO_85.out [] x87_4 p519 (by first | exact q519 | exact of_decide_eq_true (by first | (with_reducible assumption) | assumption) | (have e_ := (Kd.S_reads' HO_85.out).1; omega))
                   obtain ⟨ve519_0, rfl, ge519_0⟩ := hMe519
                   have hv519_0 := hcc519 0 _ rfl
                   rw [Nat.add_zero, show ((Kd.slice 5 (Kd.int .u8))).sz = 1 from rfl, Nat.mul_one] at hv519_0
                   replace hv519_0 := Option.some.inj (hv519_0.symm.trans hx519_0)
                   rw [hv519_0] at ge519_0
                   have HL519_0 := Aside0.mk (show Kd.R (Kd.int .u8) 5 _ _ _ _ (rd_L4 x3_3 x87_4) from ge519_0)
                   clear hv519_0 ge519_0
                   have HX519_0 := Aside0.mk hx519_0
                   clear hcc519 hce519
                   have HR519_0 := Aside0.mk hi519_0
                   have HC519_0 := Aside0.mk hl519_0
                   clear hi519_0 hl519_0
                   replace p519 := eq_true p519
                   replace q519 := eq_true q519
                   have hcv71 := Kd.C_string (P := Tryd.prog) (A := A519_0) (c := c519_0) Tryd.underlying40 Tryd.underlying5 Tryd.underlying9 (by repeat (first | (with_reducible exact HR519_0.out) | (with_reducible refine Kd.C_alloc ?_ _) | (with_reducible refine Kd.C_drewN ?_ _) | (with_reducible refine Kd.C_drew ?_) | exact HR519_0.out))
                   go_wp2_with (first | ((with_reducible refine gate_builtin (b := .append) (xs := #[.tmp 91, .tmp 94]) rfl ?_); at_builtin; refine Kd.R_append Kd.string (w0 := w) w.heap.size rfl (.tmp 91) (.tmp 94) 46 9 (.string ⟨#[]⟩) 16 rfl Tryd.underlying46 info9 rfl (by decide) (by omega) u9 x9_4 (strOfNums (rd_L4 x3_3 x87_4)) [.string (strOfNums (rd_L4 x3_3 x87_4))] (fun _ => True) (fun _ => False) rfl rfl ?aP (fun _ hk => hk.elim) ?aF ?aO ?aB ?aS ?aL ?_; (case aP => exact rfl); (case aB => exact hb_); (case aF => exact (fun _ _ => trivial)); (case aO => exact (kr_ HO_9.out)); (case aS => exact (below_size hb_)); (case aL => have := LMc70.out; omega); intro v521 w72 ho hb hg hat; rw [← Ny520.out] at ho; have n0_ := Aside0.mk (Kd.S_over' (by (with_reducible repeat (first | apply Kd.S_alloc | apply Kd.S_drewN | apply Kd.S_drew)); exact HO_85.out) (Kd.R_typed (kr_ HO_9.out)) (by decide) hg); have n1_ := Aside0.mk (blk_grown (g := gb494) (o := .cells #[.int .i64 a0_0, .int .i64 a0_1, .int .i64 a0_2] 34 (0, 0)) (kb_ BK494.out) hg (Kd.R_ne HO_9.out BK494.out (by decide))); have n2_ := Aside0.mk (Kd.R_over' (kr_ HL519_0.out) (Kd.R_typed (kr_ HO_9.out)) (by decide) hg); have n3_ := Aside0.mk (hb); have n4_ := Aside0.mk (ho); clear HO_85; clear BK494; clear HL519_0; clear HB; clear HO_9; have HO_85 := n0_; have BK494 := n1_; have HL519_0 := n2_; have HB := n3_; have HO522 := n4_; clear n0_ n1_ n2_ n3_ n4_; clear ho hb hg hat))
                   go_roundg k4
                   case measure => have := HK1.out; have := HK2.out; have := HK3.out; have := HK4.out; omega
                   case rel => exact ⟨(y520), (wrap64 (x87_4 + 1)), (by first | rfl | (simp; done) | (simp [*]; done)), H', ⟨by have := HK1.out; have := HK2.out; have := HK3.out; have := HK4.out; omega⟩, ⟨by (try simp only [hl3_1]); (try simp only [hl3_2]); (try simp only [hl3_3]); (with_reducible repeat (first | apply Kd.R_alloc | apply Kd.R_drewN | apply Kd.R_drew)); exact HO522.out⟩, ⟨by (try simp only [hl3_1]); (try simp only [hl3_2]); (try simp only [hl3_3]); (with_reducible repeat (first | apply Kd.S_alloc | apply Kd.S_drewN | apply Kd.S_drew)); exact HO_85.out⟩, ⟨by (try simp only [hl3_1]); (try simp only [hl3_2]); (try simp only [hl3_3]); (with_reducible repeat (first | refine blk_drewN ?_ _ | refine blk_drew ?_ | refine blk_alloc ?_ _)); exact BK494.out⟩, ⟨hb_⟩⟩
                  ·rw [if_neg c70] at H
                   exact absurd H (by simp)
                 ·rw [if_neg c69] at H
                  exact absurd H (by simp)
                ·rw [if_neg c68] at H
                 exact absurd H (by simp)
               ·rw [if_neg c67] at H
                have c67b0 : decide (x87_4 < (x3_3.length : Int)) = false := decide_eq_false c67
                clear c67
                obtain rfl := Option.some.inj H
                go_wp2
                go_ret
                exact ⟨_, by first | rfl | (simp [errW_none, errW_some] <;> rfl) | (simp only [← hji4]; first | rfl | (simp [errW_none, errW_some] <;> rfl)) | (simp [*, errW_none, errW_some] <;> rfl), kr_ HO_9.out, hb_⟩
   ·rw [if_neg c6] at H
    exact absurd H (by simp)
  ·rw [if_neg c5] at H
   exact absurd H (by simp)
 ·replace c3 := Bool.eq_false_iff.mpr c3
  subst c3
  have H1 : (some ([] : List ByteArray)) = some r := by rw [if_neg (show ¬ (false = true) by decide)] at H; exact H
  clear H
  have H := H1
  clear H1
  obtain rfl := Option.some.inj H
  go_enter Tryd.func31, Tryd.ntmps31
  go_wp2_with (first | ((with_reducible refine gate_dst (N := 1) rfl ?_); refine box_event ?hg (N := 1) ?hd (cs := #[.int .i64 a0_0, .int .i64 a0_1, .int .i64 a0_2]) (t := 34) ?hr ?_; (case hd => rfl); (case hg => rfl); (case hr => first | (go_simp; done) | (go_simp; rfl)); intro gb494 hg w73 hbox hb; have n0_ := Aside0.mk (below_step hb_ hb); have n1_ := Aside0.mk (hbox); have n2_ := Aside0.mk ((by rw [hg]; exact (below_size hb_) : w.heap.size ≤ gb494)); have n3_ := Aside0.mk ((by rw [hg]; exact (below_size hb_) : w.heap.size ≤ gb494)); clear HB; have HB := n0_; have BK494 := n1_; have GW494 := n2_; have GE494 := n3_; clear n0_ n1_ n2_ n3_; clear hb hbox hg; have hcz74_0 := cz_ (.int .i64 a0_0) BK494.out 0; have hcz74_1 := cz_ (.int .i64 a0_1) BK494.out 1; have hcz74_2 := cz_ (.int .i64 a0_2) BK494.out 2; have hfz74_0 := blk_frozen BK494.out 0; have hfz74_1 := blk_frozen BK494.out 1; have hfz74_2 := blk_frozen BK494.out 2) | ((with_reducible refine gate_callee (f := 41) rfl ?_); refine goesL_ (some 13) rfl rfl Tryd.func41 (by kernel_rfl) rfl #[.agg #[.int .i64 a0_0, .int .i64 a0_1, .int .i64 a0_2]] rfl mp_ ?_; (with_reducible refine (impl_MazeOk.calls a0_0 a0_1 a0_2 false _ A2.out).mono ?_); rintro e w75 ⟨rfl, hb⟩; refine ⟨_, rfl, ?_⟩; have n0_ := Aside0.mk (blk_below (g := gb494) (o := .cells #[.int .i64 a0_0, .int .i64 a0_1, .int .i64 a0_2] 34 (0, 0)) (kb_ BK494.out) hb); have n1_ := Aside0.mk (below_step hb_ hb); clear BK494; clear HB; have BK494 := n0_; have HB := n1_; clear n0_ n1_; (try clear hb); (try clear hb2); (try clear hk); (try clear hi)))
  go_ret
  exact ⟨_, er_, by first | exact Kd.R_nil _ _ _ _ _ | exact Kd.N_nil _ _ _ _ _ | exact Kd.V_nil _ _ _ _ _ | exact Kd.Q_nil _ _ _ _ _ | exact Kd.S_nil _ _ _ _ _, hb_⟩

end Go.Proofs.YtcocebkmfmiaeaaDoor.Q
