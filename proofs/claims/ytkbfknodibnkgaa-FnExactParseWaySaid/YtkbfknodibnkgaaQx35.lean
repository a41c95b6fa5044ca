/- Plain Lean functions of Go functions, and for each the proof that its call comes to just that answer. Conditions: in each theorem's statement. -/
import Derived.Test.YtkbfknodibnkgaaQx0
import Derived.Test.YtkbfknodibnkgaaQx34
namespace Go.Proofs.Ytkbfknodibnkgaa.Q
open Go.RowKit Go.Proofs.YtkbfknodibnkgaaW.PrintWords Go.Proofs.YtkbfknodibnkgaaW.PrintLast
attribute [local go_sem] max2_int min2_int max_two min_two   -- for this text's walks alone
set_option linter.unusedVariables false
set_option linter.unusedSimpArgs false

/-! ### impl_ParseWay: function 28 -/
def impl_ParseWay.l0 : Nat → ByteArray → List Int → Int → Option (List Int × Bool)
 | 0, _, _, _ => none
 | k + 1, x0, x4, x5 => if x5 < (x0.size : Int) then (if 0 ≤ x5 then ((slices_Index_byte_byte.f k (([78, 69, 83, 87] : List Int)) (bt x0 x5)).bind fun t437 => (if t437 < 0 then (some (([] : List Int), false)) else (if x4.length < 17592186044416 then (impl_ParseWay.l0 k x0 (x4 ++ [t437]) (wrap64 (x5 + 1))) else (none)))) else (none)) else (some (x4, true))
def impl_ParseWay.f (k : Nat) (a0 : ByteArray) : Option (List Int × Bool) := impl_ParseWay.l0 k a0 ([] : List Int) 0
theorem impl_ParseWay.mono_l : ∀ k, (∀ y0 y1 y2, LeO (impl_ParseWay.l0 k y0 y1 y2) (impl_ParseWay.l0 (k + 1) y0 y1 y2))
 | 0 => fun _ _ _ r h => by simp [impl_ParseWay.l0] at h
 | k + 1 => by
  have ih0 := impl_ParseWay.mono_l k
  ·intro y0 y1 y2
   unfold impl_ParseWay.l0
   repeat' first
   | (with_reducible exact ih0 _ _ _)
   | (with_reducible exact slices_Index_byte_byte.mono _ _ _)
   | (with_reducible exact LeO.refl _)
   | (with_reducible exact LeO.none _)
   | (with_reducible refine LeO.ite ?_ ?_)
   | (with_reducible refine LeO.bind ?_ (fun _ => ?_))
   | exact ih0 _ _ _
   | exact slices_Index_byte_byte.mono _ _ _
   | exact LeO.none _
   | refine LeO.ite ?_ ?_
   | refine LeO.bind ?_ (fun _ => ?_)
theorem impl_ParseWay.mono : ∀ a0 k, LeO (impl_ParseWay.f k a0) (impl_ParseWay.f (k + 1) a0) := by
 intro a0 k
 have ih0 := impl_ParseWay.mono_l k
 unfold impl_ParseWay.f
 repeat' first
   | (with_reducible exact ih0 _ _ _)
   | (with_reducible exact slices_Index_byte_byte.mono _ _ _)
   | (with_reducible exact LeO.refl _)
   | (with_reducible exact LeO.none _)
   | (with_reducible refine LeO.ite ?_ ?_)
   | (with_reducible refine LeO.bind ?_ (fun _ => ?_))
   | exact ih0 _ _ _
   | exact slices_Index_byte_byte.mono _ _ _
   | exact LeO.none _
   | refine LeO.ite ?_ ?_
   | refine LeO.bind ?_ (fun _ => ?_)
theorem conv_event {ops : Array Oper} {rest : List Oper} {o : Oper} {a : Act} {Q : Exit → Act → World → Prop} {W0 : World} (hgd : o.guard = none) (t e : TypeId) (xs : List Int) (c : Nat) (ht : Try.prog.underlying t = some (.slice e)) (he : Try.prog.underlying e = some (.int .u8)) (x : Operand) (ho : o.op = .convert t t x) (hx : a.eval x = .slice (some ⟨W0.heap.size, 0, none⟩) xs.length c) (hl : xs.length ≤ 9223372036854775807) {C : Array Value} (hC : C = (nums .u8 xs).toArray)
  (h : ∀ g w1, (Kd.int .u8).C w1 (some ⟨g, 0, none⟩) xs.length xs → Below W0.heap.size W0 w1 → wpList Try.prog ops Q rest (a.put o.dst (.slice (some ⟨g, 0, none⟩) xs.length c)) w1) : wpList Try.prog ops Q (o :: rest) a (W0.alloc (.cells C e)) := by
 subst hC
 have hk := Lib.run_convert_bytes_const (P := Try.prog) W0 t e (nums .u8 xs).toArray xs.length c ht he
 refine Kd.event_run hgd (v := .slice (some ⟨W0.heap.size, 0, none⟩) xs.length c) (w1 := W0.alloc (.cells (nums .u8 xs).toArray e ((nums .u8 xs).toArray.size, (nums .u8 xs).toArray.size + 1))) ?_ (h W0.heap.size _ ?_ (below_alloc (Below.refl _ _) _))
 ·unfold execOp
  rw [ho]
  dsimp only
  rw [hx]
  go_simp
  try (rw [hk]; simp [Result.andThen])
 ·refine Kd.C_of_reads (d := (0 : Int)) (h1 := fun _ => rfl) ⟨rfl, hl, fun hn => ⟨_, rfl, fun j hj => ?_⟩⟩
  have hb := blk_new W0 (.cells (nums .u8 xs).toArray e ((nums .u8 xs).toArray.size, (nums .u8 xs).toArray.size + 1))
  have hg : (nums .u8 xs).toArray[j]? = some (.int .u8 (rdOf 0 xs j)) := by simp [nums, hj, rdOf]
  rw [add_plain]
  unfold World.cell?
  simp only [hb]
  exact hg
set_option maxHeartbeats 8000000 in
set_option maxRecDepth 100000 in
theorem impl_ParseWay.calls (k : Nat) (a0 : ByteArray) (r1 : List Int) (r2 : Bool) (w : World) (h : impl_ParseWay.f k a0 = some (r1, r2)) :
  Calls Try.prog 28 #[.string a0] w fun e w' => ∃ v0_ : Value, e = .returned (.tuple #[v0_, .bool r2]) ∧ Kd.R (Kd.int .i64) 3 w' w.heap.size (fun _ => True) v0_ r1 ∧ Below w.heap.size w w' := by
 have HB := Aside0.mk (Below.refl w.heap.size w)
 have H : (impl_ParseWay.l0 k a0 ([] : List Int) 0) = some (r1, r2) := h
 clear h
 have H' := Aside0.mk H
 clear H
 go_enter Try.func28, Try.ntmps28
 go_wp2
 go_loopg [4, 5] k (fun kq v4 v5 w' => ∃ (x4_1 : List Int) (x5_1 : Int), v5 = .int .i64 x5_1 ∧ Aside0 (impl_ParseWay.l0 kq a0 x4_1 x5_1 = some (r1, r2)) ∧ Aside0 (kq ≤ k) ∧ Aside0 (Kd.R (Kd.int .i64) 3 w' w.heap.size (fun _ => True) v4 x4_1) ∧ Aside0 (Below w.heap.size w w'))
 case atStart => exact ⟨(([] : List Int)), (0), (by first | rfl | (simp; done) | (simp [*]; done)), H', ⟨Nat.le_refl _⟩, ⟨by first | exact Kd.R_nil _ _ _ _ _ | exact Kd.N_nil _ _ _ _ _ | exact Kd.V_nil _ _ _ _ _ | exact Kd.Q_nil _ _ _ _ _ | exact Kd.S_nil _ _ _ _ _⟩, ⟨hb_⟩⟩
 case round =>
  clear H'
  obtain ⟨x4_1, x5_1, rfl, HA, HK1, HO_4, HB⟩ := hrel
  cases gk with
  | zero => exact absurd HA.out (by simp [impl_ParseWay.l0])
  | succ k1 =>
   have H := HA.out
   clear HA
   simp only [impl_ParseWay.l0] at H
   by_cases c2 : x5_1 < (a0.size : Int)
   ·rw [if_pos c2] at H
    have c2b0 : decide (x5_1 < (a0.size : Int)) = true := decide_eq_true c2
    clear c2
    obtain ⟨y434, hy434⟩ : ∃ y_ : List Int, y_ = (([78, 69, 83, 87] : List Int)) := ⟨_, rfl⟩
    replace H : (if 0 ≤ x5_1 then ((slices_Index_byte_byte.f k1 y434 (bt a0 x5_1)).bind fun t437 => (if t437 < 0 then (some (([] : List Int), false)) else (if x4_1.length < 17592186044416 then (impl_ParseWay.l0 k1 a0 (x4_1 ++ [t437]) (wrap64 (x5_1 + 1))) else (none)))) else (none)) = some (r1, r2) := by first | (rw [hy434]; with_reducible exact H) | (have H2_ := (Option.bind_some _ _).symm.trans H; rw [hy434]; with_reducible exact H2_) | (have H2_ := (Option.bind_some _ _).symm.trans H; with_reducible exact H2_) | with_reducible exact H | (rw [hy434]; exact H) | exact H
    have Ny434 := Aside0.mk hy434
    clear hy434
    by_cases c3 : 0 ≤ x5_1
    ·rw [if_pos c3] at H
     have c3b0 : decide (0 ≤ x5_1) = true := decide_eq_true c3
     clear c3
     replace H := Option.bind_eq_some_iff.mp H
     obtain ⟨t437, A50, H⟩ := H
     replace H : (if t437 < 0 then (some (([] : List Int), false)) else (if x4_1.length < 17592186044416 then (impl_ParseWay.l0 k1 a0 (x4_1 ++ [t437]) (wrap64 (x5_1 + 1))) else (none))) = some (r1, r2) := H
     have A5 := Aside0.mk A50
     clear A50
     by_cases c6 : t437 < 0
     ·rw [if_pos c6] at H
      have c6b0 : decide (t437 < 0) = true := decide_eq_true c6
      clear c6
      simp only [Option.some.injEq, Prod.mk.injEq] at H
      obtain ⟨rfl, rfl⟩ := H
      go_wp2_with (first | ((with_reducible refine gate_dst (N := 14) rfl ?_); refine conv_event ?hg ?tt_ 5 y434 4 ?ht ?he (.tmp 13) ?ho ?hx ?hl ?hC ?_; (case hg => rfl); (case ho => rfl); (case ht => kernel_rfl); (case he => kernel_rfl); (case hx => rw [Ny434.out]; rfl); (case hl => rw [Ny434.out]; simp); (case hC => rw [Ny434.out]; rfl); intro Ao9 w7 hC hb; have n0_ := Aside0.mk (Kd.R_below (kr_ HO_4.out) hb); have n2_ := Aside0.mk (below_step hb_ hb); clear HO_4; clear HB; have HO_4 := n0_; have HB := n2_; clear n0_ n2_; have HO436 := Aside0.mk hC; clear hC hb; have p4 : 0 ≤ (x5_1 : Int) := of_decide_eq_true (by first | (with_reducible assumption) | assumption); have q4 : x5_1 < (a0.size : Int) := of_decide_eq_true (by first | (with_reducible assumption) | assumption); have hx4 := bt_at a0 x5_1; replace p4 := eq_true p4; replace q4 := eq_true q4;  skip) | ((with_reducible refine gate_callee (f := 55) rfl ?_); refine goesL_ (some 18) rfl rfl Try.func55 (by kernel_rfl) rfl #[.slice (some ⟨Ao9, 0, none⟩) y434.length 4, .int .u8 (bt a0 x5_1)] rfl mp_ ?_; (with_reducible refine (slices_Index_byte_byte.calls k1 _ _ y434 (bt a0 x5_1) t437 _ ?side1 ?side2 A5.out).mono ?_); (case side1 => repeat (first | exact HO436.out | (with_reducible refine Kd.C_alloc ?_ _) | (with_reducible refine Kd.C_drewN ?_ _) | (with_reducible refine Kd.C_drew ?_))); (case side2 => (rw [Ny434.out]; decide)); rintro e w' ⟨rfl, ⟨nd, rfl⟩⟩; refine ⟨_, rfl, ?_⟩))
      go_ret2
      exact ⟨_, er_, by first | exact Kd.R_nil _ _ _ _ _ | exact Kd.N_nil _ _ _ _ _ | exact Kd.V_nil _ _ _ _ _ | exact Kd.Q_nil _ _ _ _ _ | exact Kd.S_nil _ _ _ _ _, hb_⟩
     ·rw [if_neg c6] at H
      have c6b0 : decide (t437 < 0) = false := decide_eq_false c6
      clear c6
      by_cases c10 : x4_1.length < 17592186044416
      ·rw [if_pos c10] at H
       have LMc10 := Aside0.mk c10
       clear c10
       obtain ⟨y438, hy438⟩ : ∃ y_ : List Int, y_ = (x4_1 ++ [t437]) := ⟨_, rfl⟩
       replace H : (impl_ParseWay.l0 k1 a0 y438 (wrap64 (x5_1 + 1))) = some (r1, r2) := by first | (rw [hy438]; with_reducible exact H) | (have H2_ := (Option.bind_some _ _).symm.trans H; rw [hy438]; with_reducible exact H2_) | (have H2_ := (Option.bind_some _ _).symm.trans H; with_reducible exact H2_) | with_reducible exact H | (rw [hy438]; exact H) | exact H
       have Ny438 := Aside0.mk hy438
       clear hy438
       have H' := Aside0.mk H
       clear H
       go_wp2_with (first | ((with_reducible refine gate_dst (N := 14) rfl ?_); refine conv_event ?hg ?tt_ 5 y434 4 ?ht ?he (.tmp 13) ?ho ?hx ?hl ?hC ?_; (case hg => rfl); (case ho => rfl); (case ht => kernel_rfl); (case he => kernel_rfl); (case hx => rw [Ny434.out]; rfl); (case hl => rw [Ny434.out]; simp); (case hC => rw [Ny434.out]; rfl); intro Ao13 w7 hC hb; have n0_ := Aside0.mk (Kd.R_below (kr_ HO_4.out) hb); have n2_ := Aside0.mk (below_step hb_ hb); clear HO_4; clear HB; have HO_4 := n0_; have HB := n2_; clear n0_ n2_; have HO436 := Aside0.mk hC; clear hC hb; have p4 : 0 ≤ (x5_1 : Int) := of_decide_eq_true (by first | (with_reducible assumption) | assumption); have q4 : x5_1 < (a0.size : Int) := of_decide_eq_true (by first | (with_reducible assumption) | assumption); have hx4 := bt_at a0 x5_1; replace p4 := eq_true p4; replace q4 := eq_true q4;  skip) | ((with_reducible refine gate_callee (f := 55) rfl ?_); refine goesL_ (some 18) rfl rfl Try.func55 (by kernel_rfl) rfl #[.slice (some ⟨Ao13, 0, none⟩) y434.length 4, .int .u8 (bt a0 x5_1)] rfl mp_ ?_; (with_reducible refine (slices_Index_byte_byte.calls k1 _ _ y434 (bt a0 x5_1) t437 _ ?side1 ?side2 A5.out).mono ?_); (case side1 => repeat (first | exact HO436.out | (with_reducible refine Kd.C_alloc ?_ _) | (with_reducible refine Kd.C_drewN ?_ _) | (with_reducible refine Kd.C_drew ?_))); (case side2 => (rw [Ny434.out]; decide)); rintro e w' ⟨rfl, ⟨nd, rfl⟩⟩; refine ⟨_, rfl, ?_⟩) | ((with_reducible refine gate_builtin (b := .append) (xs := #[.tmp 21, .tmp 23]) rfl ?_); at_builtin; refine Kd.R_append (Kd.int .i64) (w0 := w) w.heap.size rfl (.tmp 21) (.tmp 23) 26 3 (.int .i64 0) 8 rfl Try.underlying26 info3 rfl (by decide) (by omega) u4 x4_1 t437 [.int .i64 t437] (fun _ => True) (fun _ => False) rfl rfl ?aP (fun _ hk => hk.elim) ?aF ?aO ?aB ?aS ?aL ?_; (case aP => exact rfl); (case aB => exact hb_); (case aF => exact (fun _ _ => trivial)); (case aO => exact (kr_ HO_4.out)); (case aS => exact (below_size hb_)); (case aL => have := LMc10.out; omega); intro v439 w14 ho hb hg hat; rw [← Ny438.out] at ho; have n1_ := Aside0.mk (hb); have n2_ := Aside0.mk (ho); clear HB; clear HO_4; have HB := n1_; have HO440 := n2_; clear n1_ n2_; clear ho hb hg hat))
       go_roundg k1
       case measure => have := HK1.out; omega
       case rel => exact ⟨(y438), (wrap64 (x5_1 + 1)), (by first | rfl | (simp; done) | (simp [*]; done)), H', ⟨by have := HK1.out; omega⟩, ⟨kr_ HO440.out⟩, ⟨hb_⟩⟩
      ·rw [if_neg c10] at H
       exact absurd H (by simp)
    ·rw [if_neg c3] at H
     exact absurd H (by simp)
   ·rw [if_neg c2] at H
    have c2b0 : decide (x5_1 < (a0.size : Int)) = false := decide_eq_false c2
    clear c2
    simp only [Option.some.injEq, Prod.mk.injEq] at H
    obtain ⟨rfl, rfl⟩ := H
    go_wp2
    go_ret2
    exact ⟨_, er_, kr_ HO_4.out, hb_⟩

end Go.Proofs.Ytkbfknodibnkgaa.Q
