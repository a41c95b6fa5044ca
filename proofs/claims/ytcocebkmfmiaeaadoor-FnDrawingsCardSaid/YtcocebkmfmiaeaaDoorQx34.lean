/- Plain Lean functions of Go functions, and for each the proof that its call comes to just that answer. Conditions: in each theorem's statement. -/
import Derived.Test.YtcocebkmfmiaeaaDoorQx0
import Derived.Test.YtcocebkmfmiaeaaDoorQx8
import Derived.Test.YtcocebkmfmiaeaaDoorQx19
import Derived.Test.YtcocebkmfmiaeaaDoorQx33
namespace Go.Proofs.YtcocebkmfmiaeaaDoor.Q
open Go.RowKit Go.Proofs.YtcocebkmfmiaeaaDoorW.PrintWords Go.Proofs.YtcocebkmfmiaeaaDoorW.PrintLast
attribute [local go_sem] max2_int min2_int max_two min_two   -- for this text's walks alone
set_option linter.unusedVariables false
set_option linter.unusedSimpArgs false

/-! ### spec_DrawMaze: function 30 -/
def spec_DrawMaze.f (k : Nat) (l0 : List Int) : Option (Int × Int × Int) := (spec_l01New.f k l0).bind fun bt473 => ((spec_l03Maze.f k bt473.1 bt473.2.1 bt473.2.2).bind fun bt477 => (some (bt477.1, bt477.2.1, bt477.2.2.1)))
theorem spec_DrawMaze.mono : ∀ a0 k, LeO (spec_DrawMaze.f k a0) (spec_DrawMaze.f (k + 1) a0) := by
 intro a0 k
 unfold spec_DrawMaze.f
 repeat' first
   | (with_reducible exact spec_l01New.mono _ _)
   | (with_reducible exact spec_l03Maze.mono _ _ _ _)
   | (with_reducible exact LeO.refl _)
   | (with_reducible exact LeO.none _)
   | (with_reducible refine LeO.ite ?_ ?_)
   | (with_reducible refine LeO.bind ?_ (fun _ => ?_))
   | exact spec_l01New.mono _ _
   | exact spec_l03Maze.mono _ _ _ _
   | exact LeO.none _
   | refine LeO.ite ?_ ?_
   | refine LeO.bind ?_ (fun _ => ?_)
set_option maxHeartbeats 8000000 in
set_option maxRecDepth 100000 in
theorem spec_DrawMaze.calls (k : Nat) (A0 : Option Addr) (c0 : Nat) (l0 : List Int) (r1 : Int) (r2 : Int) (r3 : Int) (w : World) (hr0 : Kd.C (Kd.int .u8) w A0 l0.length l0) (hc0 : l0.length ≤ c0) (h : spec_DrawMaze.f k l0 = some (r1, r2, r3)) :
  Calls Tryd.prog 30 #[.slice A0 l0.length c0] w fun e w' => e = .returned (.agg #[.int .i64 r1, .int .i64 r2, .int .i64 r3]) ∧ Below w.heap.size w w' := by
 have hu34 := Tryd.underlying34
 have HR0 := Aside0.mk hr0
 have HC0 := Aside0.mk hc0
 clear hr0 hc0
 have HB := Aside0.mk (Below.refl w.heap.size w)
 have H : ((spec_l01New.f k l0).bind fun bt473 => ((spec_l03Maze.f k bt473.1 bt473.2.1 bt473.2.2).bind fun bt477 => (some (bt477.1, bt477.2.1, bt477.2.2.1)))) = some (r1, r2, r3) := h
 clear h
 replace H := Option.bind_eq_some_iff.mp H
 obtain ⟨⟨t473, t474, t475⟩, A20, H⟩ := H
 replace H : ((spec_l03Maze.f k t473 t474 t475).bind fun bt477 => (some (bt477.1, bt477.2.1, bt477.2.2.1))) = some (r1, r2, r3) := H
 have A2 := Aside0.mk A20
 clear A20
 replace H := Option.bind_eq_some_iff.mp H
 obtain ⟨⟨t477, t478, t479, t480, t481⟩, A30, H⟩ := H
 replace H : (some (t477, t478, t479)) = some (r1, r2, r3) := H
 have A3 := Aside0.mk A30
 clear A30
 simp only [Option.some.injEq, Prod.mk.injEq] at H
 obtain ⟨rfl, rfl, rfl⟩ := H
 go_enter Tryd.func30, Tryd.ntmps30
 go_wp2_with (first | ((with_reducible refine gate_dst (N := 2) rfl ?_); refine box_event ?hg (N := 2) ?hd (cs := #[.int .i64 0, .int .i64 0, .int .i64 0]) (t := 34) ?hr ?_; (case hd => rfl); (case hg => rfl); (case hr => first | (go_simp; done) | (go_simp; rfl)); intro gb472 hg w4 hbox hb; have n0_ := Aside0.mk (below_step hb_ hb); have n1_ := Aside0.mk (hbox); have n2_ := Aside0.mk ((by rw [hg]; exact (below_size hb_) : w.heap.size ≤ gb472)); have n3_ := Aside0.mk ((by rw [hg]; exact (below_size hb_) : w.heap.size ≤ gb472)); clear HB; have HB := n0_; have BK472 := n1_; have GW472 := n2_; have GE472 := n3_; clear n0_ n1_ n2_ n3_; clear hb hbox hg) | ((with_reducible refine gate_callee (f := 43) rfl ?_); refine goesL_ (some 4) rfl rfl Tryd.func43 (by kernel_rfl) rfl #[.slice A0 l0.length c0] rfl mp_ ?_; (with_reducible refine (spec_l01New.calls k _ _ l0 t473 t474 t475 w _ ?side1 ?side2 ?side3 A2.out).mono ?_); (case side1 => repeat (first | (with_reducible first | exact HB.out | apply below_alloc | apply pw_below_drewN | apply below_drew1 | refine below_set ?_ GE472.out) | exact HB.out)); (case side2 => exact HR0.out); (case side3 => exact HC0.out); rintro e w5 ⟨g476, rfl, hi, hb, hb2⟩; refine ⟨_, rfl, ?_⟩; have n0_ := Aside0.mk (blk_below (g := gb472) (o := .cells #[.int .i64 0, .int .i64 0, .int .i64 0] 34 (0, 0)) (kb_ BK472.out) hb2); have n1_ := Aside0.mk (hb); have n2_ := Aside0.mk (hi); have n3_ := Aside0.mk (IsS86.ne_blk hi (blk_below (g := gb472) (o := .cells #[.int .i64 0, .int .i64 0, .int .i64 0] 34 (0, 0)) (kb_ BK472.out) hb2) (by decide)); have n4_ := Aside0.mk (Ne.symm (IsS86.ne_blk hi (blk_below (g := gb472) (o := .cells #[.int .i64 0, .int .i64 0, .int .i64 0] 34 (0, 0)) (kb_ BK472.out) hb2) (by decide))); clear BK472; clear HB; have BK472 := n0_; have HB := n1_; have HI476 := n2_; have NB476_472 := n3_; have NB472_476 := n4_; clear n0_ n1_ n2_ n3_ n4_; (try clear hb); (try clear hb2); (try clear hk); (try clear hi)) | ((with_reducible refine gate_callee (f := 51) rfl ?_); refine goesL_ (some 5) rfl rfl Tryd.func51 (by kernel_rfl) rfl #[.pointer (some ⟨g476, 0, none⟩)] rfl mp_ ?_; (with_reducible refine (spec_l03Maze.calls k g476 t473 t474 t475 t477 t478 t479 t480 t481 w _ ?side1 ?side2 A3.out).mono ?_); (case side1 => repeat (first | (with_reducible first | exact HI476.out | apply IsS86.alloc | apply IsS86.drewN | apply IsS86.drew | apply IsS86.set_1 | apply IsS86.set_2 | refine IsS86.far ?_ NB476_472.out _) | exact HI476.out)); (case side2 => repeat (first | (with_reducible first | exact HB.out | apply below_alloc | apply pw_below_drewN | apply below_drew1 | refine below_set ?_ (IsS86.ge HI476.out) | refine below_set ?_ GE472.out) | exact HB.out)); rintro e w6 ⟨rfl, hi, hb, hk⟩; refine ⟨_, rfl, ?_⟩; have n0_ := Aside0.mk (KeepBut.blk hk (g' := gb472) (o := .cells #[.int .i64 0, .int .i64 0, .int .i64 0] 34 (0, 0)) (kb_ BK472.out) NB472_476.out (by simp)); have n1_ := Aside0.mk (hb); have n2_ := Aside0.mk (hi); clear BK472; clear HB; clear HI476; have BK472 := n0_; have HB := n1_; have HI476 := n2_; clear n0_ n1_ n2_; (try clear hb); (try clear hb2); (try clear hk); (try clear hi); have hnb7 := NB472_476.out; have hnc7 := NB476_472.out; have hcz8_0 := cz_ (.int .i64 0) BK472.out 0; have hcz8_1 := cz_ (.int .i64 0) BK472.out 1; have hcz8_2 := cz_ (.int .i64 0) BK472.out 2; have hfz8_0 := blk_frozen BK472.out 0; have hfz8_1 := blk_frozen BK472.out 1; have hfz8_2 := blk_frozen BK472.out 2))
 try (have hq472_0 : _ = some (.int .i64 t477) := (blk_cell BK472.out 0).trans rfl; have hqf472_0 := blk_frozen BK472.out 0; have hq472_1 : _ = some (.int .i64 t478) := (blk_cell BK472.out 1).trans rfl; have hqf472_1 := blk_frozen BK472.out 1; have hq472_2 : _ = some (.int .i64 t479) := (blk_cell BK472.out 2).trans rfl; have hqf472_2 := blk_frozen BK472.out 2; go_wp2)
 refine bodyPost_ret (results_cell_row rfl _ _ gb472 34 #[.int .i64 t477, .int .i64 t478, .int .i64 t479] (0, 0) _ rfl (by (with_reducible repeat (first | refine blk_drewN ?_ _ | refine blk_drew ?_ | refine blk_alloc ?_ _)); refine blk_put (cs := #[.int .i64 t477, .int .i64 t478, .int .i64 0]) ?_ 2 _ rfl; (with_reducible repeat (first | refine blk_drewN ?_ _ | refine blk_drew ?_ | refine blk_alloc ?_ _)); refine blk_put (cs := #[.int .i64 t477, .int .i64 0, .int .i64 0]) ?_ 1 _ rfl; (with_reducible repeat (first | refine blk_drewN ?_ _ | refine blk_drew ?_ | refine blk_alloc ?_ _)); refine blk_put (cs := #[.int .i64 0, .int .i64 0, .int .i64 0]) ?_ 0 _ rfl; (with_reducible repeat (first | refine blk_drewN ?_ _ | refine blk_drew ?_ | refine blk_alloc ?_ _)); exact BK472.out) Tryd.underlying34 rfl (by kernel_rfl)) rfl ?_
 exact ⟨er_, by repeat (first | (with_reducible first | exact HB.out | apply below_alloc | apply pw_below_drewN | apply below_drew1 | refine below_set ?_ (IsS86.ge HI476.out) | refine below_set ?_ GE472.out) | exact HB.out)⟩

/-! ### bits_Mul32: function 80 -/
def bits_Mul32.f (a0 : Int) (a1 : Int) : Option (Int × Int) := some (((IntKind.u64.wrap ((IntKind.u64.wrap (a0)) * (IntKind.u64.wrap (a1)))) / 4294967296) % 4294967296, (IntKind.u64.wrap ((IntKind.u64.wrap (a0)) * (IntKind.u64.wrap (a1)))) % 4294967296)
set_option maxHeartbeats 8000000 in
set_option maxRecDepth 100000 in
theorem bits_Mul32.calls (a0 : Int) (a1 : Int) (r1 : Int) (r2 : Int) (w : World) (h : bits_Mul32.f a0 a1 = some (r1, r2)) :
  Calls Tryd.prog 80 #[.int .u32 a0, .int .u32 a1] w fun e w' => e = .returned (.tuple #[.int .u32 r1, .int .u32 r2]) ∧ Drawn0 w w' := by
 have H : (some (((IntKind.u64.wrap ((IntKind.u64.wrap (a0)) * (IntKind.u64.wrap (a1)))) / 4294967296) % 4294967296, (IntKind.u64.wrap ((IntKind.u64.wrap (a0)) * (IntKind.u64.wrap (a1)))) % 4294967296)) = some (r1, r2) := h
 clear h
 simp only [Option.some.injEq, Prod.mk.injEq] at H
 obtain ⟨rfl, rfl⟩ := H
 go_enter Tryd.func80, Tryd.ntmps80
 go_wp2
 go_ret2
 exact ⟨by first | rfl | (simp; done) | (simp [*]; done), by repeat (first | exact Drawn0.refl _ | apply Drawn0.step)⟩

/-! ### bits_Mul64: function 81 -/
def bits_Mul64.f (a0 : Int) (a1 : Int) : Option (Int × Int) := some (IntKind.u64.wrap ((IntKind.u64.wrap ((IntKind.u64.wrap ((a0 / 4294967296) * (a1 / 4294967296))) + ((IntKind.u64.wrap ((IntKind.u64.wrap ((a0 / 4294967296) * (Go.bits .and .u64 a1 4294967295))) + ((IntKind.u64.wrap ((Go.bits .and .u64 a0 4294967295) * (Go.bits .and .u64 a1 4294967295))) / 4294967296))) / 4294967296))) + ((IntKind.u64.wrap ((Go.bits .and .u64 (IntKind.u64.wrap ((IntKind.u64.wrap ((a0 / 4294967296) * (Go.bits .and .u64 a1 4294967295))) + ((IntKind.u64.wrap ((Go.bits .and .u64 a0 4294967295) * (Go.bits .and .u64 a1 4294967295))) / 4294967296))) 4294967295) + (IntKind.u64.wrap ((Go.bits .and .u64 a0 4294967295) * (a1 / 4294967296))))) / 4294967296)), IntKind.u64.wrap (a0 * a1))
set_option maxHeartbeats 8000000 in
set_option maxRecDepth 100000 in
theorem bits_Mul64.calls (a0 : Int) (a1 : Int) (r1 : Int) (r2 : Int) (w : World) (h : bits_Mul64.f a0 a1 = some (r1, r2)) :
  Calls Tryd.prog 81 #[.int .u64 a0, .int .u64 a1] w fun e w' => e = .returned (.tuple #[.int .u64 r1, .int .u64 r2]) ∧ Drawn0 w w' := by
 have H : (some (IntKind.u64.wrap ((IntKind.u64.wrap ((IntKind.u64.wrap ((a0 / 4294967296) * (a1 / 4294967296))) + ((IntKind.u64.wrap ((IntKind.u64.wrap ((a0 / 4294967296) * (Go.bits .and .u64 a1 4294967295))) + ((IntKind.u64.wrap ((Go.bits .and .u64 a0 4294967295) * (Go.bits .and .u64 a1 4294967295))) / 4294967296))) / 4294967296))) + ((IntKind.u64.wrap ((Go.bits .and .u64 (IntKind.u64.wrap ((IntKind.u64.wrap ((a0 / 4294967296) * (Go.bits .and .u64 a1 4294967295))) + ((IntKind.u64.wrap ((Go.bits .and .u64 a0 4294967295) * (Go.bits .and .u64 a1 4294967295))) / 4294967296))) 4294967295) + (IntKind.u64.wrap ((Go.bits .and .u64 a0 4294967295) * (a1 / 4294967296))))) / 4294967296)), IntKind.u64.wrap (a0 * a1))) = some (r1, r2) := h
 clear h
 simp only [Option.some.injEq, Prod.mk.injEq] at H
 obtain ⟨rfl, rfl⟩ := H
 go_enter Tryd.func81, Tryd.ntmps81
 go_wp2
 go_ret2
 exact ⟨by first | rfl | (simp; done) | (simp [*]; done), by repeat (first | exact Drawn0.refl _ | apply Drawn0.step)⟩

/-! ### bits_Mul: function 70 -/
def bits_Mul.f (a0 : Int) (a1 : Int) : Option (Int × Int) := (bits_Mul64.f a0 a1).bind fun bt482 => (some (bt482.1, bt482.2))
set_option maxHeartbeats 8000000 in
set_option maxRecDepth 100000 in
theorem bits_Mul.calls (a0 : Int) (a1 : Int) (r1 : Int) (r2 : Int) (w : World) (h : bits_Mul.f a0 a1 = some (r1, r2)) :
  Calls Tryd.prog 70 #[.int .u64 a0, .int .u64 a1] w fun e w' => e = .returned (.tuple #[.int .u64 r1, .int .u64 r2]) ∧ Drawn0 w w' := by
 have H : ((bits_Mul64.f a0 a1).bind fun bt482 => (some (bt482.1, bt482.2))) = some (r1, r2) := h
 clear h
 replace H := Option.bind_eq_some_iff.mp H
 obtain ⟨⟨t482, t483⟩, A30, H⟩ := H
 replace H : (some (t482, t483)) = some (r1, r2) := H
 have A3 := Aside0.mk A30
 clear A30
 simp only [Option.some.injEq, Prod.mk.injEq] at H
 obtain ⟨rfl, rfl⟩ := H
 go_enter Tryd.func70, Tryd.ntmps70
 go_wp2_with (first | ((with_reducible refine gate_callee (f := 81) rfl ?_); refine goesL_ (some 25) rfl rfl Tryd.func81 (by kernel_rfl) rfl #[.int .u64 a0, .int .u64 a1] rfl mp_ ?_; (with_reducible refine (bits_Mul64.calls a0 a1 t482 t483 _ A3.out).mono ?_); rintro e w' ⟨rfl, ⟨nd, rfl⟩⟩; refine ⟨_, rfl, ?_⟩))
 go_ret2
 exact ⟨by first | rfl | (simp; done) | (simp [*]; done), by repeat (first | exact Drawn0.refl _ | apply Drawn0.step)⟩

/-! ### slices_Repeat_byte_byte: function 52 -/
def slices_Repeat_byte_byte.f (l0 : List Int) (a1 : Int) : Option (List Int) := if l0.length = 1 ∧ 1 ≤ a1 ∧ a1 ≤ 1000 then some (List.replicate a1.toNat (rd l0 0)) else none

theorem rep_mul_b (n : Nat) (hn : n ≤ 1000) : bits_Mul.f 1 (n : Int) = some (0, (n : Int)) := by
 have key : ∀ m : Fin 1001, bits_Mul.f 1 (m.val : Int) = some (0, (m.val : Int)) := by decide +kernel
 exact key ⟨n, by omega⟩

/-- A row of n cells of which the first m are V. -/
def repC_b (V Z : Value) (m n : Nat) : List Value := List.replicate m V ++ List.replicate (n - m) Z
theorem repC_len_b (V Z : Value) (m n : Nat) (h : m ≤ n) : (repC_b V Z m n).length = n := by simp [repC_b]; omega
theorem repC_splice_b (V Z : Value) (m n q : Nat) (h : m + q ≤ n) : splice (repC_b V Z m n) m (List.replicate q V) = repC_b V Z (m + q) n := by
 unfold splice repC_b
 simp only [List.length_replicate]
 rw [List.take_append_of_le_length (by simp), List.take_of_length_le (by simp), List.drop_append, List.drop_eq_nil_of_le (by simp), List.length_replicate, List.nil_append, List.drop_replicate, ← List.append_assoc, List.replicate_append_replicate]
 congr 2; omega
theorem repC_get_b (V Z : Value) (m n j : Nat) (h : j < m) : (repC_b V Z m n)[j]? = some V := by
 unfold repC_b
 rw [List.getElem?_append_left (by simpa using h), List.getElem?_replicate, if_pos h]

theorem hinfo3_b : (Tryd.prog.info? 5).map (fun i => (i.zero, i.size, i.bytes)) = some (some (.int .u8 0), 1, 1) := by kernel_rfl

theorem start_repC_b {w : World} {g : Nat} (v : Int) (n : Nat) (hn : 1 ≤ n) (h : w.heap[g]? = some (.cells (splice (List.replicate n (Value.int .u8 0)) 0 [Value.int .u8 v]).toArray 5 (0, 0))) : w.heap[g]? = some (.cells (repC_b (.int .u8 v) (.int .u8 0) 1 n).toArray 5 (0, 0)) := by
 have e := repC_splice_b (.int .u8 v) (.int .u8 0) 0 n 1 (by omega)
 have e0 : repC_b (.int .u8 v) (.int .u8 0) 0 n = List.replicate n (Value.int .u8 0) := by simp [repC_b]
 rw [e0] at e
 have e1 : List.replicate 1 (Value.int .u8 v) = [Value.int .u8 v] := rfl
 rw [e1] at e
 rw [h, e]

theorem one_src_b {w w2 : World} {ad : Addr} {v : Value} (hc : w.cell? (ad.add 0) = some v) (hb : Below w.heap.size w w2) : ∀ j u, [v][j]? = some u → w2.cell? (ad.add j) = some u := by
 intro j u hu
 cases j with
 | zero =>
  have hu2 := Option.some.inj hu
  subst hu2
  exact pw_cell_below hb hc
 | succ j => cases hu
theorem one_cells_b (v : Int) : ∀ u ∈ [Value.int .u8 v], u.oneCell' = true := by
 intro u hu
 simp at hu
 subst hu
 rfl

theorem rep_src_b {w : World} {g : Nat} (v : Int) (m n q : Nat) (hq : q ≤ m) (h : w.heap[g]? = some (.cells (repC_b (.int .u8 v) (.int .u8 0) m n).toArray 5 (0, 0))) : ∀ j u, (List.replicate q (Value.int .u8 v))[j]? = some u → w.cell? ((⟨g, 0, none⟩ : Addr).add j) = some u := by
 intro j u hu
 rw [add_plain, blk_cell h j]
 rw [List.getElem?_replicate] at hu
 by_cases hj : j < q
 ·rw [if_pos hj] at hu
  rw [List.getElem?_toArray, repC_get_b _ _ _ _ _ (by omega)]; exact hu
 ·rw [if_neg hj] at hu; cases hu
theorem rep_fit_b (v : Int) (m n q : Nat) (h : m + q ≤ n) : m + (List.replicate q (Value.int .u8 v)).length ≤ (repC_b (.int .u8 v) (.int .u8 0) m n).length := by
 rw [List.length_replicate, repC_len_b _ _ _ _ (by omega)]; exact h
theorem rep_cells_b (v : Int) (q : Nat) : ∀ u ∈ List.replicate q (Value.int .u8 v), u.oneCell' = true := by
 intro u hu
 rw [List.eq_of_mem_replicate hu]; rfl
theorem rep_next_b {w : World} {g : Nat} (v : Int) (m n q : Nat) (hq : m + q ≤ n) (h : w.heap[g]? = some (.cells (splice (repC_b (.int .u8 v) (.int .u8 0) m n) m (List.replicate q (.int .u8 v))).toArray 5 (0, 0))) : w.heap[g]? = some (.cells (repC_b (.int .u8 v) (.int .u8 0) (m + q) n).toArray 5 (0, 0)) := by
 rw [repC_splice_b _ _ _ _ _ hq] at h; exact h

theorem wrap64_small_b (x : Int) (h0 : 0 ≤ x) (h1 : x ≤ 9223372036854775807) : wrap64 x = x := by unfold wrap64; omega

theorem made_one_b (z : Value) (n : Nat) : madeCells #[z] n = (List.replicate n z).toArray := by
 apply Array.ext
 ·simp [madeCells]
 ·intro i h1 h2
  simp [madeCells, Nat.mod_one]

theorem make_event_b {P : Program} {ops : Array Oper} {rest : List Oper} {o : Oper} {a : Act} {Q : Exit → Act → World → Prop} {W : World} (hgd : o.guard = none) (t : TypeId) (x y : Operand) (ho : o.op = .makeSlice t x y) (n : Nat) (hn : n ≤ 1000000) (hx : a.eval x = .int .i64 n) (hy : a.eval y = .int .i64 n)
  (e : TypeId) (ht : P.underlying t = some (.slice e)) (i : TypeInfo) (z : Value) (hi : P.info? e = some i) (hz : i.zero = some z) (hz1 : z.cells = #[z]) (hs : i.size = 1) (hb : i.bytes ≤ 8)
  (h : ∀ g, g = W.heap.size → ∀ w1, w1.heap[g]? = some (.cells (List.replicate n z).toArray e (0, 0)) → Below W.heap.size W w1 → wpList P ops Q rest (a.put o.dst (.slice (some ⟨g, 0, none⟩) n n)) w1) : wpList P ops Q (o :: rest) a W := by
 have hbn : i.bytes * n ≤ 8 * n := Nat.mul_le_mul_right n hb
 have hr := run_make (P := P) W t e i z ht hi hz .i64 .i64 (n : Int) (n : Int) (by omega) (by omega) (by
  have h3 : ((i.bytes * n : Nat) : Int) ≤ 281474976710656 := by omega
  simpa using h3) (by omega)
 rw [hs, hz1, made_one_b] at hr
 simp only [Int.toNat_natCast, Nat.mul_one] at hr
 refine Kd.event_run hgd (w1 := W.alloc (.cells (List.replicate n z).toArray e)) (v := .slice (some ⟨W.heap.size, 0, none⟩) n n) ?_ (h _ rfl _ (blk_new W _) (below_alloc (Below.refl _ _) _))
 simp [execOp, ho, hx, hy, hr]

theorem ints_own_b {w : World} {g base cap : Nat} {cur : Array Value} (xs : List Int) (hc : cap ≤ 9223372036854775807) (hl : xs.length ≤ cap) (hs : cur.size = cap) (ht : cur.toList.take xs.length = nums .u8 xs) (hb : base ≤ g) (h : w.heap[g]? = some (.cells cur 5 (0, 0))) :
  Kd.R (Kd.int .u8) 5 w base (fun _ => True) (.slice (some ⟨g, 0, none⟩) xs.length cap) xs := by
 refine ⟨fun _ _ => trivial, nums .u8 xs, ⟨by simp [nums, Kd.int, Kd.scalar], .inr ⟨g, cap, cur, rfl, hb, h, hl, by unfold maxLen; omega, by simp [hs, Kd.int, Kd.scalar], by simpa [Kd.int, Kd.scalar] using ht⟩⟩, ?_⟩
 refine ⟨by simp [nums, Kd.int, Kd.scalar], fun j p hp => ?_⟩
 have hj : j < xs.length := by
  rcases Nat.lt_or_ge j xs.length with hj | hj
  ·exact hj
  ·rw [List.getElem?_eq_none hj] at hp; cases hp
 rw [List.getElem?_eq_getElem hj] at hp
 obtain rfl := Option.some.inj hp
 show ((nums .u8 xs).drop (j * 1)).take 1 = [Value.int .u8 xs[j]]
 rw [Nat.mul_one, List.drop_eq_getElem_cons (by simpa [nums] using hj)]
 simp [nums]

set_option maxHeartbeats 4000000 in
set_option maxRecDepth 100000 in
theorem repeat_run_b (A : Option Addr) (c : Nat) (v : Int) (n : Nat) (hn1 : 1 ≤ n) (hn : n ≤ 1000) (w : World) (hr : (Kd.int .u8).C w A 1 [v]) :
  Calls Tryd.prog 52 #[.slice A 1 c, .int .i64 n] w fun e w' => ∃ g : Nat, e = .returned (.slice (some ⟨g, 0, none⟩) n n) ∧ w.heap.size ≤ g ∧ w'.heap[g]? = some (.cells (repC_b (.int .u8 v) (.int .u8 0) n n).toArray 5 (0, 0)) ∧ Below w.heap.size w w' := by
 obtain ⟨ad, hA, hcell⟩ := Kd.at_int hr 0 (by omega) (by omega)
 subst hA
 have hcell : w.cell? (ad.add 0) = some (.int .u8 v) := hcell
 clear hr
 obtain ⟨i0, hi, hz0, hz1, hz2⟩ := info_parts hinfo3_b
 have hneg : ¬ (n : Int) < 0 := by omega
 have hbig : ¬ (9223372036854775807 < (n : Int)) := by omega
 have HM := Aside0.mk (rep_mul_b n hn)
 have e1 : IntKind.u64.wrap (1 : Int) = 1 := by decide +kernel
 have HC := Aside0.mk hcell
 clear hcell
 obtain ⟨V, hV⟩ : ∃ V, V = Value.int .u8 v := ⟨_, rfl⟩
 obtain ⟨Z, hZ⟩ : ∃ Z, Z = Value.int .u8 0 := ⟨_, rfl⟩
 have HV := Aside0.mk hV
 have HZ := Aside0.mk hZ
 clear hV hZ
 go_enter Tryd.func52, Tryd.ntmps52
 go_wp2_with (fail)
 refine (bits_Mul.calls 1 n 0 n _ HM.out).mono ?_
 rintro e w1 ⟨rfl, ⟨nd, rfl⟩⟩
 go_wp2_with (first | ((with_reducible refine gate_dst (N := 30) rfl ?_); refine make_event_b rfl 40 (.tmp 29) (.tmp 29) rfl n (by omega) ?hx ?hy 5 Tryd.underlying40 i0 (.int .u8 0) hi hz0 rfl hz1 (by omega) ?_; (case hx => first | rfl | (simp [Act.eval, Act.put]; done)); (case hy => first | rfl | (simp [Act.eval, Act.put]; done)); intro g hg w2 hblk hb; have GW := Aside0.mk (show w.heap.size ≤ g from hg ▸ Nat.le_refl w.heap.size); have HB := Aside0.mk (below_step (pw_below_drewN (Below.refl w.heap.size w) nd) hb); have BK := Aside0.mk hblk; clear hg hb hblk) | ((with_reducible refine gate_dst (N := 33) rfl ?_); refine wpList_copy_splice rfl (.tmp 31) (.tmp 32) 40 40 rfl 5 Tryd.underlying40 (by kernel_rfl) (some ⟨g, 0, none⟩) (some ad) n n 1 c ?hd ?hs g 0 (List.replicate n (.int .u8 0)) 5 BK.out [.int .u8 v] ?hn (fun _ => ⟨rfl, ad, rfl, ?hsrc⟩) ?hfit ?h1 w.heap.size w HB.out GW.out ?_; (case hd => rfl); (case hs => rfl); (case hn => exact (Nat.min_eq_left hn1).symm); (case hsrc => exact one_src_b HC.out HB.out); (case hfit => simp; omega); (case h1 => exact one_cells_b v); intro w3 hg3 hb3; have BK3 := Aside0.mk (start_repC_b v n hn1 hg3.out); have HB3 := Aside0.mk hb3; clear HB BK hg3 hb3))
 go_loopg [8] n (fun gg s8 wr => ∃ m : Nat, s8 = .int .i64 m ∧ 1 ≤ m ∧ m ≤ n ∧ n - m ≤ gg ∧ Aside0 (wr.heap[g]? = some (.cells (repC_b (.int .u8 v) (.int .u8 0) m n).toArray 5 (0, 0))) ∧ Aside0 (Below w.heap.size w wr))
 case atStart => exact ⟨1, rfl, by omega, hn1, by omega, BK3, HB3⟩
 case round =>
  clear BK3 HB3
  obtain ⟨m, rfl, hm1, hm2, hg, BK, HB⟩ := hrel
  by_cases hlt : m < n
  ·have hltz : (m : Int) < (n : Int) := by omega
   have hz1 : (0 : Int) ≤ (m : Int) := by omega
   have hz2 : (m : Int) ≤ (n : Int) := by omega
   obtain ⟨q, hq⟩ : ∃ q, q = Nat.min m (n - m) := ⟨_, rfl⟩
   have hq1 : 1 ≤ q ∧ m + q ≤ n ∧ q ≤ m := by rw [hq]; simp only [Nat.min_def]; split <;> omega
   have HQ := Aside0.mk hq
   clear hq
   go_wp2
   go_region_law (first | ((refine step_copy_splice rfl (.tmp 41) (.tmp 44) 40 40 rfl 5 Tryd.underlying40 (by kernel_rfl) (some ⟨g, m, none⟩) (some ⟨g, 0, none⟩) (n - m) (n - m) m n ?hd ?hs g m (repC_b (.int .u8 v) (.int .u8 0) m n) 5 BK.out (List.replicate q (.int .u8 v)) ?hn (fun _ => ⟨rfl, _, rfl, ?hsrc⟩) ?hfit ?h1 w.heap.size w (below_drew HB.out) GW.out ?_); (case hd => simp [Act.eval, Act.put]; omega); (case hs => simp [Act.eval, Act.put]); (case hn => rw [List.length_replicate]; exact HQ.out); (case hsrc => exact rep_src_b v m n q hq1.2.2 BK.out); (case hfit => exact rep_fit_b v m n q hq1.2.1); (case h1 => exact rep_cells_b v q); intro w4 hg4 hb4; have BK4 := Aside0.mk (rep_next_b v m n q hq1.2.1 hg4.out); have HB4 := Aside0.mk hb4; clear hg4 hb4))
   have hs1 : (0 : Int) ≤ (m : Int) + (q : Int) := by omega
   have hs2 : (m : Int) + (q : Int) ≤ 1000 := by omega
   go_wp2
   go_roundg (n - (m + q))
   case measure => omega
   case rel => exact ⟨m + q, by rw [i64_w, wrap64_small_b _ hs1 (by omega)]; rfl, by omega, by omega, by omega, BK4, HB4⟩
  ·obtain rfl : m = n := by omega
   go_wp2
   go_ret
   exact ⟨g, rfl, GW.out, BK.out, HB.out⟩

set_option maxHeartbeats 1000000 in
theorem slices_Repeat_byte_byte.calls (A0 : Option Addr) (c0 : Nat) (l0 : List Int) (a1 : Int) (r : List Int) (w : World) (hr0 : Kd.C (Kd.int .u8) w A0 l0.length l0) (hc0 : l0.length ≤ c0) (h : slices_Repeat_byte_byte.f l0 a1 = some r) :
  Calls Tryd.prog 52 #[.slice A0 l0.length c0, .int .i64 a1] w fun e w' => ∃ v0_ : Value, e = .returned (v0_) ∧ Kd.R (Kd.int .u8) 5 w' w.heap.size (fun _ => True) v0_ r ∧ Below w.heap.size w w' := by
 unfold slices_Repeat_byte_byte.f at h
 by_cases hh : l0.length = 1 ∧ 1 ≤ a1 ∧ a1 ≤ 1000
 ·rw [if_pos hh] at h
  obtain rfl := Option.some.inj h
  obtain ⟨h1, h2, h3⟩ := hh
  match l0, h1 with
  | [v], _ =>
   obtain ⟨n, rfl⟩ := Int.eq_ofNat_of_zero_le (show 0 ≤ a1 by omega)
   refine (repeat_run_b A0 c0 v n (by omega) (by omega) w hr0).mono ?_
   rintro e w' ⟨g, rfl, hg, hblk, hb⟩
   refine ⟨_, rfl, ?_, hb⟩
   have e1 : rd [v] 0 = v := rfl
   rw [e1, Int.toNat_natCast]
   have hrep : repC_b (.int .u8 v) (.int .u8 0) n n = nums .u8 (List.replicate n v) := by simp [repC_b, nums]
   rw [hrep] at hblk
   have := ints_own_b (List.replicate n v) (cap := n) (by omega) (by simp) (by simp [nums]) (by simp [nums]) hg hblk
   simpa using this
 ·rw [if_neg hh] at h; cases h

/-! ### impl_CountCells: function 53 -/
def impl_CountCells.f (a0_0 : Int) (a0_1 : Int) : Option (Int) := (impl_GridOk.f a0_0 a0_1).bind fun t485 => (if t485 = true then (some (wrap64 (a0_0 * a0_1))) else (some 0))
set_option maxHeartbeats 8000000 in
set_option maxRecDepth 100000 in
theorem impl_CountCells.calls (a0_0 : Int) (a0_1 : Int) (r : Int) (w : World) (h : impl_CountCells.f a0_0 a0_1 = some r) :
  Calls Tryd.prog 53 #[.agg #[.int .i64 a0_0, .int .i64 a0_1]] w fun e w' => e = .returned (.int .i64 r) ∧ Below w.heap.size w w' := by
 have hu32 := Tryd.underlying32
 have HB := Aside0.mk (Below.refl w.heap.size w)
 have H : ((impl_GridOk.f a0_0 a0_1).bind fun t485 => (if t485 = true then (some (wrap64 (a0_0 * a0_1))) else (some 0))) = some r := h
 clear h
 replace H := Option.bind_eq_some_iff.mp H
 obtain ⟨t485, A20, H⟩ := H
 replace H : (if t485 = true then (some (wrap64 (a0_0 * a0_1))) else (some 0)) = some r := H
 have A2 := Aside0.mk A20
 clear A20
 by_cases c3 : t485 = true
 ·subst c3
  have H1 : (some (wrap64 (a0_0 * a0_1))) = some r := by rw [if_pos rfl] at H; exact H
  clear H
  have H := H1
  clear H1
  obtain rfl := Option.some.inj H
  go_enter Tryd.func53, Tryd.ntmps53
  go_wp2_with (first | ((with_reducible refine gate_dst (N := 1) rfl ?_); refine box_event ?hg (N := 1) ?hd (cs := #[.int .i64 a0_0, .int .i64 a0_1]) (t := 32) ?hr ?_; (case hd => rfl); (case hg => rfl); (case hr => first | (go_simp; done) | (go_simp; rfl)); intro gb484 hg w4 hbox hb; have n0_ := Aside0.mk (below_step hb_ hb); have n1_ := Aside0.mk (hbox); have n2_ := Aside0.mk ((by rw [hg]; exact (below_size hb_) : w.heap.size ≤ gb484)); have n3_ := Aside0.mk ((by rw [hg]; exact (below_size hb_) : w.heap.size ≤ gb484)); clear HB; have HB := n0_; have BK484 := n1_; have GW484 := n2_; have GE484 := n3_; clear n0_ n1_ n2_ n3_; clear hb hbox hg; have hcz5_0 := cz_ (.int .i64 a0_0) BK484.out 0; have hcz5_1 := cz_ (.int .i64 a0_1) BK484.out 1; have hfz5_0 := blk_frozen BK484.out 0; have hfz5_1 := blk_frozen BK484.out 1) | ((with_reducible refine gate_callee (f := 65) rfl ?_); refine goesL_ (some 4) rfl rfl Tryd.func65 (by kernel_rfl) rfl #[.agg #[.int .i64 a0_0, .int .i64 a0_1]] rfl mp_ ?_; (with_reducible refine (impl_GridOk.calls a0_0 a0_1 true _ A2.out).mono ?_); rintro e w6 ⟨rfl, hb⟩; refine ⟨_, rfl, ?_⟩; have n0_ := Aside0.mk (blk_below (g := gb484) (o := .cells #[.int .i64 a0_0, .int .i64 a0_1] 32 (0, 0)) (kb_ BK484.out) hb); have n1_ := Aside0.mk (below_step hb_ hb); clear BK484; clear HB; have BK484 := n0_; have HB := n1_; clear n0_ n1_; (try clear hb); (try clear hb2); (try clear hk); (try clear hi); have hcz7_0 := cz_ (.int .i64 a0_0) BK484.out 0; have hcz7_1 := cz_ (.int .i64 a0_1) BK484.out 1; have hfz7_0 := blk_frozen BK484.out 0; have hfz7_1 := blk_frozen BK484.out 1))
  go_ret
  exact ⟨er_, hb_⟩
 ·replace c3 := Bool.eq_false_iff.mpr c3
  subst c3
  have H1 : (some 0) = some r := by rw [if_neg (show ¬ (false = true) by decide)] at H; exact H
  clear H
  have H := H1
  clear H1
  obtain rfl := Option.some.inj H
  go_enter Tryd.func53, Tryd.ntmps53
  go_wp2_with (first | ((with_reducible refine gate_dst (N := 1) rfl ?_); refine box_event ?hg (N := 1) ?hd (cs := #[.int .i64 a0_0, .int .i64 a0_1]) (t := 32) ?hr ?_; (case hd => rfl); (case hg => rfl); (case hr => first | (go_simp; done) | (go_simp; rfl)); intro gb484 hg w8 hbox hb; have n0_ := Aside0.mk (below_step hb_ hb); have n1_ := Aside0.mk (hbox); have n2_ := Aside0.mk ((by rw [hg]; exact (below_size hb_) : w.heap.size ≤ gb484)); have n3_ := Aside0.mk ((by rw [hg]; exact (below_size hb_) : w.heap.size ≤ gb484)); clear HB; have HB := n0_; have BK484 := n1_; have GW484 := n2_; have GE484 := n3_; clear n0_ n1_ n2_ n3_; clear hb hbox hg; have hcz9_0 := cz_ (.int .i64 a0_0) BK484.out 0; have hcz9_1 := cz_ (.int .i64 a0_1) BK484.out 1; have hfz9_0 := blk_frozen BK484.out 0; have hfz9_1 := blk_frozen BK484.out 1) | ((with_reducible refine gate_callee (f := 65) rfl ?_); refine goesL_ (some 4) rfl rfl Tryd.func65 (by kernel_rfl) rfl #[.agg #[.int .i64 a0_0, .int .i64 a0_1]] rfl mp_ ?_; (with_reducible refine (impl_GridOk.calls a0_0 a0_1 false _ A2.out).mono ?_); rintro e w10 ⟨rfl, hb⟩; refine ⟨_, rfl, ?_⟩; have n0_ := Aside0.mk (blk_below (g := gb484) (o := .cells #[.int .i64 a0_0, .int .i64 a0_1] 32 (0, 0)) (kb_ BK484.out) hb); have n1_ := Aside0.mk (below_step hb_ hb); clear BK484; clear HB; have BK484 := n0_; have HB := n1_; clear n0_ n1_; (try clear hb); (try clear hb2); (try clear hk); (try clear hi)))
  go_ret
  exact ⟨er_, hb_⟩

/-! ### impl_isOpen: function 55 -/
def impl_isOpen.f (a0_0 : Int) (a0_1 : Int) (a0_2 : Int) (a1 : Int) : Option (Bool) := if a1 ≥ 0 then (if 0 ≤ a1 then (some ((Go.bits .and .i64 (shr .i64 a0_2 a1) 1) == 1)) else (none)) else (some false)
set_option maxHeartbeats 8000000 in
set_option maxRecDepth 100000 in
theorem impl_isOpen.calls (a0_0 : Int) (a0_1 : Int) (a0_2 : Int) (a1 : Int) (r : Bool) (w : World) (h : impl_isOpen.f a0_0 a0_1 a0_2 a1 = some r) :
  Calls Tryd.prog 55 #[.agg #[.int .i64 a0_0, .int .i64 a0_1, .int .i64 a0_2], .int .i64 a1] w fun e w' => e = .returned (.bool r) ∧ Below w.heap.size w w' := by
 have hu34 := Tryd.underlying34
 have HB := Aside0.mk (Below.refl w.heap.size w)
 have H : (if a1 ≥ 0 then (if 0 ≤ a1 then (some ((Go.bits .and .i64 (shr .i64 a0_2 a1) 1) == 1)) else (none)) else (some false)) = some r := h
 clear h
 by_cases c3 : a1 ≥ 0
 ·rw [if_pos c3] at H
  have c3b0 : decide (0 ≤ a1) = true := decide_eq_true c3
  clear c3
  by_cases c4 : 0 ≤ a1
  ·rw [if_pos c4] at H
   have c4b0 := eq_true c4
   have c4b1 : decide (0 ≤ a1) = true := decide_eq_true c4
   clear c4
   obtain ⟨ji5, hji5⟩ : ∃ j_ : Int, (shr .i64 a0_2 a1) = j_ := ⟨_, rfl⟩
   replace H : (some ((Go.bits .and .i64 (ji5) 1) == 1)) = some r := by first | (rw [hji5] at H; exact H) | (simp only [hji5] at H ⊢; exact H)
   have hji5_ : (a0_2 / 2 ^ min a1.toNat 64) = ji5 := hji5
   have hji5z : a1 ≤ 64 → (a0_2 / 2 ^ a1.toNat) = ji5 := shr_small hji5
   obtain rfl := Option.some.inj H
   go_enter Tryd.func55, Tryd.ntmps55
   go_wp2_with (first | ((with_reducible refine gate_dst (N := 2) rfl ?_); refine box_event ?hg (N := 2) ?hd (cs := #[.int .i64 a0_0, .int .i64 a0_1, .int .i64 a0_2]) (t := 34) ?hr ?_; (case hd => rfl); (case hg => rfl); (case hr => first | (go_simp; done) | (go_simp; rfl)); intro gb486 hg w6 hbox hb; have n0_ := Aside0.mk (below_step hb_ hb); have n1_ := Aside0.mk (hbox); have n2_ := Aside0.mk ((by rw [hg]; exact (below_size hb_) : w.heap.size ≤ gb486)); have n3_ := Aside0.mk ((by rw [hg]; exact (below_size hb_) : w.heap.size ≤ gb486)); clear HB; have HB := n0_; have BK486 := n1_; have GW486 := n2_; have GE486 := n3_; clear n0_ n1_ n2_ n3_; clear hb hbox hg; have hcz7_0 := cz_ (.int .i64 a0_0) BK486.out 0; have hcz7_1 := cz_ (.int .i64 a0_1) BK486.out 1; have hcz7_2 := cz_ (.int .i64 a0_2) BK486.out 2; have hfz7_0 := blk_frozen BK486.out 0; have hfz7_1 := blk_frozen BK486.out 1; have hfz7_2 := blk_frozen BK486.out 2))
   go_ret
   exact ⟨by first | rfl | (simp [errW_none, errW_some] <;> rfl) | (simp only [← hji5]; first | rfl | (simp [errW_none, errW_some] <;> rfl)) | (simp [*, errW_none, errW_some] <;> rfl), hb_⟩
  ·rw [if_neg c4] at H
   exact absurd H (by simp)
 ·rw [if_neg c3] at H
  have c3b0 : decide (0 ≤ a1) = false := decide_eq_false c3
  clear c3
  obtain rfl := Option.some.inj H
  go_enter Tryd.func55, Tryd.ntmps55
  go_wp2_with (first | ((with_reducible refine gate_dst (N := 2) rfl ?_); refine box_event ?hg (N := 2) ?hd (cs := #[.int .i64 a0_0, .int .i64 a0_1, .int .i64 a0_2]) (t := 34) ?hr ?_; (case hd => rfl); (case hg => rfl); (case hr => first | (go_simp; done) | (go_simp; rfl)); intro gb486 hg w8 hbox hb; have n0_ := Aside0.mk (below_step hb_ hb); have n1_ := Aside0.mk (hbox); have n2_ := Aside0.mk ((by rw [hg]; exact (below_size hb_) : w.heap.size ≤ gb486)); have n3_ := Aside0.mk ((by rw [hg]; exact (below_size hb_) : w.heap.size ≤ gb486)); clear HB; have HB := n0_; have BK486 := n1_; have GW486 := n2_; have GE486 := n3_; clear n0_ n1_ n2_ n3_; clear hb hbox hg))
  go_ret
  exact ⟨er_, hb_⟩

/-! ### impl_isGap: function 82 -/
def impl_isGap.f (a0_0 : Int) (a0_1 : Int) (a1 : Int) : Option (Bool) := if a1 ≥ 0 then ((impl_CountGaps.f a0_0 a0_1).bind fun t488 => (some (decide (a1 < t488)))) else (some false)
set_option maxHeartbeats 8000000 in
set_option maxRecDepth 100000 in
theorem impl_isGap.calls (a0_0 : Int) (a0_1 : Int) (a1 : Int) (r : Bool) (w : World) (h : impl_isGap.f a0_0 a0_1 a1 = some r) :
  Calls Tryd.prog 82 #[.agg #[.int .i64 a0_0, .int .i64 a0_1], .int .i64 a1] w fun e w' => e = .returned (.bool r) ∧ Below w.heap.size w w' := by
 have hu32 := Tryd.underlying32
 have HB := Aside0.mk (Below.refl w.heap.size w)
 have H : (if a1 ≥ 0 then ((impl_CountGaps.f a0_0 a0_1).bind fun t488 => (some (decide (a1 < t488)))) else (some false)) = some r := h
 clear h
 by_cases c3 : a1 ≥ 0
 ·rw [if_pos c3] at H
  have c3b0 : decide (0 ≤ a1) = true := decide_eq_true c3
  clear c3
  replace H := Option.bind_eq_some_iff.mp H
  obtain ⟨t488, A40, H⟩ := H
  replace H : (some (decide (a1 < t488))) = some r := H
  have A4 := Aside0.mk A40
  clear A40
  obtain rfl := Option.some.inj H
  go_enter Tryd.func82, Tryd.ntmps82
  go_wp2_with (first | ((with_reducible refine gate_dst (N := 2) rfl ?_); refine box_event ?hg (N := 2) ?hd (cs := #[.int .i64 a0_0, .int .i64 a0_1]) (t := 32) ?hr ?_; (case hd => rfl); (case hg => rfl); (case hr => first | (go_simp; done) | (go_simp; rfl)); intro gb487 hg w5 hbox hb; have n0_ := Aside0.mk (below_step hb_ hb); have n1_ := Aside0.mk (hbox); have n2_ := Aside0.mk ((by rw [hg]; exact (below_size hb_) : w.heap.size ≤ gb487)); have n3_ := Aside0.mk ((by rw [hg]; exact (below_size hb_) : w.heap.size ≤ gb487)); clear HB; have HB := n0_; have BK487 := n1_; have GW487 := n2_; have GE487 := n3_; clear n0_ n1_ n2_ n3_; clear hb hbox hg; have hcz6_0 := cz_ (.int .i64 a0_0) BK487.out 0; have hcz6_1 := cz_ (.int .i64 a0_1) BK487.out 1; have hfz6_0 := blk_frozen BK487.out 0; have hfz6_1 := blk_frozen BK487.out 1) | (go_at_call 54; (with_reducible refine (impl_CountGaps.calls a0_0 a0_1 t488 _ A4.out).mono ?_); rintro e w7 ⟨rfl, hb⟩; have n0_ := Aside0.mk (blk_below (g := gb487) (o := .cells #[.int .i64 a0_0, .int .i64 a0_1] 32 (0, 0)) (kb_ BK487.out) hb); have n1_ := Aside0.mk (below_step hb_ hb); clear BK487; clear HB; have BK487 := n0_; have HB := n1_; clear n0_ n1_; (try clear hb); (try clear hb2); (try clear hk); (try clear hi)))
  go_ret
  exact ⟨er_, hb_⟩
 ·rw [if_neg c3] at H
  have c3b0 : decide (0 ≤ a1) = false := decide_eq_false c3
  clear c3
  obtain rfl := Option.some.inj H
  go_enter Tryd.func82, Tryd.ntmps82
  go_wp2_with (first | ((with_reducible refine gate_dst (N := 2) rfl ?_); refine box_event ?hg (N := 2) ?hd (cs := #[.int .i64 a0_0, .int .i64 a0_1]) (t := 32) ?hr ?_; (case hd => rfl); (case hg => rfl); (case hr => first | (go_simp; done) | (go_simp; rfl)); intro gb487 hg w8 hbox hb; have n0_ := Aside0.mk (below_step hb_ hb); have n1_ := Aside0.mk (hbox); have n2_ := Aside0.mk ((by rw [hg]; exact (below_size hb_) : w.heap.size ≤ gb487)); have n3_ := Aside0.mk ((by rw [hg]; exact (below_size hb_) : w.heap.size ≤ gb487)); clear HB; have HB := n0_; have BK487 := n1_; have GW487 := n2_; have GE487 := n3_; clear n0_ n1_ n2_ n3_; clear hb hbox hg))
  go_ret
  exact ⟨er_, hb_⟩

end Go.Proofs.YtcocebkmfmiaeaaDoor.Q
