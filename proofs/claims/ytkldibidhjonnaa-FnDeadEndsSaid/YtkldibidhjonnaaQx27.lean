/- Plain Lean functions of Go functions, and for each the proof that its call comes to just that answer. Conditions: in each theorem's statement. -/
import Derived.Test.YtkldibidhjonnaaQx0
import Derived.Test.YtkldibidhjonnaaQx1
import Derived.Test.YtkldibidhjonnaaQx26
namespace Go.Proofs.Ytkldibidhjonnaa.Q
open Go.RowKit Go.Proofs.YtkldibidhjonnaaW.PrintWords Go.Proofs.YtkldibidhjonnaaW.PrintLast
attribute [local go_sem] max2_int min2_int max_two min_two   -- for this text's walks alone
set_option linter.unusedVariables false
set_option linter.unusedSimpArgs false

/-! ### slices_Repeat_int_int: function 71 -/
def slices_Repeat_int_int.f (l0 : List Int) (a1 : Int) : Option (List Int) := if l0.length = 1 ∧ 1 ≤ a1 ∧ a1 ≤ 1000 then some (List.replicate a1.toNat (rd l0 0)) else none

theorem rep_mul (n : Nat) (hn : n ≤ 1000) : bits_Mul.f 1 (n : Int) = some (0, (n : Int)) := by
 have key : ∀ m : Fin 1001, bits_Mul.f 1 (m.val : Int) = some (0, (m.val : Int)) := by decide +kernel
 exact key ⟨n, by omega⟩

/-- A row of n cells of which the first m are V. -/
def repC (V Z : Value) (m n : Nat) : List Value := List.replicate m V ++ List.replicate (n - m) Z
theorem repC_len (V Z : Value) (m n : Nat) (h : m ≤ n) : (repC V Z m n).length = n := by simp [repC]; omega
theorem repC_splice (V Z : Value) (m n q : Nat) (h : m + q ≤ n) : splice (repC V Z m n) m (List.replicate q V) = repC V Z (m + q) n := by
 unfold splice repC
 simp only [List.length_replicate]
 rw [List.take_append_of_le_length (by simp), List.take_of_length_le (by simp), List.drop_append, List.drop_eq_nil_of_le (by simp), List.length_replicate, List.nil_append, List.drop_replicate, ← List.append_assoc, List.replicate_append_replicate]
 congr 2; omega
theorem repC_get (V Z : Value) (m n j : Nat) (h : j < m) : (repC V Z m n)[j]? = some V := by
 unfold repC
 rw [List.getElem?_append_left (by simpa using h), List.getElem?_replicate, if_pos h]

theorem hinfo3 : (Try.prog.info? 3).map (fun i => (i.zero, i.size, i.bytes)) = some (some (.int .i64 0), 1, 8) := by kernel_rfl

theorem start_repC {w : World} {g : Nat} (v : Int) (n : Nat) (hn : 1 ≤ n) (h : w.heap[g]? = some (.cells (splice (List.replicate n (Value.int .i64 0)) 0 [Value.int .i64 v]).toArray 3 (0, 0))) : w.heap[g]? = some (.cells (repC (.int .i64 v) (.int .i64 0) 1 n).toArray 3 (0, 0)) := by
 have e := repC_splice (.int .i64 v) (.int .i64 0) 0 n 1 (by omega)
 have e0 : repC (.int .i64 v) (.int .i64 0) 0 n = List.replicate n (Value.int .i64 0) := by simp [repC]
 rw [e0] at e
 have e1 : List.replicate 1 (Value.int .i64 v) = [Value.int .i64 v] := rfl
 rw [e1] at e
 rw [h, e]

theorem one_src {w w2 : World} {ad : Addr} {v : Value} (hc : w.cell? (ad.add 0) = some v) (hb : Below w.heap.size w w2) : ∀ j u, [v][j]? = some u → w2.cell? (ad.add j) = some u := by
 intro j u hu
 cases j with
 | zero =>
  have hu2 := Option.some.inj hu
  subst hu2
  exact pw_cell_below hb hc
 | succ j => cases hu
theorem one_cells (v : Int) : ∀ u ∈ [Value.int .i64 v], u.oneCell' = true := by
 intro u hu
 simp at hu
 subst hu
 rfl

theorem rep_src {w : World} {g : Nat} (v : Int) (m n q : Nat) (hq : q ≤ m) (h : w.heap[g]? = some (.cells (repC (.int .i64 v) (.int .i64 0) m n).toArray 3 (0, 0))) : ∀ j u, (List.replicate q (Value.int .i64 v))[j]? = some u → w.cell? ((⟨g, 0, none⟩ : Addr).add j) = some u := by
 intro j u hu
 rw [add_plain, blk_cell h j]
 rw [List.getElem?_replicate] at hu
 by_cases hj : j < q
 ·rw [if_pos hj] at hu
  rw [List.getElem?_toArray, repC_get _ _ _ _ _ (by omega)]; exact hu
 ·rw [if_neg hj] at hu; cases hu
theorem rep_fit (v : Int) (m n q : Nat) (h : m + q ≤ n) : m + (List.replicate q (Value.int .i64 v)).length ≤ (repC (.int .i64 v) (.int .i64 0) m n).length := by
 rw [List.length_replicate, repC_len _ _ _ _ (by omega)]; exact h
theorem rep_cells (v : Int) (q : Nat) : ∀ u ∈ List.replicate q (Value.int .i64 v), u.oneCell' = true := by
 intro u hu
 rw [List.eq_of_mem_replicate hu]; rfl
theorem rep_next {w : World} {g : Nat} (v : Int) (m n q : Nat) (hq : m + q ≤ n) (h : w.heap[g]? = some (.cells (splice (repC (.int .i64 v) (.int .i64 0) m n) m (List.replicate q (.int .i64 v))).toArray 3 (0, 0))) : w.heap[g]? = some (.cells (repC (.int .i64 v) (.int .i64 0) (m + q) n).toArray 3 (0, 0)) := by
 rw [repC_splice _ _ _ _ _ hq] at h; exact h

theorem wrap64_small (x : Int) (h0 : 0 ≤ x) (h1 : x ≤ 9223372036854775807) : wrap64 x = x := by unfold wrap64; omega

theorem made_one (z : Value) (n : Nat) : madeCells #[z] n = (List.replicate n z).toArray := by
 apply Array.ext
 ·simp [madeCells]
 ·intro i h1 h2
  simp [madeCells, Nat.mod_one]

theorem make_event {P : Program} {ops : Array Oper} {rest : List Oper} {o : Oper} {a : Act} {Q : Exit → Act → World → Prop} {W : World} (hgd : o.guard = none) (t : TypeId) (x y : Operand) (ho : o.op = .makeSlice t x y) (n : Nat) (hn : n ≤ 1000000) (hx : a.eval x = .int .i64 n) (hy : a.eval y = .int .i64 n)
  (e : TypeId) (ht : P.underlying t = some (.slice e)) (i : TypeInfo) (z : Value) (hi : P.info? e = some i) (hz : i.zero = some z) (hz1 : z.cells = #[z]) (hs : i.size = 1) (hb : i.bytes ≤ 8)
  (h : ∀ g, g = W.heap.size → ∀ w1, w1.heap[g]? = some (.cells (List.replicate n z).toArray e (0, 0)) → Below W.heap.size W w1 → wpList P ops Q rest (a.put o.dst (.slice (some ⟨g, 0, none⟩) n n)) w1) : wpList P ops Q (o :: rest) a W := by
 have hbn : i.bytes * n ≤ 8 * n := Nat.mul_le_mul_right n hb
 have hr := run_make (P := P) W t e i z ht hi hz .i64 .i64 (n : Int) (n : Int) (by omega) (by omega) (by
  have h3 : ((i.bytes * n : Nat) : Int) ≤ 281474976710656 := by omega
  simpa using h3) (by omega)
 rw [hs, hz1, made_one] at hr
 simp only [Int.toNat_natCast, Nat.mul_one] at hr
 refine Kd.event_run hgd (w1 := W.alloc (.cells (List.replicate n z).toArray e)) (v := .slice (some ⟨W.heap.size, 0, none⟩) n n) ?_ (h _ rfl _ (blk_new W _) (below_alloc (Below.refl _ _) _))
 simp [execOp, ho, hx, hy, hr]

set_option maxHeartbeats 4000000 in
set_option maxRecDepth 100000 in
theorem repeat_run (A : Option Addr) (c : Nat) (v : Int) (n : Nat) (hn1 : 1 ≤ n) (hn : n ≤ 1000) (w : World) (hr : (Kd.int .i64).C w A 1 [v]) :
  Calls Try.prog 71 #[.slice A 1 c, .int .i64 n] w fun e w' => ∃ g : Nat, e = .returned (.slice (some ⟨g, 0, none⟩) n n) ∧ w.heap.size ≤ g ∧ w'.heap[g]? = some (.cells (repC (.int .i64 v) (.int .i64 0) n n).toArray 3 (0, 0)) ∧ Below w.heap.size w w' := by
 obtain ⟨ad, hA, hcell⟩ := Kd.at_int hr 0 (by omega) (by omega)
 subst hA
 have hcell : w.cell? (ad.add 0) = some (.int .i64 v) := hcell
 clear hr
 obtain ⟨i0, hi, hz0, hz1, hz2⟩ := info_parts hinfo3
 have hneg : ¬ (n : Int) < 0 := by omega
 have hbig : ¬ (9223372036854775807 < (n : Int)) := by omega
 have HM := Aside0.mk (rep_mul n hn)
 have e1 : IntKind.u64.wrap (1 : Int) = 1 := by decide +kernel
 have HC := Aside0.mk hcell
 clear hcell
 obtain ⟨V, hV⟩ : ∃ V, V = Value.int .i64 v := ⟨_, rfl⟩
 obtain ⟨Z, hZ⟩ : ∃ Z, Z = Value.int .i64 0 := ⟨_, rfl⟩
 have HV := Aside0.mk hV
 have HZ := Aside0.mk hZ
 clear hV hZ
 go_enter Try.func71, Try.ntmps71
 go_wp2_with (fail)
 refine (bits_Mul.calls 1 n 0 n _ HM.out).mono ?_
 rintro e w1 ⟨rfl, ⟨nd, rfl⟩⟩
 go_wp2_with (first | ((with_reducible refine gate_dst (N := 30) rfl ?_); refine make_event rfl 26 (.tmp 29) (.tmp 29) rfl n (by omega) ?hx ?hy 3 Try.underlying26 i0 (.int .i64 0) hi hz0 rfl hz1 (by omega) ?_; (case hx => first | rfl | (simp [Act.eval, Act.put]; done)); (case hy => first | rfl | (simp [Act.eval, Act.put]; done)); intro g hg w2 hblk hb; have GW := Aside0.mk (show w.heap.size ≤ g from hg ▸ Nat.le_refl w.heap.size); have HB := Aside0.mk (below_step (pw_below_drewN (Below.refl w.heap.size w) nd) hb); have BK := Aside0.mk hblk; clear hg hb hblk) | ((with_reducible refine gate_dst (N := 33) rfl ?_); refine wpList_copy_splice rfl (.tmp 31) (.tmp 32) 26 26 rfl 3 Try.underlying26 (by kernel_rfl) (some ⟨g, 0, none⟩) (some ad) n n 1 c ?hd ?hs g 0 (List.replicate n (.int .i64 0)) 3 BK.out [.int .i64 v] ?hn (fun _ => ⟨rfl, ad, rfl, ?hsrc⟩) ?hfit ?h1 w.heap.size w HB.out GW.out ?_; (case hd => rfl); (case hs => rfl); (case hn => exact (Nat.min_eq_left hn1).symm); (case hsrc => exact one_src HC.out HB.out); (case hfit => simp; omega); (case h1 => exact one_cells v); intro w3 hg3 hb3; have BK3 := Aside0.mk (start_repC v n hn1 hg3.out); have HB3 := Aside0.mk hb3; clear HB BK hg3 hb3))
 go_loopg [8] n (fun gg s8 wr => ∃ m : Nat, s8 = .int .i64 m ∧ 1 ≤ m ∧ m ≤ n ∧ n - m ≤ gg ∧ Aside0 (wr.heap[g]? = some (.cells (repC (.int .i64 v) (.int .i64 0) m n).toArray 3 (0, 0))) ∧ Aside0 (Below w.heap.size w wr))
 case atStart => exact ⟨1, rfl, by omega, hn1, by omega, BK3, HB3⟩
 case round =>
  clear BK3 HB3
  obtain ⟨m, rfl, hm1, hm2, hg, BK, HB⟩ := hrel
  by_cases hlt : m < n
  ·have hltz : (m : Int) < (n : Int) := by omega
   have hz1 : (0 : Int) ≤ (m : Int) := by omega
   have hz2 : (m : Int) ≤ (n : Int) := by omega
   obtain ⟨q, hq⟩ : ∃ q, q = Nat.min m (n - m) := ⟨_, rfl⟩
   have hq1 : 1 ≤ q ∧ m + q ≤ n ∧ q ≤ m := by rw [hq]; simp only [Nat.min_def]; split <;> omega
   have HQ := Aside0.mk hq
   clear hq
   go_wp2
   go_region_law (first | ((refine step_copy_splice rfl (.tmp 41) (.tmp 44) 26 26 rfl 3 Try.underlying26 (by kernel_rfl) (some ⟨g, m, none⟩) (some ⟨g, 0, none⟩) (n - m) (n - m) m n ?hd ?hs g m (repC (.int .i64 v) (.int .i64 0) m n) 3 BK.out (List.replicate q (.int .i64 v)) ?hn (fun _ => ⟨rfl, _, rfl, ?hsrc⟩) ?hfit ?h1 w.heap.size w (below_drew HB.out) GW.out ?_); (case hd => simp [Act.eval, Act.put]; omega); (case hs => simp [Act.eval, Act.put]); (case hn => rw [List.length_replicate]; exact HQ.out); (case hsrc => exact rep_src v m n q hq1.2.2 BK.out); (case hfit => exact rep_fit v m n q hq1.2.1); (case h1 => exact rep_cells v q); intro w4 hg4 hb4; have BK4 := Aside0.mk (rep_next v m n q hq1.2.1 hg4.out); have HB4 := Aside0.mk hb4; clear hg4 hb4))
   have hs1 : (0 : Int) ≤ (m : Int) + (q : Int) := by omega
   have hs2 : (m : Int) + (q : Int) ≤ 1000 := by omega
   go_wp2
   go_roundg (n - (m + q))
   case measure => omega
   case rel => exact ⟨m + q, by rw [i64_w, wrap64_small _ hs1 (by omega)]; rfl, by omega, by omega, by omega, BK4, HB4⟩
  ·obtain rfl : m = n := by omega
   go_wp2
   go_ret
   exact ⟨g, rfl, GW.out, BK.out, HB.out⟩

set_option maxHeartbeats 1000000 in
theorem slices_Repeat_int_int.calls (A0 : Option Addr) (c0 : Nat) (l0 : List Int) (a1 : Int) (r : List Int) (w : World) (hr0 : Kd.C (Kd.int .i64) w A0 l0.length l0) (hc0 : l0.length ≤ c0) (h : slices_Repeat_int_int.f l0 a1 = some r) :
  Calls Try.prog 71 #[.slice A0 l0.length c0, .int .i64 a1] w fun e w' => ∃ v0_ : Value, e = .returned (v0_) ∧ Kd.R (Kd.int .i64) 3 w' w.heap.size (fun _ => True) v0_ r ∧ Below w.heap.size w w' := by
 unfold slices_Repeat_int_int.f at h
 by_cases hh : l0.length = 1 ∧ 1 ≤ a1 ∧ a1 ≤ 1000
 ·rw [if_pos hh] at h
  obtain rfl := Option.some.inj h
  obtain ⟨h1, h2, h3⟩ := hh
  match l0, h1 with
  | [v], _ =>
   obtain ⟨n, rfl⟩ := Int.eq_ofNat_of_zero_le (show 0 ≤ a1 by omega)
   refine (repeat_run A0 c0 v n (by omega) (by omega) w hr0).mono ?_
   rintro e w' ⟨g, rfl, hg, hblk, hb⟩
   refine ⟨_, rfl, ?_, hb⟩
   have e1 : rd [v] 0 = v := rfl
   rw [e1, Int.toNat_natCast]
   have hrep : repC (.int .i64 v) (.int .i64 0) n n = nums .i64 (List.replicate n v) := by simp [repC, nums]
   rw [hrep] at hblk
   have := ints_own (List.replicate n v) (cap := n) (by omega) (by simp) (by simp [nums]) (by simp [nums]) hg hblk
   simpa using this
 ·rw [if_neg hh] at h; cases h

end Go.Proofs.Ytkldibidhjonnaa.Q
