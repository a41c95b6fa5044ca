/- Plain Lean functions of Go functions, and for each the proof that its call comes to just that answer. Conditions: in each theorem's statement. -/
import Derived.Test.YtkldibidhjonnaaQx0
import Derived.Test.YtkldibidhjonnaaQx2
import Derived.Test.YtkldibidhjonnaaQx4
import Derived.Test.YtkldibidhjonnaaQx8
import Derived.Test.YtkldibidhjonnaaQx9
import Derived.Test.YtkldibidhjonnaaQx10
namespace Go.Proofs.Ytkldibidhjonnaa.Q
open Go.RowKit Go.Proofs.YtkldibidhjonnaaW.PrintWords Go.Proofs.YtkldibidhjonnaaW.PrintLast
attribute [local go_sem] max2_int min2_int max_two min_two   -- for this text's walks alone
set_option linter.unusedVariables false
set_option linter.unusedSimpArgs false

/-! ### impl_FillDeadEnds: function 8 -/
def fill_go (keep : List Int) : Nat → Int → Int → Int → Option (Int × Int × Int)
 | 0, _, _, _ => none
 | k + 1, a, b, c => (impl_DeadEnds.f k a b c).bind fun ds => if (ds.all fun x => (slices_Contains_int_int.f k keep x).isSome) = true then (if (ds.filter fun x => !((slices_Contains_int_int.f k keep x).getD false)).length = 0 then some (a, b, c) else (impl_WaysFrom.f k a b c (rd (ds.filter fun x => !((slices_Contains_int_int.f k keep x).getD false)) 0)).bind fun y => if 0 < y.length then (impl_GapAt.f k a b (rd (ds.filter fun x => !((slices_Contains_int_int.f k keep x).getD false)) 0) (rd y 0)).bind fun g => (impl_with.f a b c g false).bind fun m => fill_go keep k m.1 m.2.1 m.2.2 else none) else none
theorem fill_go_mono (keep : List Int) : ∀ k a b c, LeO (fill_go keep k a b c) (fill_go keep (k + 1) a b c)
 | 0, _, _, _ => LeO.none _
 | k + 1, a, b, c => by
  rw [fill_go, fill_go]
  refine LeO.bind (impl_DeadEnds.mono a b c k) (fun ds => ?_)
  intro r h
  by_cases hall : (ds.all fun x => (slices_Contains_int_int.f k keep x).isSome) = true
  ·rw [if_pos hall] at h
   have e : ∀ x ∈ ds, slices_Contains_int_int.f (k + 1) keep x = slices_Contains_int_int.f k keep x := fun x hx => by
    obtain ⟨y, hy⟩ := Option.isSome_iff_exists.1 (List.all_eq_true.1 hall x hx)
    rw [hy]; exact slices_Contains_int_int.mono keep x k y hy
   have e2 : (ds.filter fun x => !((slices_Contains_int_int.f (k + 1) keep x).getD false)) = (ds.filter fun x => !((slices_Contains_int_int.f k keep x).getD false)) := List.filter_congr fun x hx => by rw [e x hx]
   rw [if_pos (List.all_eq_true.2 fun x hx => by rw [e x hx]; exact List.all_eq_true.1 hall x hx), e2]
   generalize (ds.filter fun x => !((slices_Contains_int_int.f k keep x).getD false)) = es at h ⊢
   revert h
   exact LeO.ite (LeO.refl _) (LeO.bind (impl_WaysFrom.mono a b c (rd es 0) k) (fun y => LeO.ite (LeO.bind (impl_GapAt.mono a b (rd es 0) (rd y 0) k) (fun g => LeO.bind (LeO.refl _) (fun m : Int × Int × Int => fill_go_mono keep k m.1 m.2.1 m.2.2))) (LeO.refl _))) r
  ·rw [if_neg hall] at h; cases h
def impl_FillDeadEnds.f (k : Nat) (a0_0 : Int) (a0_1 : Int) (a0_2 : Int) (l1 : List Int) : Option (Int × Int × Int) := (impl_isIn.f a0_0 a0_1 a0_2 l1).bind fun t => if t = true then fill_go l1 k a0_0 a0_1 a0_2 else some (a0_0, a0_1, a0_2)
theorem impl_FillDeadEnds.mono : ∀ a0 a1 a2 a3 k, LeO (impl_FillDeadEnds.f k a0 a1 a2 a3) (impl_FillDeadEnds.f (k + 1) a0 a1 a2 a3) := fun a0 a1 a2 a3 k => LeO.bind (LeO.refl _) (fun _ => LeO.ite (fill_go_mono a3 k a0 a1 a2) (LeO.refl _))

set_option maxHeartbeats 4000000 in
set_option maxRecDepth 100000 in
theorem keep_fn (gb : Nat) (A : Option Addr) (c : Nat) (keep : List Int) (k : Nat) (x : Int) (r : Bool) (w : World) (hx : slices_Contains_int_int.f k keep x = some r) (hc : keep.length ≤ c) (hbx : w.heap[gb]? = some (.cells #[.slice A keep.length c] 26 (0, 0))) (hk : (Kd.int .i64).C w A keep.length keep) :
  Calls Try.prog 31 #[.int .i64 x, .pointer (some ⟨gb, 0, none⟩)] w fun e w' => e = .returned (.bool r) ∧ Below w.heap.size w w' := by
 have hc0 : w.cell? ⟨gb, 0, none⟩ = some (.slice A keep.length c) := (blk_cell hbx 0).trans rfl
 have HK := Aside0.mk hk
 have HX := Aside0.mk hx
 clear hbx hk hx
 go_enter Try.func31, Try.ntmps31
 go_wp2_with (go_at_call 32; (with_reducible refine (slices_Contains_int_int.calls k A c keep x r _ HK.out hc HX.out).mono ?_); rintro e w1 ⟨rfl, hb⟩; have HB := Aside0.mk hb; clear hb)
 go_ret
 exact ⟨rfl, by obtain ⟨n, hn⟩ := HB.out; rw [hn]; exact pw_below_drewN (Below.refl _ _) n⟩

theorem far_int {w : World} {A : Option Addr} {n g : Nat} {xs : List Int} (h : (Kd.int .i64).C w A n xs) (hg : w.heap.size ≤ g) : ∀ ad, A = some ad → 0 < n → ad.block ≠ g := Kd.far_C (enc := Value.int .i64) (h1 := fun _ => rfl) (0 : Int) h hg

theorem keep_pred (gb g : Nat) (A : Option Addr) (c : Nat) (keep xs : List Int) (k : Nat) (hc : keep.length ≤ c) (hx : ∀ x ∈ xs, (slices_Contains_int_int.f k keep x).isSome = true) (h1 : gb ≠ g) (hA : ∀ ad, A = some ad → 0 < keep.length → ad.block ≠ g) :
  PredI 31 #[.pointer (some ⟨gb, 0, none⟩)] (fun x => (slices_Contains_int_int.f k keep x).getD false) xs g (fun W => W.heap[gb]? = some (.cells #[.slice A keep.length c] 26 (0, 0)) ∧ (Kd.int .i64).C W A keep.length keep) where
 grow := fun W W' h hb => ⟨blk_below h.1 hb, Kd.C_below h.2 hb⟩
 set := fun W j v h => ⟨(Below.heap_setCell W ⟨g, j, none⟩ v gb h1).trans h.1, Kd.C_keep (0 : Int) h.2 (KeepBut.set_ (KeepBut.refl W g none) j v) hA⟩
 call := fun W x hm h => by
  obtain ⟨l, hl⟩ := Option.isSome_iff_exists.1 (hx x hm)
  have := keep_fn gb A c keep k x l W hl hc h.1 h.2
  rw [hl]; exact this

def fill_T : Bool × List (List Nat × List Nat) := (true, [([], []), ([], []), ([1], [1]), ([], []), ([3], [3]), ([4], [4]), ([], []), ([], []), ([7], [7]), ([8], [8]), ([6, 9], [6, 9]), ([10], [10]), ([11], [11]), ([2, 5, 12, 10], [2, 5, 12]), ([0, 13, 13], [0, 13]), ([14, 14, 0, 1, 2, 3, 4, 5, 6, 7, 8, 9, 10, 11, 12, 13, 14], [14])])
def fill_B : List Nat := [0, 0, 2, 0, 8, 24, 0, 0, 128, 384, 960, 1984, 4032, 8190, 16383, 32767]
theorem fill_tab : rtab .any (opsOf Try.f8 6) = fill_T := by kernel_rfl
theorem fill_bits : waitsOk fill_T.2 fill_B = true := by kernel_rfl
set_option maxHeartbeats 4000000 in
set_option maxRecDepth 100000 in
theorem impl_FillDeadEnds.calls (k : Nat) (a0_0 : Int) (a0_1 : Int) (a0_2 : Int) (A1 : Option Addr) (c1 : Nat) (l1 : List Int) (r1 : Int) (r2 : Int) (r3 : Int) (w : World) (hr1 : Kd.C (Kd.int .i64) w A1 l1.length l1) (hc1 : l1.length ≤ c1) (h : impl_FillDeadEnds.f k a0_0 a0_1 a0_2 l1 = some (r1, r2, r3)) :
  Calls Try.prog 8 #[.agg #[.int .i64 a0_0, .int .i64 a0_1, .int .i64 a0_2], .slice A1 l1.length c1] w fun e w' => e = .returned (.agg #[.int .i64 r1, .int .i64 r2, .int .i64 r3]) ∧ Below w.heap.size w w' := by
 have hu31 := Try.underlying29
 unfold impl_FillDeadEnds.f at h
 obtain ⟨t, ht, h⟩ := Option.bind_eq_some_iff.1 h
 have HT := Aside0.mk ht
 have HR := Aside0.mk hr1
 clear ht hr1
 have HB := Aside0.mk (Below.refl w.heap.size w)
 have EG := Aside0.mk (show ∀ args w, (callFunc 31 args).run Try.prog w = .ok (.enter 31 args) w from enters_of Try.func31 (by kernel_rfl) rfl)
 cases t with
 | false =>
  rw [if_neg (by decide)] at h
  simp only [Option.some.injEq, Prod.mk.injEq] at h
  obtain ⟨rfl, rfl, rfl⟩ := h
  go_enter Try.func8, Try.ntmps8
  go_wp2_with (first | ((with_reducible refine gate_dst (N := 2) rfl ?_); refine box_event ?hg (N := 2) ?hd (cs := #[.int .i64 a0_0, .int .i64 a0_1, .int .i64 a0_2]) (t := 29) ?hr ?_; (case hd => rfl); (case hg => rfl); (case hr => first | (go_simp; done) | (go_simp; rfl)); intro gm hg w5 hbox hb; have BM := Aside0.mk hbox; have GM := Aside0.mk (show w.heap.size ≤ gm by rw [hg]; exact Nat.le_refl _); have HB1 := Aside0.mk (below_step HB.out hb); clear HB; have HB := HB1; clear HB1 hb hbox hg) | ((with_reducible refine gate_dst (N := 3) rfl ?_); refine box_event ?hg (N := 3) ?hd (cs := #[.slice A1 l1.length c1]) (t := 26) ?hr ?_; (case hd => rfl); (case hg => rfl); (case hr => first | (go_simp; done) | (go_simp; rfl)); intro gq hg w6 hbox hb; have BS := Aside0.mk hbox; have GS := Aside0.mk (show gm < gq by rw [hg]; exact blk_lt BM.out); have BM1 := Aside0.mk (blk_below BM.out hb); have HB1 := Aside0.mk (below_step HB.out hb); clear HB BM; have HB := HB1; have BM := BM1; clear HB1 BM1 hb hbox hg) | ((with_reducible refine gate_dst (N := 4) rfl ?_); refine box_event ?hg (N := 4) ?hd (cs := #[.int .i64 0, .int .i64 0, .int .i64 0]) (t := 29) ?hr ?_; (case hd => rfl); (case hg => rfl); (case hr => first | (go_simp; done) | (go_simp; rfl)); intro gr hg w7 hbox hb; have BR := Aside0.mk hbox; have GR := Aside0.mk (show gq < gr by rw [hg]; exact blk_lt BS.out); have BM1 := Aside0.mk (blk_below BM.out hb); have BS1 := Aside0.mk (blk_below BS.out hb); have HB1 := Aside0.mk (below_step HB.out hb); clear HB BM BS; have HB := HB1; have BM := BM1; have BS := BS1; clear HB1 BM1 BS1 hb hbox hg; have hk0 : w7.cell? ⟨gq, 0, none⟩ = some (.slice A1 l1.length c1) := (blk_cell BS.out 0).trans rfl; have hm0 : w7.cell? ⟨gm, 0, none⟩ = some (.int .i64 a0_0) := (blk_cell BM.out 0).trans rfl; have hm1_ : w7.cell? ⟨gm, 1, none⟩ = some (.int .i64 a0_1) := (blk_cell BM.out 1).trans rfl; have hm2_ : w7.cell? ⟨gm, 2, none⟩ = some (.int .i64 a0_2) := (blk_cell BM.out 2).trans rfl) | (go_at_call 29; (with_reducible refine (impl_isIn.calls a0_0 a0_1 a0_2 A1 c1 l1 false _ (Kd.C_below HR.out HB.out) hc1 HT.out).mono ?_); rintro e w8 ⟨rfl, hb⟩; have BM1 := Aside0.mk (blk_below BM.out hb); have BS1 := Aside0.mk (blk_below BS.out hb); have BR1 := Aside0.mk (blk_below BR.out hb); have HB1 := Aside0.mk (below_step HB.out hb); clear HB BM BS BR; have HB := HB1; have BM := BM1; have BS := BS1; have BR := BR1; clear HB1 BM1 BS1 BR1 hb; have hn0 : w8.cell? ⟨gm, 0, none⟩ = some (.int .i64 a0_0) := (blk_cell BM.out 0).trans rfl; have hn1_ : w8.cell? ⟨gm, 1, none⟩ = some (.int .i64 a0_1) := (blk_cell BM.out 1).trans rfl; have hn2_ : w8.cell? ⟨gm, 2, none⟩ = some (.int .i64 a0_2) := (blk_cell BM.out 2).trans rfl; have hr0 : w8.cell? ⟨gr, 0, none⟩ = some (.int .i64 0) := (blk_cell BR.out 0).trans rfl; have hr1_ : w8.cell? ⟨gr, 1, none⟩ = some (.int .i64 0) := (blk_cell BR.out 1).trans rfl; have hr2_ : w8.cell? ⟨gr, 2, none⟩ = some (.int .i64 0) := (blk_cell BR.out 2).trans rfl; have hf0 := blk_frozen BR.out 0; have hf1_ := blk_frozen BR.out 1; have hf2_ := blk_frozen BR.out 2))
  refine bodyPost_ret (results_cell_row rfl _ _ gr 29 #[.int .i64 a0_0, .int .i64 a0_1, .int .i64 a0_2] (0, 0) _ rfl (blk_put (cs := #[.int .i64 a0_0, .int .i64 a0_1, .int .i64 0]) (blk_put (cs := #[.int .i64 a0_0, .int .i64 0, .int .i64 0]) (blk_put (cs := #[.int .i64 0, .int .i64 0, .int .i64 0]) BR.out 0 _ rfl) 1 _ rfl) 2 _ rfl) Try.underlying29 rfl (by kernel_rfl)) rfl ?_
  have hg : w.heap.size ≤ gr := by have := GM.out; have := GS.out; have := GR.out; omega
  exact ⟨rfl, below_set (below_set (below_set HB.out hg) hg) hg⟩
 | true =>
  rw [if_pos rfl] at h
  have HG := Aside0.mk h
  clear h
  go_enter Try.func8, Try.ntmps8
  go_wp2_with (first | ((with_reducible refine gate_dst (N := 2) rfl ?_); refine box_event ?hg (N := 2) ?hd (cs := #[.int .i64 a0_0, .int .i64 a0_1, .int .i64 a0_2]) (t := 29) ?hr ?_; (case hd => rfl); (case hg => rfl); (case hr => first | (go_simp; done) | (go_simp; rfl)); intro gm hg w5 hbox hb; have BM := Aside0.mk hbox; have GM := Aside0.mk (show w.heap.size ≤ gm by rw [hg]; exact Nat.le_refl _); have HB1 := Aside0.mk (below_step HB.out hb); clear HB; have HB := HB1; clear HB1 hb hbox hg) | ((with_reducible refine gate_dst (N := 3) rfl ?_); refine box_event ?hg (N := 3) ?hd (cs := #[.slice A1 l1.length c1]) (t := 26) ?hr ?_; (case hd => rfl); (case hg => rfl); (case hr => first | (go_simp; done) | (go_simp; rfl)); intro gq hg w6 hbox hb; have BS := Aside0.mk hbox; have GS := Aside0.mk (show gm < gq by rw [hg]; exact blk_lt BM.out); have BM1 := Aside0.mk (blk_below BM.out hb); have HB1 := Aside0.mk (below_step HB.out hb); clear HB BM; have HB := HB1; have BM := BM1; clear HB1 BM1 hb hbox hg) | ((with_reducible refine gate_dst (N := 4) rfl ?_); refine box_event ?hg (N := 4) ?hd (cs := #[.int .i64 0, .int .i64 0, .int .i64 0]) (t := 29) ?hr ?_; (case hd => rfl); (case hg => rfl); (case hr => first | (go_simp; done) | (go_simp; rfl)); intro gr hg w7 hbox hb; have BR := Aside0.mk hbox; have GR := Aside0.mk (show gq < gr by rw [hg]; exact blk_lt BS.out); have BM1 := Aside0.mk (blk_below BM.out hb); have BS1 := Aside0.mk (blk_below BS.out hb); have HB1 := Aside0.mk (below_step HB.out hb); clear HB BM BS; have HB := HB1; have BM := BM1; have BS := BS1; clear HB1 BM1 BS1 hb hbox hg; have hk0 : w7.cell? ⟨gq, 0, none⟩ = some (.slice A1 l1.length c1) := (blk_cell BS.out 0).trans rfl; have hm0 : w7.cell? ⟨gm, 0, none⟩ = some (.int .i64 a0_0) := (blk_cell BM.out 0).trans rfl; have hm1_ : w7.cell? ⟨gm, 1, none⟩ = some (.int .i64 a0_1) := (blk_cell BM.out 1).trans rfl; have hm2_ : w7.cell? ⟨gm, 2, none⟩ = some (.int .i64 a0_2) := (blk_cell BM.out 2).trans rfl) | (go_at_call 29; (with_reducible refine (impl_isIn.calls a0_0 a0_1 a0_2 A1 c1 l1 true _ (Kd.C_below HR.out HB.out) hc1 HT.out).mono ?_); rintro e w8 ⟨rfl, hb⟩; have BM1 := Aside0.mk (blk_below BM.out hb); have BS1 := Aside0.mk (blk_below BS.out hb); have BR1 := Aside0.mk (blk_below BR.out hb); have HB1 := Aside0.mk (below_step HB.out hb); clear HB BM BS BR; have HB := HB1; have BM := BM1; have BS := BS1; have BR := BR1; clear HB1 BM1 BS1 BR1 hb; have hn0 : w8.cell? ⟨gm, 0, none⟩ = some (.int .i64 a0_0) := (blk_cell BM.out 0).trans rfl; have hn1_ : w8.cell? ⟨gm, 1, none⟩ = some (.int .i64 a0_1) := (blk_cell BM.out 1).trans rfl; have hn2_ : w8.cell? ⟨gm, 2, none⟩ = some (.int .i64 a0_2) := (blk_cell BM.out 2).trans rfl; have hr0 : w8.cell? ⟨gr, 0, none⟩ = some (.int .i64 0) := (blk_cell BR.out 0).trans rfl; have hr1_ : w8.cell? ⟨gr, 1, none⟩ = some (.int .i64 0) := (blk_cell BR.out 1).trans rfl; have hr2_ : w8.cell? ⟨gr, 2, none⟩ = some (.int .i64 0) := (blk_cell BR.out 2).trans rfl; have hf0 := blk_frozen BR.out 0; have hf1_ := blk_frozen BR.out 1; have hf2_ := blk_frozen BR.out 2))
  go_loopg [5] k (fun kq _ wr => ∃ (a b c : Int), Aside0 (fill_go l1 kq a b c = some (r1, r2, r3)) ∧ Aside0 (kq ≤ k) ∧ Aside0 (wr.heap[gm]? = some (.cells #[.int .i64 a, .int .i64 b, .int .i64 c] 29 (0, 0))) ∧ Aside0 (wr.heap[gq]? = some (.cells #[.slice A1 l1.length c1] 26 (0, 0))) ∧ Aside0 (wr.heap[gr]? = some (.cells #[.int .i64 0, .int .i64 0, .int .i64 0] 29 (0, 0))) ∧ Aside0 ((Kd.int .i64).C wr A1 l1.length l1) ∧ Aside0 (Below w.heap.size w wr))
  case atStart => exact ⟨a0_0, a0_1, a0_2, HG, ⟨Nat.le_refl _⟩, BM, BS, BR, ⟨Kd.C_below HR.out HB.out⟩, HB⟩
  case round =>
   clear HG HB BM BS BR
   obtain ⟨a, b, c, HG, HK, BM, BS, BR, HC, HB⟩ := hrel
   cases gk with
   | zero => exact absurd HG.out (by simp [fill_go])
   | succ k1 =>
    have h := HG.out
    clear HG
    rw [fill_go] at h
    obtain ⟨ds, hds, h⟩ := Option.bind_eq_some_iff.1 h
    have HD := Aside0.mk hds
    clear hds
    by_cases hall : (ds.all fun x => (slices_Contains_int_int.f k1 l1 x).isSome) = true
    ·rw [if_pos hall] at h
     have HA2 := Aside0.mk (List.all_eq_true.1 hall)
     clear hall
     obtain ⟨es, hes⟩ : ∃ es, es = ds.filter fun x => !((slices_Contains_int_int.f k1 l1 x).getD false) := ⟨_, rfl⟩
     rw [← hes] at h
     have HE := Aside0.mk hes
     clear hes
     have hm0 : wr.cell? ⟨gm, 0, none⟩ = some (.int .i64 a) := (blk_cell BM.out 0).trans rfl
     have hm1_ : wr.cell? ⟨gm, 1, none⟩ = some (.int .i64 b) := (blk_cell BM.out 1).trans rfl
     have hm2_ : wr.cell? ⟨gm, 2, none⟩ = some (.int .i64 c) := (blk_cell BM.out 2).trans rfl
     have hs0 : wr.cell? ⟨gq, 0, none⟩ = some (.slice A1 l1.length c1) := (blk_cell BS.out 0).trans rfl
     by_cases hz : es.length = 0
     ·rw [if_pos hz] at h
      simp only [Option.some.injEq, Prod.mk.injEq] at h
      obtain ⟨rfl, rfl, rfl⟩ := h
      have hez : ((es.length : Int) == 0) = true := by simpa using hz
      clear hz
      go_wp2_with (first | (go_at_call 16; (with_reducible refine (impl_DeadEnds.calls k1 a b c ds _ HD.out).mono ?_); rintro e w8 ⟨v8, rfl, ho, hb⟩; have HO := Aside0.mk ho; have HB8 := Aside0.mk hb; have hs1_ : w8.cell? ⟨gq, 0, none⟩ = some (.slice A1 l1.length c1) := (blk_cell (blk_below BS.out hb) 0).trans rfl; clear ho hb) | (go_at_call 30; (with_reducible refine (delete_row 31 #[.pointer (some ⟨gq, 0, none⟩)] (fun x => (slices_Contains_int_int.f k1 l1 x).getD false) EG.out v8 ds _ _ wr _ (fun g hg => keep_pred gq g A1 c1 l1 ds k1 hc1 HA2.out (by have := Kd.R_base HO.out g hg; have := blk_lt BS.out; omega) (far_int HC.out (Kd.R_base HO.out g hg))) ⟨blk_below BS.out HB8.out, Kd.C_below HC.out HB8.out⟩ HB8.out HO.out).mono ?_); rintro e w9 ⟨v9, rfl, h9_, hb⟩; have h9 : Kd.R (Kd.int .i64) 3 w9 wr.heap.size (fun _ => True) v9 es := (by rw [HE.out]; exact h9_); clear h9_; obtain ⟨A9, c9, e9⟩ := Kd.R_slice h9; subst e9; have BM1 := Aside0.mk (blk_below BM.out hb); have BS1 := Aside0.mk (blk_below BS.out hb); have BR1 := Aside0.mk (blk_below BR.out hb); have HC1 := Aside0.mk (Kd.C_below HC.out hb); have HB1 := Aside0.mk (below_step HB.out hb); clear HB BM BS BR HC; have HB := HB1; have BM := BM1; have BS := BS1; have BR := BR1; have HC := HC1; clear HB1 BM1 BS1 BR1 HC1; clear HB8 HO; have H9 := Aside0.mk (Kd.R_reads' h9).2.2; have L9 := Aside0.mk (Kd.R_lt h9); clear h9 hb; have hx0 : w9.cell? ⟨gm, 0, none⟩ = some (.int .i64 a) := (blk_cell BM.out 0).trans rfl; have hx1_ : w9.cell? ⟨gm, 1, none⟩ = some (.int .i64 b) := (blk_cell BM.out 1).trans rfl; have hx2_ : w9.cell? ⟨gm, 2, none⟩ = some (.int .i64 c) := (blk_cell BM.out 2).trans rfl; have hr0 : w9.cell? ⟨gr, 0, none⟩ = some (.int .i64 0) := (blk_cell BR.out 0).trans rfl; have hr1_ : w9.cell? ⟨gr, 1, none⟩ = some (.int .i64 0) := (blk_cell BR.out 1).trans rfl; have hr2_ : w9.cell? ⟨gr, 2, none⟩ = some (.int .i64 0) := (blk_cell BR.out 2).trans rfl; have hf0 := blk_frozen BR.out 0; have hf1_ := blk_frozen BR.out 1; have hf2_ := blk_frozen BR.out 2))
      refine bodyPost_ret (results_cell_row rfl _ _ gr 29 #[.int .i64 a, .int .i64 b, .int .i64 c] (0, 0) _ rfl (blk_put (cs := #[.int .i64 a, .int .i64 b, .int .i64 0]) (blk_put (cs := #[.int .i64 a, .int .i64 0, .int .i64 0]) (blk_put (cs := #[.int .i64 0, .int .i64 0, .int .i64 0]) BR.out 0 _ rfl) 1 _ rfl) 2 _ rfl) Try.underlying29 rfl (by kernel_rfl)) rfl ?_
      have hg : w.heap.size ≤ gr := by have := GM.out; have := GS.out; have := GR.out; omega
      exact ⟨rfl, below_set (below_set (below_set HB.out hg) hg) hg⟩
     ·rw [if_neg hz] at h
      obtain ⟨y, hy, h⟩ := Option.bind_eq_some_iff.1 h
      have HY := Aside0.mk hy
      clear hy
      by_cases hyl : 0 < y.length
      ·rw [if_pos hyl] at h
       obtain ⟨g, hg, h⟩ := Option.bind_eq_some_iff.1 h
       have HP := Aside0.mk hg
       clear hg
       obtain ⟨⟨m1, m2, m3⟩, hm, h⟩ := Option.bind_eq_some_iff.1 h
       have HM := Aside0.mk hm
       have HN := Aside0.mk h
       clear hm h
       have hez : ((es.length : Int) == 0) = false := by simpa using hz
       have hlt0 : (0 : Int) < (es.length : Int) := by omega
       have hylt : (0 : Int) < (y.length : Int) := by omega
       have hnl0 : 0 < es.length := by omega
       clear hz
       go_wp2_with (first | (go_at_call 16; (with_reducible refine (impl_DeadEnds.calls k1 a b c ds _ HD.out).mono ?_); rintro e w8 ⟨v8, rfl, ho, hb⟩; have HO := Aside0.mk ho; have HB8 := Aside0.mk hb; have hs1_ : w8.cell? ⟨gq, 0, none⟩ = some (.slice A1 l1.length c1) := (blk_cell (blk_below BS.out hb) 0).trans rfl; clear ho hb) | (go_at_call 30; (with_reducible refine (delete_row 31 #[.pointer (some ⟨gq, 0, none⟩)] (fun x => (slices_Contains_int_int.f k1 l1 x).getD false) EG.out v8 ds _ _ wr _ (fun g hg => keep_pred gq g A1 c1 l1 ds k1 hc1 HA2.out (by have := Kd.R_base HO.out g hg; have := blk_lt BS.out; omega) (far_int HC.out (Kd.R_base HO.out g hg))) ⟨blk_below BS.out HB8.out, Kd.C_below HC.out HB8.out⟩ HB8.out HO.out).mono ?_); rintro e w9 ⟨v9, rfl, h9_, hb⟩; have h9 : Kd.R (Kd.int .i64) 3 w9 wr.heap.size (fun _ => True) v9 es := (by rw [HE.out]; exact h9_); clear h9_; obtain ⟨A9, c9, e9⟩ := Kd.R_slice h9; subst e9; have BM1 := Aside0.mk (blk_below BM.out hb); have BS1 := Aside0.mk (blk_below BS.out hb); have BR1 := Aside0.mk (blk_below BR.out hb); have HC1 := Aside0.mk (Kd.C_below HC.out hb); have HB1 := Aside0.mk (below_step HB.out hb); clear HB BM BS BR HC; have HB := HB1; have BM := BM1; have BS := BS1; have BR := BR1; have HC := HC1; clear HB1 BM1 BS1 BR1 HC1; clear HB8 HO; obtain ⟨ad9, ea9, hc9⟩ := Kd.at_int (Kd.R_reads' h9).2.2 0 (Int.le_refl _) hlt0; subst ea9; have hE0 : w9.cell? ad9 = some (.int .i64 (rd es 0)) := (by (try rw [show ((0 : Int)).toNat = 0 from rfl] at hc9); (try rw [Addr.add_zero'] at hc9); exact hc9); clear hc9; have L9 := Aside0.mk (Kd.R_lt h9); clear h9 hb; have hx0 : w9.cell? ⟨gm, 0, none⟩ = some (.int .i64 a) := (blk_cell BM.out 0).trans rfl; have hx1_ : w9.cell? ⟨gm, 1, none⟩ = some (.int .i64 b) := (blk_cell BM.out 1).trans rfl; have hx2_ : w9.cell? ⟨gm, 2, none⟩ = some (.int .i64 c) := (blk_cell BM.out 2).trans rfl))
       have qe := eq_true hlt0
       have qn := eq_true hnl0
       have qy := eq_true hylt
       have hyl0 : 0 < y.length := hyl
       have qyn := eq_true hyl0
       try go_wp2
       have BM1 := Aside0.mk (blk_drew BM.out)
       have BS1 := Aside0.mk (blk_drew BS.out)
       have BR1 := Aside0.mk (blk_drew BR.out)
       have HB1 := Aside0.mk (below_drew1 HB.out)
       have hE1 : w9.drew.cell? ad9 = some (.int .i64 (rd es 0)) := hE0
       clear HB BM BS BR
       have HB := HB1
       have BM := BM1
       have BS := BS1
       have BR := BR1
       clear HB1 BM1 BS1 BR1
       refine start_ (n := 16) (S := fun w' => w'.cell? ⟨gm, 0, none⟩ = some (.int .i64 a) ∧ w'.cell? ⟨gm, 1, none⟩ = some (.int .i64 b) ∧ w'.cell? ⟨gm, 2, none⟩ = some (.int .i64 c) ∧ w'.cell? ad9 = some (.int .i64 (rd es 0))) (ds := [15]) #[false, false, false, false, false, false, false, false, false, false, false, false, false, false, false, false] (by kernel_rfl) rfl rfl ⟨(blk_cell BM.out 0).trans rfl, (blk_cell BM.out 1).trans rfl, (blk_cell BM.out 2).trans rfl, hE1⟩ (fun hHeld => ?_)
       refine with_tabW fill_tab fill_bits (fun HT_ HW_ => ?_)
       generalize w9.drew = w10 at BM BS BR HB hHeld ⊢
       refine pure_ (i := 1) (N := some 20) (v := ?_) (a' := ?_) #[false, true, false, false, false, false, false, false, false, false, false, false, false, false, false, false] rfl rfl (any_of HT_.out (by kernel_rfl)) (fun _ _ _ h => h) (Or.inl ⟨by rfl, ?_⟩) ?_ ?_
       rotate_left
       ·intro w'
        go_simp
        with_reducible rfl
       rotate_left
       ·simp only [Act.put, List.setIfInBounds_toArray, List.set_cons_zero, List.set_cons_succ, i64_w, i32_w]
        rfl
       refine pure_ (i := 3) (N := some 22) (v := ?_) (a' := ?_) #[false, true, false, true, false, false, false, false, false, false, false, false, false, false, false, false] rfl rfl (any_of HT_.out (by kernel_rfl)) (fun _ _ _ h => h) (Or.inl ⟨by rfl, ?_⟩) ?_ ?_
       rotate_left
       ·intro w'
        go_simp
        with_reducible rfl
       rotate_left
       ·simp only [Act.put, List.setIfInBounds_toArray, List.set_cons_zero, List.set_cons_succ, i64_w, i32_w]
        rfl
       refine pure_ (i := 4) (N := some 23) (v := ?_) (a' := ?_) #[false, true, false, true, true, false, false, false, false, false, false, false, false, false, false, false] rfl rfl (any_of HT_.out (by kernel_rfl)) (fun _ _ _ h => h) (Or.inl ⟨by rfl, ?_⟩) ?_ ?_
       rotate_left
       ·intro w'
        go_simp
        with_reducible rfl
       rotate_left
       ·simp only [Act.put, List.setIfInBounds_toArray, List.set_cons_zero, List.set_cons_succ, i64_w, i32_w]
        rfl
       refine pure_ (i := 7) (N := some 26) (v := ?_) (a' := ?_) #[false, true, false, true, true, false, false, true, false, false, false, false, false, false, false, false] rfl rfl (any_of HT_.out (by kernel_rfl)) (fun _ _ _ h => h) (Or.inl ⟨by rfl, ?_⟩) ?_ ?_
       rotate_left
       ·intro w'
        go_simp
        with_reducible rfl
       rotate_left
       ·simp only [Act.put, List.setIfInBounds_toArray, List.set_cons_zero, List.set_cons_succ, i64_w, i32_w]
        rfl
       refine pure_ (i := 8) (N := some 27) (v := ?_) (a' := ?_) #[false, true, false, true, true, false, false, true, true, false, false, false, false, false, false, false] rfl rfl (any_of HT_.out (by kernel_rfl)) (fun _ _ _ h => h) (Or.inl ⟨by rfl, ?_⟩) ?_ ?_
       rotate_left
       ·intro w'
        go_simp
        with_reducible rfl
       rotate_left
       ·simp only [Act.put, List.setIfInBounds_toArray, List.set_cons_zero, List.set_cons_succ, i64_w, i32_w]
        rfl
       refine take_ (i := 0) (N := some 19) (v := ?_) (a' := ?_) #[true, true, false, true, true, false, false, true, true, false, false, false, false, false, false, false] rfl rfl (take_ofW HT_.out HW_.out (by kernel_rfl)) (fun _ _ _ h => h) (Or.inl ⟨by rfl, ?_⟩) hHeld ?_ ?_
       rotate_left
       ·rintro w' ⟨s0, s1, s2, s3⟩
        go_simp
        with_reducible rfl
       rotate_left
       ·simp only [Act.put, List.setIfInBounds_toArray, List.set_cons_zero, List.set_cons_succ, i64_w, i32_w]
        rfl
       refine take_ (i := 2) (N := some 21) (v := ?_) (a' := ?_) #[true, true, true, true, true, false, false, true, true, false, false, false, false, false, false, false] rfl rfl (take_ofW HT_.out HW_.out (by kernel_rfl)) (fun _ _ _ h => h) (Or.inl ⟨by rfl, ?_⟩) hHeld ?_ ?_
       rotate_left
       ·rintro w' ⟨s0, s1, s2, s3⟩
        go_simp
        with_reducible rfl
       rotate_left
       ·simp only [Act.put, List.setIfInBounds_toArray, List.set_cons_zero, List.set_cons_succ, i64_w, i32_w]
        rfl
       refine take_ (i := 5) (N := some 24) (v := ?_) (a' := ?_) #[true, true, true, true, true, true, false, true, true, false, false, false, false, false, false, false] rfl rfl (take_ofW HT_.out HW_.out (by kernel_rfl)) (fun _ _ _ h => h) (Or.inl ⟨by rfl, ?_⟩) hHeld ?_ ?_
       rotate_left
       ·rintro w' ⟨s0, s1, s2, s3⟩
        go_simp
        with_reducible rfl
       rotate_left
       ·simp only [Act.put, List.setIfInBounds_toArray, List.set_cons_zero, List.set_cons_succ, i64_w, i32_w]
        rfl
       refine take_ (i := 6) (N := some 25) (v := ?_) (a' := ?_) #[true, true, true, true, true, true, true, true, true, false, false, false, false, false, false, false] rfl rfl (take_ofW HT_.out HW_.out (by kernel_rfl)) (fun _ _ _ h => h) (Or.inl ⟨by rfl, ?_⟩) hHeld ?_ ?_
       rotate_left
       ·rintro w' ⟨s0, s1, s2, s3⟩
        go_simp
        with_reducible rfl
       rotate_left
       ·simp only [Act.put, List.setIfInBounds_toArray, List.set_cons_zero, List.set_cons_succ, i64_w, i32_w]
        rfl
       refine take_ (i := 9) (N := some 28) (v := ?_) (a' := ?_) #[true, true, true, true, true, true, true, true, true, true, false, false, false, false, false, false] rfl rfl (take_ofW HT_.out HW_.out (by kernel_rfl)) (fun _ _ _ h => h) (Or.inl ⟨by rfl, ?_⟩) hHeld ?_ ?_
       rotate_left
       ·rintro w' ⟨s0, s1, s2, s3⟩
        go_simp
        with_reducible rfl
       rotate_left
       ·simp only [Act.put, List.setIfInBounds_toArray, List.set_cons_zero, List.set_cons_succ, i64_w, i32_w]
        rfl
       refine one_ (i := 10) (N := some 29) #[true, true, true, true, true, true, true, true, true, true, true, false, false, false, false, false] rfl rfl (one_of HT_.out (by kernel_rfl)) (by decide) (fun K hK => ?_)
       refine goes_ Try.func35 (by kernel_rfl) rfl #[.agg #[.int .i64 a, .int .i64 b, .int .i64 c], .int .i64 (rd es 0)] (by rfl) rfl rfl mp_ ?_
       with_reducible refine (impl_WaysFrom.calls k1 a b c (rd es 0) y _ HY.out).mono ?_
       rintro e w11 ⟨v11, rfl, ho, hb⟩
       have HS3 := (hb.cell (World.block_lt_of_cell? _ _ (hHeld.2.2.2))).trans (hHeld.2.2.2)
       refine ⟨_, rfl, ?_⟩
       obtain ⟨A11, c11, e11⟩ := Kd.R_slice ho
       subst e11
       obtain ⟨ad11, ea11, hy11⟩ := Kd.at_int (Kd.R_reads' ho).2.2 0 (Int.le_refl _) hylt
       subst ea11
       (try rw [show ((0 : Int)).toNat = 0 from rfl] at hy11)
       (try rw [Addr.add_zero'] at hy11)
       have BM1 := Aside0.mk (blk_below BM.out hb)
       have BS1 := Aside0.mk (blk_below BS.out hb)
       have BR1 := Aside0.mk (blk_below BR.out hb)
       have HB1 := Aside0.mk (below_step HB.out hb)
       clear HB BM BS BR
       have HB := HB1
       have BM := BM1
       have BS := BS1
       have BR := BR1
       clear HB1 BM1 BS1 BR1
       clear ho hb
       refine hK.out _ _ ⟨(blk_cell BM.out 0).trans rfl, (blk_cell BM.out 1).trans rfl, (blk_cell BM.out 2).trans rfl, HS3⟩ (fun hHeld => ?_)
       clear hK K
       refine norm_ (a' := ?_) ?_ ?_
       rotate_left
       ·show Act.put _ (some 29) _ = _
        simp only [Act.put, List.setIfInBounds_toArray, List.set_cons_zero, List.set_cons_succ, i64_w, i32_w]
        rfl
       refine pure_ (i := 11) (N := some 30) (v := ?_) (a' := ?_) #[true, true, true, true, true, true, true, true, true, true, true, true, false, false, false, false] rfl rfl (any_of HT_.out (by kernel_rfl)) (fun _ _ _ h => h) (Or.inl ⟨by rfl, ?_⟩) ?_ ?_
       rotate_left
       ·intro w'
        go_simp
        with_reducible rfl
       rotate_left
       ·simp only [Act.put, List.setIfInBounds_toArray, List.set_cons_zero, List.set_cons_succ, i64_w, i32_w]
        rfl
       refine one_ (i := 12) (N := some 31) #[true, true, true, true, true, true, true, true, true, true, true, true, true, false, false, false] rfl rfl (one_of HT_.out (by kernel_rfl)) (by decide) (fun K hK => ?_)
       refine value_ (w1 := ?_) (v := ?_) (by rfl) rfl ?_ ?_
       rotate_left 2
       ·go_simp
        constructor
        ·rfl
        ·rfl
       refine hK.out _ _ hHeld (fun hHeld => ?_)
       clear hK K
       refine norm_ (a' := ?_) ?_ ?_
       rotate_left
       ·show Act.put _ (some 31) _ = _
        simp only [Act.put, List.setIfInBounds_toArray, List.set_cons_zero, List.set_cons_succ, i64_w, i32_w]
        rfl
       refine one_ (i := 13) (N := some 32) #[true, true, true, true, true, true, true, true, true, true, true, true, true, true, false, false] rfl rfl (one_of HT_.out (by kernel_rfl)) (by decide) (fun K hK => ?_)
       refine goes_ Try.func34 (by kernel_rfl) rfl #[.agg #[.int .i64 a, .int .i64 b], .int .i64 (rd es 0), .int .i64 (rd y 0)] (by rfl) rfl rfl mp_ ?_
       with_reducible refine (impl_GapAt.calls k1 a b (rd es 0) (rd y 0) g _ HP.out).mono ?_
       rintro e w13 ⟨rfl, hb⟩
       have HS3 := (hb.cell (World.block_lt_of_cell? _ _ (hHeld.2.2.2))).trans (hHeld.2.2.2)
       refine ⟨_, rfl, ?_⟩
       have BM1 := Aside0.mk (blk_below BM.out hb)
       have BS1 := Aside0.mk (blk_below BS.out hb)
       have BR1 := Aside0.mk (blk_below BR.out hb)
       have HB1 := Aside0.mk (below_step HB.out hb)
       clear HB BM BS BR
       have HB := HB1
       have BM := BM1
       have BS := BS1
       have BR := BR1
       clear HB1 BM1 BS1 BR1
       clear hb
       refine hK.out _ _ ⟨(blk_cell BM.out 0).trans rfl, (blk_cell BM.out 1).trans rfl, (blk_cell BM.out 2).trans rfl, HS3⟩ (fun hHeld => ?_)
       clear hK K
       refine norm_ (a' := ?_) ?_ ?_
       rotate_left
       ·show Act.put _ (some 32) _ = _
        simp only [Act.put, List.setIfInBounds_toArray, List.set_cons_zero, List.set_cons_succ, i64_w, i32_w]
        rfl
       refine one_ (i := 14) (N := some 33) #[true, true, true, true, true, true, true, true, true, true, true, true, true, true, true, false] rfl rfl (one_of HT_.out (by kernel_rfl)) (by decide) (fun K hK => ?_)
       refine goes_ Try.func33 (by kernel_rfl) rfl #[.agg #[.int .i64 a, .int .i64 b, .int .i64 c], .int .i64 g, .bool false] (by rfl) rfl rfl mp_ ?_
       with_reducible refine (impl_with.calls a b c g false m1 m2 m3 _ HM.out).mono ?_
       rintro e w14 ⟨rfl, hb⟩
       have HS3 := (hb.cell (World.block_lt_of_cell? _ _ (hHeld.2.2.2))).trans (hHeld.2.2.2)
       refine ⟨_, rfl, ?_⟩
       have BM1 := Aside0.mk (blk_below BM.out hb)
       have BS1 := Aside0.mk (blk_below BS.out hb)
       have BR1 := Aside0.mk (blk_below BR.out hb)
       have HB1 := Aside0.mk (below_step HB.out hb)
       clear HB BM BS BR
       have HB := HB1
       have BM := BM1
       have BS := BS1
       have BR := BR1
       clear HB1 BM1 BS1 BR1
       clear hb
       refine hK.out _ _ ⟨(blk_cell BM.out 0).trans rfl, (blk_cell BM.out 1).trans rfl, (blk_cell BM.out 2).trans rfl, HS3⟩ (fun hHeld => ?_)
       clear hK K
       refine norm_ (a' := ?_) ?_ ?_
       rotate_left
       ·show Act.put _ (some 33) _ = _
        simp only [Act.put, List.setIfInBounds_toArray, List.set_cons_zero, List.set_cons_succ, i64_w, i32_w]
        rfl
       refine last_ (i := 15) (N := none) #[true, true, true, true, true, true, true, true, true, true, true, true, true, true, true, true] rfl rfl (one_of HT_.out (by kernel_rfl)) (by decide) (fun K hK => ?_)
       have hs0 : w14.cell? ⟨gm, 0, none⟩ = some (.int .i64 a) := (blk_cell BM.out 0).trans rfl
       have hf0 := blk_frozen BM.out 0
       have hs1 : w14.cell? ⟨gm, 1, none⟩ = some (.int .i64 b) := (blk_cell BM.out 1).trans rfl
       have hf1 := blk_frozen BM.out 1
       have hs2 : w14.cell? ⟨gm, 2, none⟩ = some (.int .i64 c) := (blk_cell BM.out 2).trans rfl
       have hf2 := blk_frozen BM.out 2
       refine skip_ (w1 := ?_) (by rfl) rfl ?_ ?_
       rotate_left
       ·go_simp
        rfl
       refine hK.out _ _ ?_
       clear hK K
       refine done_ (done_of HT_.out (by kernel_rfl)) ?_
       try go_wp2
       have hgm : w.heap.size ≤ gm := GM.out
       have HBF := Aside0.mk (below_set (v := .int .i64 m3) (j := 2) (below_set (v := .int .i64 m2) (j := 1) (below_set (v := .int .i64 m1) (j := 0) HB.out hgm) hgm) hgm)
       go_roundg k1
       case measure => have := HK.out; omega
       case rel => exact ⟨m1, m2, m3, HN, ⟨by have := HK.out; omega⟩, ⟨blk_put (cs := #[.int .i64 m1, .int .i64 m2, .int .i64 c]) (blk_put (cs := #[.int .i64 m1, .int .i64 b, .int .i64 c]) (blk_put (cs := #[.int .i64 a, .int .i64 b, .int .i64 c]) BM.out 0 _ rfl) 1 _ rfl) 2 _ rfl⟩, ⟨blk_far (blk_far (blk_far BS.out (show gq ≠ gm from Nat.ne_of_gt GS.out) _) (show gq ≠ gm from Nat.ne_of_gt GS.out) _) (show gq ≠ gm from Nat.ne_of_gt GS.out) _⟩, ⟨blk_far (blk_far (blk_far BR.out (show gr ≠ gm from Nat.ne_of_gt (Nat.lt_trans GS.out GR.out)) _) (show gr ≠ gm from Nat.ne_of_gt (Nat.lt_trans GS.out GR.out)) _) (show gr ≠ gm from Nat.ne_of_gt (Nat.lt_trans GS.out GR.out)) _⟩, ⟨Kd.C_below HR.out HBF.out⟩, HBF⟩
      ·rw [if_neg hyl] at h; cases h
    ·rw [if_neg hall] at h; cases h

end Go.Proofs.Ytkldibidhjonnaa.Q
