/- Plain Lean functions of Go functions, and for each the proof that its call comes to just that answer. Conditions: in each theorem's statement. -/
import Derived.Test.YtkbfknodibnkgaaQx0
import Derived.Test.YtkbfknodibnkgaaQx3
import Derived.Test.YtkbfknodibnkgaaQx4
import Derived.Test.YtkbfknodibnkgaaQx5
import Derived.Test.YtkbfknodibnkgaaQx23
import Derived.Test.YtkbfknodibnkgaaQx31
namespace Go.Proofs.Ytkbfknodibnkgaa.Q
open Go.RowKit Go.Proofs.YtkbfknodibnkgaaW.PrintWords Go.Proofs.YtkbfknodibnkgaaW.PrintLast
attribute [local go_sem] max2_int min2_int max_two min_two   -- for this text's walks alone
set_option linter.unusedVariables false
set_option linter.unusedSimpArgs false

/-! ### impl_WallParts: function 24 -/
theorem wp_rd_get (xs : List Int) (q : Nat) (h : q < xs.length) : xs[q]? = some (rd xs q) := by
 unfold rd
 rw [Int.toNat_natCast, List.getD_eq_getElem?_getD, List.getElem?_eq_getElem h]; rfl
theorem wp_take_rd (xs : List Int) (j : Nat) (h : j < xs.length) : xs.take (j + 1) = xs.take j ++ [rd xs j] := by
 rw [List.take_add_one, wp_rd_get xs j h]; rfl
theorem wp_own_cases {e : Nat} {w : World} {base : Nat} {ok : Nat → Prop} {v : Value} {xs : List Int} (h : Kd.R (Kd.int .i64) e w base ok v xs) :
  (v = .slice none 0 0 ∧ xs = []) ∨ ∃ (g cap : Nat) (cur : Array Value), v = .slice (some ⟨g, 0, none⟩) xs.length cap ∧ base ≤ g ∧ w.heap[g]? = some (.cells cur e (0, 0)) ∧ cur.size = cap ∧ xs.length ≤ cap ∧ cap ≤ 9223372036854775807 ∧ cur.toList.take xs.length = nums .i64 xs := by
 have ho := Kd.own_of_R h
 obtain ⟨h1, h2⟩ := ho
 rcases h2 with ⟨h2, h3⟩ | ⟨g, cap, cur, rfl, hg, hh, r1, r2, r3, r4⟩
 ·exact .inl ⟨h2, List.length_eq_zero_iff.1 h3⟩
 ·refine .inr ⟨g, cap, cur, rfl, hg, hh, by simpa using r3, r1, by simpa [maxLen] using r2, ?_⟩
  have := r4
  simpa [nums, encs] using this
theorem wp_own_block {e : Nat} {w : World} {base : Nat} {ok : Nat → Prop} {v : Value} {xs : List Int} (h : Kd.R (Kd.int .i64) e w base ok v xs) (hp : 0 < xs.length) :
  ∃ (g cap : Nat) (cur : Array Value), v = .slice (some ⟨g, 0, none⟩) xs.length cap ∧ base ≤ g ∧ w.heap[g]? = some (.cells cur e (0, 0)) ∧ cur.size = cap ∧ xs.length ≤ cap ∧ cap ≤ 9223372036854775807 ∧ cur.toList.take xs.length = nums .i64 xs := by
 rcases wp_own_cases h with ⟨_, rfl⟩ | h
 ·simp at hp
 ·exact h
theorem wp_wrap64_small (x : Int) (h0 : 0 ≤ x) (h1 : x ≤ 9223372036854775807) : wrap64 x = x := by unfold wrap64; omega

/-- Two classes become one: where the labels of a and b differ, b's label becomes a's and the count falls by one. -/
def joinS (s : List Int × Int) (a b : Int) : List Int × Int := if rd s.1 a = rd s.1 b then s else (s.1.map fun v => if v = rd s.1 b then rd s.1 a else v, wrap64 (s.2 - 1))
theorem joinS_len (s : List Int × Int) (a b : Int) : (joinS s a b).1.length = s.1.length := by unfold joinS; split <;> simp

/-- The labels and their count where the closure keeps them: gp holds the row's slice, gn the count, gr the row. -/
def PartsAt (gp gn gr cap : Nat) (s : List Int × Int) (w : World) : Prop :=
 w.heap[gp]? = some (.cells #[.slice (some ⟨gr, 0, none⟩) s.1.length cap] 26 (0, 0)) ∧ w.heap[gn]? = some (.cells #[.int .i64 s.2] 3 (0, 0)) ∧ ∃ cur : Array Value, w.heap[gr]? = some (.cells cur 3 (0, 0)) ∧ cur.size = cap ∧ cur.toList.take s.1.length = nums .i64 s.1
theorem PartsAt.below {gp gn gr cap : Nat} {s : List Int × Int} {w w' : World} (h : PartsAt gp gn gr cap s w) (hb : Below w.heap.size w w') : PartsAt gp gn gr cap s w' := by
 obtain ⟨h1, h2, cur, h3, h4, h5⟩ := h
 exact ⟨blk_below h1 hb, blk_below h2 hb, cur, blk_below h3 hb, h4, h5⟩

theorem take_at {cur : Array Value} {L : List Int} (h : cur.toList.take L.length = nums .i64 L) (q : Nat) (hq : q < L.length) : cur[q]? = some (.int .i64 (rd L q)) := by
 have e1 : cur[q]? = (cur.toList.take L.length)[q]? := by rw [List.getElem?_take, if_pos hq]; simp
 rw [e1, h]; simp [nums, wp_rd_get L q hq]

/-- The row while the labels are changed: the first i are done. -/
def MapInv (f : Int → Int) (L : List Int) (cur : Array Value) (i : Nat) : Prop := cur.toList.take L.length = nums .i64 ((L.take i).map f ++ L.drop i)
theorem MapInv.at {f : Int → Int} {L : List Int} {cur : Array Value} {i : Nat} (h : MapInv f L cur i) (hi : i < L.length) : cur[i]? = some (.int .i64 (rd L i)) := by
 have hl : ((L.take i).map f ++ L.drop i).length = L.length := by simp; omega
 unfold MapInv at h
 have e := take_at (L := (L.take i).map f ++ L.drop i) (cur := cur) (by rw [hl]; exact h) i (by rw [hl]; exact hi)
 rw [e]
 unfold rd
 rw [Int.toNat_natCast, List.getD_eq_getElem?_getD, List.getElem?_append_right (by simp; omega)]
 simp [List.length_take, Nat.min_eq_left (Nat.le_of_lt hi)]
theorem MapInv.same {f : Int → Int} {L : List Int} {cur : Array Value} {i : Nat} (h : MapInv f L cur i) (hi : i < L.length) (hf : f (rd L i) = rd L i) : MapInv f L cur (i + 1) := by
 unfold MapInv at h ⊢
 rw [h, wp_take_rd L i hi, List.map_append, List.map_cons, List.map_nil, hf, List.append_assoc]
 congr 2
 rw [List.drop_eq_getElem_cons hi]
 have : rd L i = L[i] := by have := wp_rd_get L i hi; rw [List.getElem?_eq_getElem hi] at this; exact (Option.some.inj this).symm
 rw [this]; rfl
theorem MapInv.put {f : Int → Int} {L : List Int} {cur : Array Value} {i : Nat} (h : MapInv f L cur i) (hi : i < L.length) (hs : L.length ≤ cur.size) (v : Int) (hf : f (rd L i) = v) : MapInv f L (cur.setIfInBounds i (.int .i64 v)) (i + 1) := by
 unfold MapInv at h ⊢
 rw [Array.toList_setIfInBounds, List.take_set, h, wp_take_rd L i hi, List.map_append, List.map_cons, List.map_nil, hf, List.append_assoc]
 unfold nums
 rw [← List.map_set]
 congr 1
 rw [List.set_append_right _ _ (by simp; omega)]
 congr 1
 simp only [List.length_map, List.length_take, Nat.min_eq_left (Nat.le_of_lt hi), Nat.sub_self]
 rw [List.drop_eq_getElem_cons hi]
 rfl

set_option maxHeartbeats 4000000 in
set_option maxRecDepth 100000 in
theorem join_fnm (gm : Nat) (cm : Array Value) (tm : Nat) (gp gn gr cap : Nat) (s : List Int × Int) (a b : Int) (w0 w : World) (ha0 : 0 ≤ a) (ha1 : a < (s.1.length : Int)) (hb0 : 0 ≤ b) (hb1 : b < (s.1.length : Int)) (h12 : gp ≠ gn) (h13 : gp ≠ gr) (h23 : gn ≠ gr) (hg1 : w0.heap.size ≤ gn) (hg2 : w0.heap.size ≤ gr) (hm1 : gm ≠ gn) (hm2 : gm ≠ gr) (hl : s.1.length ≤ cap) (hc : cap ≤ 9223372036854775807) (hI : PartsAt gp gn gr cap s w) (hM : w.heap[gm]? = some (.cells cm tm (0, 0))) (hB : Below w0.heap.size w0 w) :
  Calls Try.prog 48 #[.int .i64 a, .int .i64 b, .pointer (some ⟨gp, 0, none⟩), .pointer (some ⟨gn, 0, none⟩)] w fun e w' => e = .returned (.tuple #[]) ∧ PartsAt gp gn gr cap (joinS s a b) w' ∧ w'.heap[gm]? = some (.cells cm tm (0, 0)) ∧ Below w0.heap.size w0 w' := by
 obtain ⟨L, n⟩ := s
 obtain ⟨hp, hn, cur, hr, hs, ht⟩ := hI
 simp only at ha1 hb1 hl hp hn ht ⊢
 obtain ⟨i, rfl⟩ := Int.eq_ofNat_of_zero_le ha0
 obtain ⟨j, rfl⟩ := Int.eq_ofNat_of_zero_le hb0
 have hi : i < L.length := by omega
 have hj : j < L.length := by omega
 have hc0 : w.cell? ⟨gp, 0, none⟩ = some (.slice (some ⟨gr, 0, none⟩) L.length cap) := (blk_cell hp 0).trans rfl
 have hca : w.cell? ⟨gr, i, none⟩ = some (.int .i64 (rd L i)) := (blk_cell hr i).trans (take_at ht i hi)
 have hcb : w.cell? ⟨gr, j, none⟩ = some (.int .i64 (rd L j)) := (blk_cell hr j).trans (take_at ht j hj)
 have hcn : w.cell? ⟨gn, 0, none⟩ = some (.int .i64 n) := (blk_cell hn 0).trans rfl
 have hfn := blk_frozen hn 0
 have HP := Aside0.mk hp
 have HN := Aside0.mk hn
 have HR := Aside0.mk hr
 have HS := Aside0.mk hs
 have HT := Aside0.mk ht
 have HM0 := Aside0.mk hM
 have M1 := Aside0.mk hm1
 have M2 := Aside0.mk hm2
 have HB := Aside0.mk hB
 have H12 := Aside0.mk h12
 have H13 := Aside0.mk h13
 have H23 := Aside0.mk h23
 have HG1 := Aside0.mk hg1
 have HG2 := Aside0.mk hg2
 clear hp hn hr hs ht hM hm1 hm2 hB ha0 hb0 hg1 hg2
 have h21 := h12.symm
 obtain ⟨x, hx⟩ : ∃ x, x = rd L i := ⟨_, rfl⟩
 obtain ⟨y, hy⟩ : ∃ y, y = rd L j := ⟨_, rfl⟩
 rw [← hx] at hca
 rw [← hy] at hcb
 have HX := Aside0.mk hx
 have HY := Aside0.mk hy
 clear hx hy
 by_cases hxy : x = y
 ·have e : joinS (L, n) i j = (L, n) := by unfold joinS; rw [if_pos (by show rd L i = rd L j; rw [← HX.out, ← HY.out]; exact hxy)]
  rw [e]
  clear e
  have hz : (x == y) = true := by simpa using hxy
  clear hxy
  go_enter Try.func48, Try.ntmps48
  try go_wp2
  repeat (go_quiet (fail); try go_wp2)
  refine bodyPost_ret (results_list (rs := []) (vs := []) rfl (by decide) .nil) rfl ?_
  exact ⟨rfl, ⟨HP.out, HN.out, cur, HR.out, HS.out, HT.out⟩, HM0.out, pw_below_drewN HB.out nq⟩
 ·have e : joinS (L, n) i j = (L.map fun v => if v = y then x else v, wrap64 (n - 1)) := by unfold joinS; rw [if_neg (by show ¬ rd L i = rd L j; rw [← HX.out, ← HY.out]; exact hxy)]; simp only [HX.out, HY.out]
  rw [e]
  clear e
  have hz : (x == y) = false := by simpa using hxy
  clear hxy
  go_enter Try.func48, Try.ntmps48
  try go_wp2
  repeat (go_quiet (fail); try go_wp2)
  go_loopg [24] L.length (fun gg s24 wr => ∃ (k : Nat) (cu : Array Value), s24 = .int .i64 k ∧ k ≤ L.length ∧ L.length - k ≤ gg ∧ Aside0 (MapInv (fun v => if v = y then x else v) L cu k) ∧ Aside0 (cu.size = cap) ∧ Aside0 (wr.heap[gp]? = some (.cells #[.slice (some ⟨gr, 0, none⟩) L.length cap] 26 (0, 0))) ∧ Aside0 (wr.heap[gn]? = some (.cells #[.int .i64 (wrap64 (n - 1))] 3 (0, 0))) ∧ Aside0 (wr.heap[gr]? = some (.cells cu 3 (0, 0))) ∧ Aside0 (wr.heap[gm]? = some (.cells cm tm (0, 0))) ∧ Aside0 (Below w0.heap.size w0 wr))
  case atStart => exact ⟨0, cur, by go_num, by omega, by omega, ⟨by unfold MapInv; simpa using HT.out⟩, HS, ⟨blk_far (blk_drewN HP.out nq) h12 _⟩, ⟨blk_put (blk_drewN HN.out nq) 0 _ rfl⟩, ⟨blk_far (blk_drewN HR.out nq) H23.out.symm _⟩, ⟨blk_far (blk_drewN HM0.out nq) M1.out _⟩, ⟨below_set (pw_below_drewN HB.out nq) HG1.out⟩⟩
  case round =>
   clear HP HN HR HS HT HB HM0 hc0 hcn hfn
   obtain ⟨k, cu, rfl, hk, hgg, HM, HS, HP, HN, HR, HM0, HB⟩ := hrel
   have hc0 : wr.cell? ⟨gp, 0, none⟩ = some (.slice (some ⟨gr, 0, none⟩) L.length cap) := (blk_cell HP.out 0).trans rfl
   by_cases hlt : k < L.length
   ·have hltz : (k : Int) < (L.length : Int) := by omega
    have hck : wr.cell? ⟨gr, k, none⟩ = some (.int .i64 (rd L k)) := (blk_cell HR.out k).trans (HM.out.at hlt)
    have hfk := blk_frozen HR.out k
    obtain ⟨z, hzk⟩ : ∃ z, z = rd L k := ⟨_, rfl⟩
    rw [← hzk] at hck
    have HZ := Aside0.mk hzk
    clear hzk
    by_cases hzy : z = y
    ·have he : (z == y) = true := by simpa using hzy
     have HE := Aside0.mk hzy
     clear hzy
     go_wp2
     go_roundg (L.length - (k + 1))
     case measure => omega
     case rel =>
      have hsz : L.length ≤ cu.size := by have := HS.out; omega
      exact ⟨k + 1, _, by go_num, by omega, Nat.le_refl _, ⟨HM.out.put hlt hsz x (by rw [← HZ.out, if_pos HE.out])⟩, ⟨by rw [Array.size_setIfInBounds]; exact HS.out⟩, ⟨blk_far HP.out h13 _⟩, ⟨blk_far HN.out h23 _⟩, ⟨blk_set HR.out k _⟩, ⟨blk_far HM0.out M2.out _⟩, ⟨below_set HB.out HG2.out⟩⟩
    ·have he : (z == y) = false := by simpa using hzy
     have HE := Aside0.mk hzy
     clear hzy
     go_wp2
     go_roundg (L.length - (k + 1))
     case measure => omega
     case rel => exact ⟨k + 1, cu, by go_num, by omega, Nat.le_refl _, ⟨HM.out.same hlt (by rw [← HZ.out, if_neg HE.out])⟩, HS, HP, HN, HR, HM0, HB⟩
   ·obtain rfl : k = L.length := by omega
    have hltz : ¬ (L.length : Int) < (L.length : Int) := by omega
    have hml : (L.map fun v => if v = y then x else v).length = L.length := by simp
    go_wp2
    refine bodyPost_end (results_list (rs := []) (vs := []) rfl (by decide) .nil) rfl ?_
    refine ⟨rfl, ⟨?_, HN.out, cu, HR.out, HS.out, ?_⟩, HM0.out, HB.out⟩
    ·rw [hml]; exact HP.out
    ·rw [hml]
     have := HM.out
     unfold MapInv at this
     simpa using this

def wall_l0 (a b : Int) : Nat → Int → List Int × Int → Option (List Int × Int)
 | 0, _, _ => none
 | k + 1, x, s => if x < (s.1.length : Int) then (impl_IsEdgeCorner.f a b x).bind fun t => if t = true then wall_l0 a b k (wrap64 (x + 1)) (joinS s 0 x) else wall_l0 a b k (wrap64 (x + 1)) s else some s
theorem wall_l0_mono (a b : Int) : ∀ k x s, LeO (wall_l0 a b k x s) (wall_l0 a b (k + 1) x s)
 | 0, _, _ => LeO.none _
 | k + 1, x, s => by
  rw [wall_l0, wall_l0]
  exact LeO.ite (LeO.bind (LeO.refl _) (fun _ => LeO.ite (wall_l0_mono a b k _ _) (wall_l0_mono a b k _ _))) (LeO.refl _)
def wall_l1 (a b c : Int) : Nat → Int → List Int × Int → Option Int
 | 0, _, _ => none
 | k + 1, x, s => (impl_CountGaps.f a b).bind fun n => if x < n then (impl_isOpen.f a b c x).bind fun t => if t = true then wall_l1 a b c k (wrap64 (x + 1)) s else (impl_CornersOf.f a b x).bind fun p => if 0 ≤ p.1 ∧ p.1 < (s.1.length : Int) ∧ 0 ≤ p.2 ∧ p.2 < (s.1.length : Int) then wall_l1 a b c k (wrap64 (x + 1)) (joinS s p.1 p.2) else none else some s.2
theorem wall_l1_mono (a b c : Int) : ∀ k x s, LeO (wall_l1 a b c k x s) (wall_l1 a b c (k + 1) x s)
 | 0, _, _ => LeO.none _
 | k + 1, x, s => by
  rw [wall_l1, wall_l1]
  exact LeO.bind (LeO.refl _) (fun _ => LeO.ite (LeO.bind (LeO.refl _) (fun _ => LeO.ite (wall_l1_mono a b c k _ _) (LeO.bind (LeO.refl _) (fun _ => LeO.ite (wall_l1_mono a b c k _ _) (LeO.refl _))))) (LeO.refl _))
def impl_WallParts.f (k : Nat) (a0_0 : Int) (a0_1 : Int) (a0_2 : Int) : Option Int := (impl_MazeOk.f a0_0 a0_1 a0_2).bind fun t => if t = true then (impl_CountCorners.f a0_0 a0_1).bind fun n => (impl_upTo.f k n).bind fun l => if 0 < l.length then (wall_l0 a0_0 a0_1 k 0 (l, (l.length : Int))).bind fun s => wall_l1 a0_0 a0_1 a0_2 k 0 s else none else some 0
theorem impl_WallParts.mono : ∀ a0 a1 a2 k, LeO (impl_WallParts.f k a0 a1 a2) (impl_WallParts.f (k + 1) a0 a1 a2) := fun a0 a1 a2 k =>
 LeO.bind (LeO.refl _) (fun _ => LeO.ite (LeO.bind (LeO.refl _) (fun _ => LeO.bind (impl_upTo.mono _ k) (fun _ => LeO.ite (LeO.bind (wall_l0_mono a0 a1 k _ _) (fun _ => wall_l1_mono a0 a1 a2 k _ _)) (LeO.refl _)))) (LeO.refl _))

set_option maxHeartbeats 4000000 in
set_option maxRecDepth 100000 in
theorem impl_WallParts.calls (k : Nat) (a0_0 : Int) (a0_1 : Int) (a0_2 : Int) (r : Int) (w : World) (h : impl_WallParts.f k a0_0 a0_1 a0_2 = some r) :
  Calls Try.prog 24 #[.agg #[.int .i64 a0_0, .int .i64 a0_1, .int .i64 a0_2]] w fun e w' => e = .returned (.int .i64 r) ∧ Below w.heap.size w w' := by
 have hu31 := Try.underlying31
 unfold impl_WallParts.f at h
 obtain ⟨t, ht, h⟩ := Option.bind_eq_some_iff.1 h
 have HT := Aside0.mk ht
 clear ht
 have HB := Aside0.mk (Below.refl w.heap.size w)
 have EG := Aside0.mk (show ∀ args w, (callFunc 48 args).run Try.prog w = .ok (.enter 48 args) w from enters_of Try.func48 (by kernel_rfl) rfl)
 cases t with
 | false =>
  rw [if_neg (by decide)] at h
  obtain rfl := Option.some.inj h
  clear h
  go_enter Try.func24, Try.ntmps24
  go_wp2_with (first | ((with_reducible refine gate_dst (N := 1) rfl ?_); refine box_event ?hg (N := 1) ?hd (cs := #[.int .i64 a0_0, .int .i64 a0_1, .int .i64 a0_2]) (t := 31) ?hr ?_; (case hd => rfl); (case hg => rfl); (case hr => first | (go_simp; done) | (go_simp; rfl)); intro gm hg w1 hbox hb; have BM := Aside0.mk hbox; have GM := Aside0.mk (show w.heap.size ≤ gm by rw [hg]; exact Nat.le_refl _); have HB1 := Aside0.mk (below_step HB.out hb); clear HB; have HB := HB1; clear HB1 hb hbox hg; have hc0 : w1.cell? ⟨gm, 0, none⟩ = some (.int .i64 a0_0) := (blk_cell BM.out 0).trans rfl; have hc1_ : w1.cell? ⟨gm, 1, none⟩ = some (.int .i64 a0_1) := (blk_cell BM.out 1).trans rfl; have hc2_ : w1.cell? ⟨gm, 2, none⟩ = some (.int .i64 a0_2) := (blk_cell BM.out 2).trans rfl) | (go_at_call 46; (with_reducible refine (impl_MazeOk.calls a0_0 a0_1 a0_2 _ _ HT.out).mono ?_); rintro e w2 ⟨rfl, hb⟩; have BM1 := Aside0.mk (blk_below BM.out hb); have HB1 := Aside0.mk (below_step HB.out hb); clear HB BM; have HB := HB1; have BM := BM1; clear HB1 BM1; clear hb; have hd0 : w2.cell? ⟨gm, 0, none⟩ = some (.int .i64 a0_0) := (blk_cell BM.out 0).trans rfl; have hd1_ : w2.cell? ⟨gm, 1, none⟩ = some (.int .i64 a0_1) := (blk_cell BM.out 1).trans rfl; have hd2_ : w2.cell? ⟨gm, 2, none⟩ = some (.int .i64 a0_2) := (blk_cell BM.out 2).trans rfl))
  go_ret
  exact ⟨rfl, HB.out⟩
 | true =>
  rw [if_pos rfl] at h
  obtain ⟨n, hn, h⟩ := Option.bind_eq_some_iff.1 h
  obtain ⟨l, hl, h⟩ := Option.bind_eq_some_iff.1 h
  by_cases hp : 0 < l.length
  ·rw [if_pos hp] at h
   obtain ⟨s2, hs2, h⟩ := Option.bind_eq_some_iff.1 h
   have HN := Aside0.mk hn
   have HL := Aside0.mk hl
   have HP := Aside0.mk hp
   have HW0 := Aside0.mk hs2
   have HW1 := Aside0.mk h
   clear hn hl hp hs2 h
   go_enter Try.func24, Try.ntmps24
   go_wp2_with (first | ((with_reducible refine gate_dst (N := 1) rfl ?_); refine box_event ?hg (N := 1) ?hd (cs := #[.int .i64 a0_0, .int .i64 a0_1, .int .i64 a0_2]) (t := 31) ?hr ?_; (case hd => rfl); (case hg => rfl); (case hr => first | (go_simp; done) | (go_simp; rfl)); intro gm hg w1 hbox hb; have BM := Aside0.mk hbox; have GM := Aside0.mk (show w.heap.size ≤ gm by rw [hg]; exact Nat.le_refl _); have HB1 := Aside0.mk (below_step HB.out hb); clear HB; have HB := HB1; clear HB1 hb hbox hg; have hc0 : w1.cell? ⟨gm, 0, none⟩ = some (.int .i64 a0_0) := (blk_cell BM.out 0).trans rfl; have hc1_ : w1.cell? ⟨gm, 1, none⟩ = some (.int .i64 a0_1) := (blk_cell BM.out 1).trans rfl; have hc2_ : w1.cell? ⟨gm, 2, none⟩ = some (.int .i64 a0_2) := (blk_cell BM.out 2).trans rfl) | (go_at_call 46; (with_reducible refine (impl_MazeOk.calls a0_0 a0_1 a0_2 _ _ HT.out).mono ?_); rintro e w2 ⟨rfl, hb⟩; have BM1 := Aside0.mk (blk_below BM.out hb); have HB1 := Aside0.mk (below_step HB.out hb); clear HB BM; have HB := HB1; have BM := BM1; clear HB1 BM1; clear hb; have hd0 : w2.cell? ⟨gm, 0, none⟩ = some (.int .i64 a0_0) := (blk_cell BM.out 0).trans rfl; have hd1_ : w2.cell? ⟨gm, 1, none⟩ = some (.int .i64 a0_1) := (blk_cell BM.out 1).trans rfl; have hd2_ : w2.cell? ⟨gm, 2, none⟩ = some (.int .i64 a0_2) := (blk_cell BM.out 2).trans rfl) | (go_at_call 47; (with_reducible refine (impl_CountCorners.calls a0_0 a0_1 n _ HN.out).mono ?_); rintro e w3 ⟨rfl, hb⟩; have BM1 := Aside0.mk (blk_below BM.out hb); have HB1 := Aside0.mk (below_step HB.out hb); clear HB BM; have HB := HB1; have BM := BM1; clear HB1 BM1; clear hb) | (go_at_call 37; (with_reducible refine (impl_upTo.calls k n l _ HL.out).mono ?_); rintro e w4 ⟨v4, rfl, ho, hb⟩; obtain ⟨gr, cr, cu, rfl, hg1, hk1, hs1, hl1, hcc1, ht1⟩ := wp_own_block ho HP.out; have GR := Aside0.mk (show gm < gr by have := blk_lt BM.out; omega); have BM1 := Aside0.mk (blk_below BM.out hb); have HB1 := Aside0.mk (below_step HB.out hb); clear HB BM; have HB := HB1; have BM := BM1; clear HB1 BM1; have KR := Aside0.mk hk1; have RS := Aside0.mk hs1; have RL := Aside0.mk hl1; have RC := Aside0.mk hcc1; have RT := Aside0.mk ht1; clear hb ho hg1 hk1 hs1 hl1 hcc1 ht1) | ((with_reducible refine gate_dst (N := 3) rfl ?_); refine box_event ?hg (N := 3) ?hd (cs := #[.slice none 0 0]) (t := 26) ?hr ?_; (case hd => rfl); (case hg => rfl); (case hr => first | (go_simp; done) | (go_simp; rfl)); intro gp hg w5 hbox hb; have GP := Aside0.mk (show gr < gp by rw [hg]; exact blk_lt KR.out); have BP := Aside0.mk hbox; have KR1 := Aside0.mk (blk_below KR.out hb); have BM1 := Aside0.mk (blk_below BM.out hb); have HB1 := Aside0.mk (below_step HB.out hb); clear HB BM; have HB := HB1; have BM := BM1; clear HB1 BM1; clear KR; have KR := KR1; clear KR1 hb hbox hg; have hp0 : w5.cell? ⟨gp, 0, none⟩ = some (.slice none 0 0) := (blk_cell BP.out 0).trans rfl; have hpf := blk_frozen BP.out 0) | ((with_reducible refine gate_store (t := 26) (p := 3) rfl ?_); refine store_event (t := 26) (p := 3) (v := ?vo_w6) (w1 := (w5.setCell ⟨gp, 0, none⟩ (.slice (some ⟨gr, 0, none⟩) l.length cr))) ?hg ?ho ?hn ?hr ?_; (case ho => rfl); (case hg => rfl); (case hn => rfl); (case hr => first | (go_simp; done) | (go_simp; rfl)); intro w6 hw; have BP1 := Aside0.mk (show w6.heap[gp]? = some (.cells #[.slice (some ⟨gr, 0, none⟩) l.length cr] 26 (0, 0)) from by rw [hw]; exact blk_put BP.out 0 _ rfl); have KR1 := Aside0.mk (show w6.heap[gr]? = some (.cells cu 3 (0, 0)) from by rw [hw]; exact blk_far KR.out (by have := GP.out; show gr ≠ gp; omega) _); have BM1 := Aside0.mk (show w6.heap[gm]? = some (.cells #[.int .i64 a0_0, .int .i64 a0_1, .int .i64 a0_2] 31 (0, 0)) from by rw [hw]; exact blk_far BM.out (by have := GP.out; have := GR.out; show gm ≠ gp; omega) _); have HB1 := Aside0.mk (show Below w.heap.size w w6 from by rw [hw]; exact below_set HB.out (by have := GM.out; have := GP.out; have := GR.out; omega)); clear BP KR BM HB hp0 hpf hw; have BP := BP1; have KR := KR1; have BM := BM1; have HB := HB1; clear BP1 KR1 BM1 HB1; have hp0 : w6.cell? ⟨gp, 0, none⟩ = some (.slice (some ⟨gr, 0, none⟩) l.length cr) := (blk_cell BP.out 0).trans rfl) | ((with_reducible refine gate_dst (N := 4) rfl ?_); refine box_event ?hg (N := 4) ?hd (cs := #[.int .i64 0]) (t := 3) ?hr ?_; (case hd => rfl); (case hg => rfl); (case hr => first | (go_simp; done) | (go_simp; rfl)); intro gn hg w7 hbox hb; have GN := Aside0.mk (show gp < gn by rw [hg]; exact blk_lt BP.out); have BN := Aside0.mk hbox; have KR1 := Aside0.mk (blk_below KR.out hb); have BP1 := Aside0.mk (blk_below BP.out hb); have BM1 := Aside0.mk (blk_below BM.out hb); have HB1 := Aside0.mk (below_step HB.out hb); clear HB BM; have HB := HB1; have BM := BM1; clear HB1 BM1; clear KR BP hp0; have KR := KR1; have BP := BP1; clear KR1 BP1 hb hbox hg; have hn0 : w7.cell? ⟨gn, 0, none⟩ = some (.int .i64 0) := (blk_cell BN.out 0).trans rfl; have hnf := blk_frozen BN.out 0) | ((with_reducible refine gate_store (t := 3) (p := 4) rfl ?_); refine store_event (t := 3) (p := 4) (v := ?vo_w8) (w1 := (w7.setCell ⟨gn, 0, none⟩ (.int .i64 (l.length : Int)))) ?hg ?ho ?hn ?hr ?_; (case ho => rfl); (case hg => rfl); (case hn => rfl); (case hr => first | (go_simp; done) | (go_simp; rfl)); intro w8 hw; have BN1 := Aside0.mk (show w8.heap[gn]? = some (.cells #[.int .i64 (l.length : Int)] 3 (0, 0)) from by rw [hw]; exact blk_put BN.out 0 _ rfl); have BP1 := Aside0.mk (show w8.heap[gp]? = some (.cells #[.slice (some ⟨gr, 0, none⟩) l.length cr] 26 (0, 0)) from by rw [hw]; exact blk_far BP.out (by have := GN.out; show gp ≠ gn; omega) _); have KR1 := Aside0.mk (show w8.heap[gr]? = some (.cells cu 3 (0, 0)) from by rw [hw]; exact blk_far KR.out (by have := GN.out; have := GP.out; show gr ≠ gn; omega) _); have BM1 := Aside0.mk (show w8.heap[gm]? = some (.cells #[.int .i64 a0_0, .int .i64 a0_1, .int .i64 a0_2] 31 (0, 0)) from by rw [hw]; exact blk_far BM.out (by have := GN.out; have := GP.out; have := GR.out; show gm ≠ gn; omega) _); have HB1 := Aside0.mk (show Below w.heap.size w w8 from by rw [hw]; exact below_set HB.out (by have := GM.out; have := GN.out; have := GP.out; have := GR.out; omega)); clear BN BP KR BM HB hn0 hnf hw; have BN := BN1; have BP := BP1; have KR := KR1; have BM := BM1; have HB := HB1; clear BN1 BP1 KR1 BM1 HB1; have hp0 : w8.cell? ⟨gp, 0, none⟩ = some (.slice (some ⟨gr, 0, none⟩) l.length cr) := (blk_cell BP.out 0).trans rfl))
   try clear hc0 hc1_ hc2_
   try clear hd0 hd1_ hd2_
   try clear hp0
   go_loopg [20] k (fun kq s20 wr => ∃ (x : Int) (s : List Int × Int), s20 = .int .i64 x ∧ 0 ≤ x ∧ Aside0 (s.1.length = l.length) ∧ Aside0 (wall_l0 a0_0 a0_1 kq x s = some s2) ∧ Aside0 (wr.heap[gm]? = some (.cells #[.int .i64 a0_0, .int .i64 a0_1, .int .i64 a0_2] 31 (0, 0))) ∧ Aside0 (PartsAt gp gn gr cr s wr) ∧ Aside0 (Below w.heap.size w wr))
   case atStart => exact ⟨0, (l, (l.length : Int)), rfl, Int.le_refl _, ⟨rfl⟩, HW0, BM, ⟨⟨BP.out, BN.out, cu, KR.out, RS.out, RT.out⟩⟩, HB⟩
   case round =>
    clear HW0 BM BP BN KR HB RS RT
    obtain ⟨x, s, rfl, hx0, HSL, HW0, BM, HS, HB⟩ := hrel
    cases gk with
    | zero => exact absurd HW0.out (by simp [wall_l0])
    | succ k1 =>
     have h := HW0.out
     clear HW0
     rw [wall_l0, HSL.out] at h
     have hm0 : wr.cell? ⟨gm, 0, none⟩ = some (.int .i64 a0_0) := (blk_cell BM.out 0).trans rfl; have hm1_ : wr.cell? ⟨gm, 1, none⟩ = some (.int .i64 a0_1) := (blk_cell BM.out 1).trans rfl; have hm2_ : wr.cell? ⟨gm, 2, none⟩ = some (.int .i64 a0_2) := (blk_cell BM.out 2).trans rfl
     by_cases hx : x < (l.length : Int)
     ·rw [if_pos hx] at h
      obtain ⟨t, ht, h⟩ := Option.bind_eq_some_iff.1 h
      have HI := Aside0.mk ht
      clear ht
      have HX0 := Aside0.mk hx0
      have HX1 := Aside0.mk hx
      clear hx0
      cases t with
      | true =>
       rw [if_pos rfl] at h
       have HW0 := Aside0.mk h
       clear h
       go_wp2_with (first | (go_at_call 49; (with_reducible refine (impl_IsEdgeCorner.calls a0_0 a0_1 x _ _ HI.out).mono ?_); rintro e w9 ⟨rfl, hb⟩; have BM1 := Aside0.mk (blk_below BM.out hb); have HS1 := Aside0.mk (HS.out.below hb); have HB1 := Aside0.mk (below_step HB.out hb); clear HB BM HS; have HB := HB1; have BM := BM1; have HS := HS1; clear HB1 BM1 HS1; clear hb) | (go_at_call 48; (refine (join_fnm gm #[.int .i64 a0_0, .int .i64 a0_1, .int .i64 a0_2] 31 gp gn gr cr s 0 x w _ (Int.le_refl _) (by rw [HSL.out]; have := HP.out; omega) HX0.out (by rw [HSL.out]; exact HX1.out) (by have := GN.out; omega) (by have := GP.out; omega) (by have := GN.out; have := GP.out; omega) (by have := GM.out; have := GR.out; have := GN.out; have := GP.out; omega) (by have := GM.out; have := GR.out; omega) (by have := GN.out; have := GR.out; have := GP.out; omega) (by have := GR.out; omega) (by rw [HSL.out]; exact RL.out) RC.out HS.out BM.out HB.out).mono ?_); rintro e w10 ⟨rfl, hs, hm, hb⟩; have HS1 := Aside0.mk hs; have BM1 := Aside0.mk hm; have HB1 := Aside0.mk hb; clear HB BM HS hs hm hb; have HB := HB1; have BM := BM1; have HS := HS1; clear HB1 BM1 HS1))
       go_roundg k1
       case measure => omega
       case rel => exact ⟨wrap64 (x + 1), joinS s 0 x, by first | rfl | rw [i64_w], by have := HX0.out; have := HX1.out; have := RL.out; have := RC.out; rw [wp_wrap64_small _ (by omega) (by omega)]; omega, ⟨by rw [joinS_len]; exact HSL.out⟩, HW0, BM, HS, HB⟩
      | false =>
       rw [if_neg (by decide)] at h
       have HW0 := Aside0.mk h
       clear h
       go_wp2_with ((go_at_call 49; (with_reducible refine (impl_IsEdgeCorner.calls a0_0 a0_1 x _ _ HI.out).mono ?_); rintro e w9 ⟨rfl, hb⟩; have BM1 := Aside0.mk (blk_below BM.out hb); have HS1 := Aside0.mk (HS.out.below hb); have HB1 := Aside0.mk (below_step HB.out hb); clear HB BM HS; have HB := HB1; have BM := BM1; have HS := HS1; clear HB1 BM1 HS1; clear hb))
       go_roundg k1
       case measure => omega
       case rel => exact ⟨wrap64 (x + 1), s, by first | rfl | rw [i64_w], by have := HX0.out; have := HX1.out; have := RL.out; have := RC.out; rw [wp_wrap64_small _ (by omega) (by omega)]; omega, HSL, HW0, BM, HS, HB⟩
     ·rw [if_neg hx] at h
      obtain rfl := Option.some.inj h
      clear h hx0
      go_wp2
      try clear hm0 hm1_ hm2_
      go_loopg [7] k (fun kq s7 wr => ∃ (x : Int) (s : List Int × Int), s7 = .int .i64 x ∧ Aside0 (s.1.length = l.length) ∧ Aside0 (wall_l1 a0_0 a0_1 a0_2 kq x s = some r) ∧ Aside0 (wr.heap[gm]? = some (.cells #[.int .i64 a0_0, .int .i64 a0_1, .int .i64 a0_2] 31 (0, 0))) ∧ Aside0 (PartsAt gp gn gr cr s wr) ∧ Aside0 (Below w.heap.size w wr))
      case atStart => exact ⟨0, s, rfl, HSL, HW1, BM, HS, HB⟩
      case round =>
       clear HW1 BM HS HB HSL hx
       obtain ⟨x2, s3, rfl, HSL, HW1, BM, HS, HB⟩ := hrel
       cases gk with
       | zero => exact absurd HW1.out (by simp [wall_l1])
       | succ k2 =>
        have h := HW1.out
        clear HW1
        rw [wall_l1] at h
        obtain ⟨n2, hn2, h⟩ := Option.bind_eq_some_iff.1 h
        have HN2 := Aside0.mk hn2
        clear hn2
        have hm0 : wr.cell? ⟨gm, 0, none⟩ = some (.int .i64 a0_0) := (blk_cell BM.out 0).trans rfl; have hm1_ : wr.cell? ⟨gm, 1, none⟩ = some (.int .i64 a0_1) := (blk_cell BM.out 1).trans rfl; have hm2_ : wr.cell? ⟨gm, 2, none⟩ = some (.int .i64 a0_2) := (blk_cell BM.out 2).trans rfl
        by_cases hx : x2 < n2
        ·rw [if_pos hx] at h
         obtain ⟨t, ht, h⟩ := Option.bind_eq_some_iff.1 h
         have HI := Aside0.mk ht
         clear ht
         cases t with
         | true =>
          rw [if_pos rfl] at h
          have HW1 := Aside0.mk h
          clear h
          go_wp2_with (first | (go_at_call 50; (with_reducible refine (impl_CountGaps.calls a0_0 a0_1 n2 _ HN2.out).mono ?_); rintro e w11 ⟨rfl, hb⟩; have BM1 := Aside0.mk (blk_below BM.out hb); have HS1 := Aside0.mk (HS.out.below hb); have HB1 := Aside0.mk (below_step HB.out hb); clear HB BM HS; have HB := HB1; have BM := BM1; have HS := HS1; clear HB1 BM1 HS1; clear hb; have hg0 : w11.cell? ⟨gm, 0, none⟩ = some (.int .i64 a0_0) := (blk_cell BM.out 0).trans rfl; have hg1_ : w11.cell? ⟨gm, 1, none⟩ = some (.int .i64 a0_1) := (blk_cell BM.out 1).trans rfl; have hg2_ : w11.cell? ⟨gm, 2, none⟩ = some (.int .i64 a0_2) := (blk_cell BM.out 2).trans rfl) | (go_at_call 51; (with_reducible refine (impl_isOpen.calls a0_0 a0_1 a0_2 x2 _ _ HI.out).mono ?_); rintro e w12 ⟨rfl, hb⟩; have BM1 := Aside0.mk (blk_below BM.out hb); have HS1 := Aside0.mk (HS.out.below hb); have HB1 := Aside0.mk (below_step HB.out hb); clear HB BM HS; have HB := HB1; have BM := BM1; have HS := HS1; clear HB1 BM1 HS1; clear hb; have ho0 : w12.cell? ⟨gm, 0, none⟩ = some (.int .i64 a0_0) := (blk_cell BM.out 0).trans rfl; have ho1_ : w12.cell? ⟨gm, 1, none⟩ = some (.int .i64 a0_1) := (blk_cell BM.out 1).trans rfl; have ho2_ : w12.cell? ⟨gm, 2, none⟩ = some (.int .i64 a0_2) := (blk_cell BM.out 2).trans rfl))
          go_roundg k2
          case measure => omega
          case rel => exact ⟨wrap64 (x2 + 1), s3, by first | rfl | rw [i64_w], HSL, HW1, BM, HS, HB⟩
         | false =>
          rw [if_neg (by decide)] at h
          obtain ⟨⟨p, q⟩, hpq, h⟩ := Option.bind_eq_some_iff.1 h
          have HPQ := Aside0.mk hpq
          clear hpq
          by_cases hin : 0 ≤ p ∧ p < (s3.1.length : Int) ∧ 0 ≤ q ∧ q < (s3.1.length : Int)
          ·rw [if_pos hin] at h
           have HW1 := Aside0.mk h
           have HIN := Aside0.mk hin
           clear h hin
           go_wp2_with (first | (go_at_call 50; (with_reducible refine (impl_CountGaps.calls a0_0 a0_1 n2 _ HN2.out).mono ?_); rintro e w11 ⟨rfl, hb⟩; have BM1 := Aside0.mk (blk_below BM.out hb); have HS1 := Aside0.mk (HS.out.below hb); have HB1 := Aside0.mk (below_step HB.out hb); clear HB BM HS; have HB := HB1; have BM := BM1; have HS := HS1; clear HB1 BM1 HS1; clear hb; have hg0 : w11.cell? ⟨gm, 0, none⟩ = some (.int .i64 a0_0) := (blk_cell BM.out 0).trans rfl; have hg1_ : w11.cell? ⟨gm, 1, none⟩ = some (.int .i64 a0_1) := (blk_cell BM.out 1).trans rfl; have hg2_ : w11.cell? ⟨gm, 2, none⟩ = some (.int .i64 a0_2) := (blk_cell BM.out 2).trans rfl) | (go_at_call 51; (with_reducible refine (impl_isOpen.calls a0_0 a0_1 a0_2 x2 _ _ HI.out).mono ?_); rintro e w12 ⟨rfl, hb⟩; have BM1 := Aside0.mk (blk_below BM.out hb); have HS1 := Aside0.mk (HS.out.below hb); have HB1 := Aside0.mk (below_step HB.out hb); clear HB BM HS; have HB := HB1; have BM := BM1; have HS := HS1; clear HB1 BM1 HS1; clear hb; have ho0 : w12.cell? ⟨gm, 0, none⟩ = some (.int .i64 a0_0) := (blk_cell BM.out 0).trans rfl; have ho1_ : w12.cell? ⟨gm, 1, none⟩ = some (.int .i64 a0_1) := (blk_cell BM.out 1).trans rfl; have ho2_ : w12.cell? ⟨gm, 2, none⟩ = some (.int .i64 a0_2) := (blk_cell BM.out 2).trans rfl) | (go_at_call 52; (with_reducible refine (impl_CornersOf.calls a0_0 a0_1 x2 p q _ HPQ.out).mono ?_); rintro e w13 ⟨rfl, hb⟩; have BM1 := Aside0.mk (blk_below BM.out hb); have HS1 := Aside0.mk (HS.out.below hb); have HB1 := Aside0.mk (below_step HB.out hb); clear HB BM HS; have HB := HB1; have BM := BM1; have HS := HS1; clear HB1 BM1 HS1; clear hb) | (go_at_call 48; (refine (join_fnm gm #[.int .i64 a0_0, .int .i64 a0_1, .int .i64 a0_2] 31 gp gn gr cr s3 p q w _ HIN.out.1 HIN.out.2.1 HIN.out.2.2.1 HIN.out.2.2.2 (by have := GN.out; omega) (by have := GP.out; omega) (by have := GN.out; have := GP.out; omega) (by have := GM.out; have := GR.out; have := GN.out; have := GP.out; omega) (by have := GM.out; have := GR.out; omega) (by have := GN.out; have := GR.out; have := GP.out; omega) (by have := GR.out; omega) (by rw [HSL.out]; exact RL.out) RC.out HS.out BM.out HB.out).mono ?_); rintro e w10 ⟨rfl, hs, hm, hb⟩; have HS1 := Aside0.mk hs; have BM1 := Aside0.mk hm; have HB1 := Aside0.mk hb; clear HB BM HS hs hm hb; have HB := HB1; have BM := BM1; have HS := HS1; clear HB1 BM1 HS1))
           go_roundg k2
           case measure => omega
           case rel => exact ⟨wrap64 (x2 + 1), joinS s3 p q, by first | rfl | rw [i64_w], ⟨by rw [joinS_len]; exact HSL.out⟩, HW1, BM, HS, HB⟩
          ·rw [if_neg hin] at h; cases h
        ·rw [if_neg hx] at h
         obtain rfl := Option.some.inj h
         clear h
         go_wp2_with ((go_at_call 50; (with_reducible refine (impl_CountGaps.calls a0_0 a0_1 n2 _ HN2.out).mono ?_); rintro e w11 ⟨rfl, hb⟩; have BM1 := Aside0.mk (blk_below BM.out hb); have HS1 := Aside0.mk (HS.out.below hb); have HB1 := Aside0.mk (below_step HB.out hb); clear HB BM HS; have HB := HB1; have BM := BM1; have HS := HS1; clear HB1 BM1 HS1; clear hb; have hg0 : w11.cell? ⟨gm, 0, none⟩ = some (.int .i64 a0_0) := (blk_cell BM.out 0).trans rfl; have hg1_ : w11.cell? ⟨gm, 1, none⟩ = some (.int .i64 a0_1) := (blk_cell BM.out 1).trans rfl; have hg2_ : w11.cell? ⟨gm, 2, none⟩ = some (.int .i64 a0_2) := (blk_cell BM.out 2).trans rfl; have hgn : w11.cell? ⟨gn, 0, none⟩ = some (.int .i64 s3.2) := (blk_cell HS.out.2.1 0).trans rfl))
         go_ret
         exact ⟨rfl, HB.out⟩
  ·rw [if_neg hp] at h; cases h

end Go.Proofs.Ytkbfknodibnkgaa.Q
