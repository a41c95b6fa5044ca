/- Plain Lean functions of Go functions, and for each the proof that its call comes to just that answer. Conditions: in each theorem's statement. -/
import Derived.Test.YtkldibidhjonnaaQx0
import Derived.Test.YtkldibidhjonnaaQx1
namespace Go.Proofs.Ytkldibidhjonnaa.Q
open Go.RowKit Go.Proofs.YtkldibidhjonnaaW.PrintWords Go.Proofs.YtkldibidhjonnaaW.PrintLast
attribute [local go_sem] max2_int min2_int max_two min_two   -- for this text's walks alone
set_option linter.unusedVariables false
set_option linter.unusedSimpArgs false

/-! ### slices_DeleteFunc_int_int: function 30 -/
theorem hzero3 (w : World) : (zeroValue 3).run Try.prog w = .ok (.int .i64 0) w := by kernel_rfl

theorem blk_setCells {g : Nat} {t : TypeId} : ∀ (vs : List Value) (i : Nat) (w : World) (cs : Array Value), w.heap[g]? = some (.cells cs t (0, 0)) → i + vs.length ≤ cs.size →
  ∃ cs' : Array Value, (w.setCells g i vs).heap[g]? = some (.cells cs' t (0, 0)) ∧ cs'.size = cs.size ∧ ∀ q, q < i → cs'[q]? = cs[q]?
 | [], i, w, cs, h, _ => ⟨cs, h, rfl, fun _ _ => rfl⟩
 | v :: r, i, w, cs, h, hl => by
  obtain ⟨cs', h', hs, hq⟩ := blk_setCells r (i + 1) (w.setCell ⟨g, i, none⟩ v) (cs.setIfInBounds i v) (blk_set h i v) (by simpa using by simp at hl; omega)
  refine ⟨cs', h', by simpa using hs, fun q hlt => ?_⟩
  rw [hq q (by omega), Array.getElem?_setIfInBounds_ne (by omega)]

theorem below_setCells_g {w0 : World} {g : Nat} (hg : w0.heap.size ≤ g) : ∀ (vs : List Value) (i : Nat) (w : World), Below w0.heap.size w0 w → Below w0.heap.size w0 (w.setCells g i vs)
 | [], _, _, h => h
 | v :: r, i, w, h => below_setCells_g hg r (i + 1) _ (below_set h hg)

/-- A predicate over whole numbers that stays the same while the row g is rewritten. -/
structure PredI (f : Nat) (lb : Array Value) (p : Int → Bool) (xs : List Int) (g : Nat) (I : World → Prop) : Prop where
 grow : ∀ W W', I W → Below W.heap.size W W' → I W'
 set : ∀ W j v, I W → I (W.setCell ⟨g, j, none⟩ v)
 call : ∀ W x, x ∈ xs → I W → Calls Try.prog f (#[.int .i64 x] ++ lb) W fun e w' => e = .returned (.bool (p x)) ∧ Below W.heap.size W w'

theorem idxP_cases (p : Int → Bool) : ∀ (l : List Int) (i : Nat), (idxP p l i = -1 ∧ ∀ x ∈ l, p x = false) ∨ ∃ k, k < l.length ∧ idxP p l i = ((i + k : Nat) : Int) ∧ (∀ x ∈ l.take k, p x = false) ∧ p (rd l k) = true
 | [], i => .inl ⟨rfl, fun _ h => by cases h⟩
 | x :: l, i => by
  have e : idxP p (x :: l) i = if p x = true then (i : Int) else idxP p l ((i : Int) + 1) := rfl
  by_cases h : p x = true
  ·exact .inr ⟨0, by simp, by rw [e, if_pos h]; simp, fun _ h => by simp at h, h⟩
  ·have hx : p x = false := by simpa using h
   rw [if_neg h] at e
   have e2 : ((i : Int) + 1) = ((i + 1 : Nat) : Int) := by omega
   rcases idxP_cases p l (i + 1) with ⟨h1, h2⟩ | ⟨k, h1, h2, h3, h4⟩
   ·exact .inl ⟨by rw [e, e2, h1], fun y hy => by rcases List.mem_cons.1 hy with rfl | hy; exact hx; exact h2 y hy⟩
   ·refine .inr ⟨k + 1, by simpa using h1, by rw [e, e2, h2]; omega, fun y hy => ?_, ?_⟩
    ·simp only [List.take_succ_cons, List.mem_cons] at hy
     rcases hy with rfl | hy
     ·exact hx
     ·exact h3 y hy
    ·have : rd (x :: l) ((k + 1 : Nat) : Int) = rd l (k : Int) := by unfold rd; simp
     rw [this]; exact h4

/-- The row while elements are struck: j are looked at, i are kept. -/
structure DelInv (p : Int → Bool) (xs : List Int) (cur : Array Value) (i j : Nat) : Prop where
 le : i ≤ j
 jn : j ≤ xs.length
 done : cur.toList.take i = nums .i64 ((xs.take j).filter fun x => !p x)
 todo : ∀ q, j ≤ q → q < xs.length → cur[q]? = some (.int .i64 (rd xs q))

theorem rd_get (xs : List Int) (q : Nat) (h : q < xs.length) : xs[q]? = some (rd xs q) := by
 unfold rd
 rw [Int.toNat_natCast, List.getD_eq_getElem?_getD, List.getElem?_eq_getElem h]; rfl
theorem take_rd (xs : List Int) (j : Nat) (h : j < xs.length) : xs.take (j + 1) = xs.take j ++ [rd xs j] := by
 rw [List.take_add_one, rd_get xs j h]; rfl
theorem DelInv.skip {p : Int → Bool} {xs : List Int} {cur : Array Value} {i j : Nat} (h : DelInv p xs cur i j) (hj : j < xs.length) (hp : p (rd xs j) = true) : DelInv p xs cur i (j + 1) :=
 ⟨by have := h.le; omega, hj, by rw [h.done, take_rd xs j hj, List.filter_append]; simp [hp], fun q h1 h2 => h.todo q (by omega) h2⟩
theorem DelInv.keep {p : Int → Bool} {xs : List Int} {cur : Array Value} {i j : Nat} (h : DelInv p xs cur i j) (hj : j < xs.length) (hs : xs.length ≤ cur.size) (hp : p (rd xs j) = false) : DelInv p xs (cur.setIfInBounds i (.int .i64 (rd xs j))) (i + 1) (j + 1) := by
 have hle := h.le
 refine ⟨by omega, hj, ?_, fun q h1 h2 => ?_⟩
 ·have hi : i < cur.size := by omega
  rw [take_rd xs j hj, List.filter_append]
  simp only [List.filter_cons, hp, Bool.not_false, if_true, List.filter_nil]
  rw [nums_append, ← h.done, Array.toList_setIfInBounds, List.take_add_one, List.getElem?_set_self (by simpa using hi)]
  simp [List.take_set_of_le, nums]
 ·rw [Array.getElem?_setIfInBounds_ne (by omega)]; exact h.todo q (by omega) h2

set_option maxHeartbeats 4000000 in
set_option maxRecDepth 100000 in
theorem delete_any (f : Nat) (lb : Array Value) (p : Int → Bool) (eg : ∀ args w, (callFunc f args).run Try.prog w = .ok (.enter f args) w) (g cap : Nat) (xs : List Int) (cur : Array Value) (I : World → Prop) (w0 w : World)
  (hP : PredI f lb p xs g I) (hI : I w) (hB : Below w0.heap.size w0 w) (hg : w0.heap.size ≤ g) (hblk : w.heap[g]? = some (.cells cur 3 (0, 0))) (hs : cur.size = cap) (hl : xs.length ≤ cap) (hc : cap ≤ 9223372036854775807) (ht : cur.toList.take xs.length = nums .i64 xs) :
  Calls Try.prog 30 #[.slice (some ⟨g, 0, none⟩) xs.length cap, .func (.func f) #[] lb] w fun e w' => ∃ cur' : Array Value, e = .returned (.slice (some ⟨g, 0, none⟩) (xs.filter fun x => !p x).length cap) ∧ w'.heap[g]? = some (.cells cur' 3 (0, 0)) ∧ cur'.size = cap ∧ cur'.toList.take (xs.filter fun x => !p x).length = nums .i64 (xs.filter fun x => !p x) ∧ Below w0.heap.size w0 w' := by
 have hat : ∀ q, q < xs.length → cur[q]? = some (.int .i64 (rd xs q)) := fun q hq => by
  have e1 : cur[q]? = (cur.toList.take xs.length)[q]? := by rw [List.getElem?_take, if_pos hq]; simp
  rw [e1, ht]; simp [nums, rd_get xs q hq]
 have hC : (Kd.int .i64).C w (some ⟨g, 0, none⟩) xs.length xs := by
  refine Kd.C_of_reads (d := (0 : Int)) (h1 := fun _ => rfl) ⟨rfl, by omega, fun hn => ⟨_, rfl, fun j hj => ?_⟩⟩
  rw [add_plain, blk_cell hblk j, hat j hj]; rfl
 have hIx := index_any f lb p eg (some ⟨g, 0, none⟩) cap xs w hC hl (by omega) (fun W x hm hb => hP.call W x hm (hP.grow w W hI hb))
 have HIX := Aside0.mk hIx
 clear hIx hC
 have HPI := Aside0.mk hP
 have HIW := Aside0.mk hI
 have HB := Aside0.mk hB
 have HG := Aside0.mk hg
 have BK := Aside0.mk hblk
 have HT := Aside0.mk ht
 have HAT := Aside0.mk hat
 have HS := Aside0.mk hs
 clear hP hI hB hg hblk ht hat hs
 rcases idxP_cases p xs 0 with ⟨e1, hall⟩ | ⟨k0, hk0, e1, hall, hk1⟩
 ·have HX := Aside0.mk (show idxP p xs 0 = -1 from e1)
  have HF := Aside0.mk (show (xs.filter fun x => !p x) = xs from List.filter_eq_self.2 fun x hx => by simp [hall x hx])
  clear e1 hall
  go_enter Try.func30, Try.ntmps30
  go_wp2_with (go_at_call 58; refine HIX.out.mono ?_; rw [HX.out]; rintro e w1 ⟨rfl, hb⟩; have BK1 := Aside0.mk (blk_below BK.out hb); have HB1 := Aside0.mk (below_then HB.out HB.out.size hb); clear hb)
  go_ret
  rw [HF.out]
  exact ⟨cur, rfl, BK1.out, HS.out, HT.out, HB1.out⟩
 ·have HX := Aside0.mk (show idxP p xs 0 = ((k0 : Nat) : Int) by rw [show ((k0 : Nat) : Int) = ((0 + k0 : Nat) : Int) by omega]; exact e1)
  have hne1 : ((k0 : Int) == -1) = false := beq_eq_false_iff_ne.2 (by omega)
  have HD := Aside0.mk (show DelInv p xs cur k0 (k0 + 1) from by
   have h1 : (xs.take k0).filter (fun x => !p x) = xs.take k0 := List.filter_eq_self.2 fun x hx => by simp [hall x hx]
   refine ⟨by omega, hk0, ?_, fun q _ h2 => HAT.out q h2⟩
   rw [take_rd xs k0 hk0, List.filter_append, h1]
   simp only [List.filter_cons, hk1, Bool.not_true, Bool.false_eq_true, if_false, List.filter_nil, List.append_nil]
   have h3 := congrArg (List.take k0) HT.out
   rw [List.take_take, Nat.min_eq_left (by omega)] at h3
   rw [h3]; simp [nums, List.map_take])
  clear e1 hall hk1
  go_enter Try.func30, Try.ntmps30
  go_wp2_with (go_at_call 58; refine HIX.out.mono ?_; rw [HX.out]; rintro e w1 ⟨rfl, hb⟩; have BK1 := Aside0.mk (blk_below BK.out hb); have HB1 := Aside0.mk (below_then HB.out HB.out.size hb); have HI1 := Aside0.mk (HPI.out.grow _ _ HIW.out hb); clear hb)
  go_loopg [5, 6, 7] xs.length (fun gg s5 s6 _ wr => ∃ (i j : Nat) (cu : Array Value), s5 = .int .i64 i ∧ s6 = .int .i64 j ∧ i < j ∧ j ≤ xs.length ∧ xs.length - j ≤ gg ∧ Aside0 (DelInv p xs cu i j) ∧ Aside0 (cu.size = cap) ∧ Aside0 (wr.heap[g]? = some (.cells cu 3 (0, 0))) ∧ Aside0 (I wr) ∧ Aside0 (Below w0.heap.size w0 wr))
  case atStart => exact ⟨k0, k0 + 1, cur, rfl, by go_num, by omega, by omega, by omega, HD, HS, BK1, HI1, HB1⟩
  case round =>
   clear BK1 HI1 HB1 HD BK HS HAT HT HIW HIX HX
   obtain ⟨i, j, cu, rfl, rfl, hij, hjn, hgg, HD, HS, BK, HI, HB⟩ := hrel
   by_cases hlt : j < xs.length
   ·have hltz : (j : Int) < (xs.length : Int) := by omega
    have HM := Aside0.mk (rd_memN xs j hlt)
    have hcj : wr.cell? ⟨g, j, none⟩ = some (.int .i64 (rd xs j)) := (blk_cell BK.out j).trans (HD.out.todo j (Nat.le_refl _) hlt)
    have hisz : i < cu.size := by have := HS.out; omega
    obtain ⟨old, hold⟩ : ∃ old, cu[i]? = some old := ⟨_, Array.getElem?_eq_getElem hisz⟩
    have HO := Aside0.mk hold
    clear hold hisz
    cases hq : p (rd xs j) with
    | false =>
     have HQ := Aside0.mk hq
     clear hq
     go_wp2_with (go_at_fn f; refine (HPI.out.call _ _ HM.out HI.out).mono ?_; rw [HQ.out]; rintro e w2 ⟨rfl, hb⟩; have BK2 := Aside0.mk (blk_below BK.out hb); have HB2 := Aside0.mk (below_then HB.out HB.out.size hb); have HI2 := Aside0.mk (HPI.out.grow _ _ HI.out hb); clear hb; have hc2 : w2.cell? ⟨g, i, none⟩ = some old := (blk_cell BK2.out i).trans HO.out; have hf2 := blk_frozen BK2.out i)
     go_roundg (xs.length - (j + 1))
     case measure => omega
     case rel =>
      have hsz : xs.length ≤ cu.size := by have := HS.out; omega
      exact ⟨i + 1, j + 1, _, by go_num, by go_num, by omega, by omega, Nat.le_refl _, ⟨HD.out.keep hlt hsz HQ.out⟩, ⟨by rw [Array.size_setIfInBounds]; exact HS.out⟩, ⟨blk_set BK2.out i _⟩, ⟨HPI.out.set _ _ _ HI2.out⟩, ⟨below_set HB2.out HG.out⟩⟩
    | true =>
     have HQ := Aside0.mk hq
     clear hq
     go_wp2_with (go_at_fn f; refine (HPI.out.call _ _ HM.out HI.out).mono ?_; rw [HQ.out]; rintro e w2 ⟨rfl, hb⟩; have BK2 := Aside0.mk (blk_below BK.out hb); have HB2 := Aside0.mk (below_then HB.out HB.out.size hb); have HI2 := Aside0.mk (HPI.out.grow _ _ HI.out hb); clear hb)
     go_roundg (xs.length - (j + 1))
     case measure => omega
     case rel => exact ⟨i, j + 1, cu, rfl, by go_num, by omega, by omega, Nat.le_refl _, ⟨HD.out.skip hlt HQ.out⟩, HS, BK2, HI2, HB2⟩
   ·obtain rfl : j = xs.length := by omega
    have hltz : ¬ (xs.length : Int) < (xs.length : Int) := by omega
    have hsz := HS.out
    have hcl : ∀ ty, (Builtin.clear_ #[26] ty #[.slice (some ⟨g, i, none⟩) (xs.length - i) (cap - i)]).run Try.prog wr = .ok (.tuple #[]) (wr.setCells g i (List.replicate (xs.length - i) (.int .i64 0))) := fun ty => by
     have := Lib.run_clear_slice wr 26 3 ty (.int .i64 0) Try.underlying26 hzero3 rfl rfl g i (xs.length - i) (cap - i) (by omega) (fun t ht => by rw [blk_cell BK.out]; simp; omega) (fun t ht => blk_frozen BK.out _)
     exact this
    obtain ⟨cf, hcf1, hcf2, hcf3⟩ := blk_setCells (List.replicate (xs.length - i) (.int .i64 0)) i wr cu BK.out (by simp; omega)
    have HC1 := Aside0.mk hcf1
    have HC2 := Aside0.mk (hcf2.trans hsz)
    have HC3 := Aside0.mk hcf3
    have HB9 := Aside0.mk (below_setCells_g HG.out (List.replicate (xs.length - i) (.int .i64 0)) i wr HB.out)
    have hdn := HD.out.done
    rw [List.take_length] at hdn
    have hlen : (xs.filter fun x => !p x).length = i := by
     have h1 := congrArg List.length hdn
     rw [nums_length, List.length_take, Nat.min_eq_left (by simp; omega)] at h1
     exact h1.symm
    have HDN := Aside0.mk hdn
    have HLN := Aside0.mk hlen
    clear hcf1 hcf2 hcf3 hdn hlen hsz
    go_wp2
    go_ret
    rw [HLN.out]
    refine ⟨rfl, cf, HC1.out, HC2.out, ?_, HB9.out⟩
    rw [← HDN.out]
    apply List.ext_getElem?
    intro q
    rw [List.getElem?_take, List.getElem?_take]
    by_cases hq : q < i
    ·rw [if_pos hq, if_pos hq]; simpa using HC3.out q hq
    ·rw [if_neg hq, if_neg hq]

/-- A row of whole numbers of the call's own: none, or its block. -/
theorem own_cases {e : Nat} {w : World} {base : Nat} {ok : Nat → Prop} {v : Value} {xs : List Int} (h : Kd.R (Kd.int .i64) e w base ok v xs) :
  (v = .slice none 0 0 ∧ xs = []) ∨ ∃ (g cap : Nat) (cur : Array Value), v = .slice (some ⟨g, 0, none⟩) xs.length cap ∧ base ≤ g ∧ w.heap[g]? = some (.cells cur e (0, 0)) ∧ cur.size = cap ∧ xs.length ≤ cap ∧ cap ≤ 9223372036854775807 ∧ cur.toList.take xs.length = nums .i64 xs := by
 have ho := Kd.own_of_R h
 obtain ⟨h1, h2⟩ := ho
 rcases h2 with ⟨h2, h3⟩ | ⟨g, cap, cur, rfl, hg, hh, r1, r2, r3, r4⟩
 ·exact .inl ⟨h2, List.length_eq_zero_iff.1 h3⟩
 ·refine .inr ⟨g, cap, cur, rfl, hg, hh, by simpa using r3, r1, by simpa [maxLen] using r2, ?_⟩
  have := r4
  simpa [nums, encs] using this
theorem own_block {e : Nat} {w : World} {base : Nat} {ok : Nat → Prop} {v : Value} {xs : List Int} (h : Kd.R (Kd.int .i64) e w base ok v xs) (hp : 0 < xs.length) :
  ∃ (g cap : Nat) (cur : Array Value), v = .slice (some ⟨g, 0, none⟩) xs.length cap ∧ base ≤ g ∧ w.heap[g]? = some (.cells cur e (0, 0)) ∧ cur.size = cap ∧ xs.length ≤ cap ∧ cap ≤ 9223372036854775807 ∧ cur.toList.take xs.length = nums .i64 xs := by
 rcases own_cases h with ⟨_, rfl⟩ | h
 ·simp at hp
 ·exact h
theorem ints_reads {w : World} {g e : Nat} {cur : Array Value} (xs : List Int) (hl : xs.length ≤ 9223372036854775807) (ht : cur.toList.take xs.length = nums .i64 xs) (h : w.heap[g]? = some (.cells cur e (0, 0))) :
  (Kd.int .i64).C w (some ⟨g, 0, none⟩) xs.length xs := by
 have hat : ∀ q, q < xs.length → cur[q]? = some (.int .i64 (rd xs q)) := fun q hq => by
  have e1 : cur[q]? = (cur.toList.take xs.length)[q]? := by rw [List.getElem?_take, if_pos hq]; simp
  rw [e1, ht]; simp [nums, rd_get xs q hq]
 refine Kd.C_of_reads (d := (0 : Int)) (h1 := fun _ => rfl) ⟨rfl, hl, fun hn => ⟨_, rfl, fun j hj => ?_⟩⟩
 rw [add_plain, blk_cell h j, hat j hj]; rfl

set_option maxHeartbeats 4000000 in
set_option maxRecDepth 100000 in
theorem delete_nil (f : Nat) (lb : Array Value) (p : Int → Bool) (eg : ∀ args w, (callFunc f args).run Try.prog w = .ok (.enter f args) w) (w : World) :
  Calls Try.prog 30 #[.slice none 0 0, .func (.func f) #[] lb] w fun e w' => e = .returned (.slice none 0 0) ∧ Below w.heap.size w w' := by
 have HIX := Aside0.mk (index_any f lb p eg none 0 [] w (Kd.C_nil _ w) (Nat.le_refl _) (by simp) (fun W x hm _ => absurd hm (by simp)))
 go_enter Try.func30, Try.ntmps30
 go_wp2_with (go_at_call 58; refine HIX.out.mono ?_; rintro e w1 ⟨rfl, hb⟩)
 go_ret
 exact ⟨rfl, hb⟩

/-- slices.DeleteFunc over a row of the call's own. -/
theorem delete_row (f : Nat) (lb : Array Value) (p : Int → Bool) (eg : ∀ args w, (callFunc f args).run Try.prog w = .ok (.enter f args) w) (v : Value) (xs : List Int) (ok : Nat → Prop) (I : World → Prop) (w0 w : World)
  (hP : ∀ g, v.ownBlock = some g → PredI f lb p xs g I) (hI : I w) (hB : Below w0.heap.size w0 w) (hr : Kd.R (Kd.int .i64) 3 w w0.heap.size ok v xs) :
  Calls Try.prog 30 #[v, .func (.func f) #[] lb] w fun e w' => ∃ v' : Value, e = .returned v' ∧ Kd.R (Kd.int .i64) 3 w' w0.heap.size (fun _ => True) v' (xs.filter fun x => !p x) ∧ Below w0.heap.size w0 w' := by
 rcases own_cases hr with ⟨rfl, rfl⟩ | ⟨g, cap, cur, rfl, hg, hk, hs, hl, hc, ht⟩
 ·refine (delete_nil f lb p eg w).mono ?_
  rintro e w' ⟨rfl, hb⟩
  exact ⟨_, rfl, Kd.R_nil _ _ _ _ _, below_step hB hb⟩
 ·refine (delete_any f lb p eg g cap xs cur I w0 w (hP g (by simp [Value.ownBlock])) hI hB hg hk hs hl hc ht).mono ?_
  rintro e w' ⟨cur', rfl, k, s, t, b⟩
  exact ⟨_, rfl, ints_own _ hc (Nat.le_trans (List.length_filter_le _ _) hl) s t hg k, b⟩

/-! ### impl_GridOk: function 67 -/
def impl_GridOk.f (a0_0 : Int) (a0_1 : Int) : Option (Bool) := if a0_0 ≥ 1 then (if a0_0 ≤ 4 then (if a0_1 ≥ 1 then (some (decide (a0_1 ≤ 4))) else (some false)) else (some false)) else (some false)
set_option maxHeartbeats 8000000 in
set_option maxRecDepth 100000 in
theorem impl_GridOk.calls (a0_0 : Int) (a0_1 : Int) (r : Bool) (w : World) (h : impl_GridOk.f a0_0 a0_1 = some r) :
  Calls Try.prog 67 #[.agg #[.int .i64 a0_0, .int .i64 a0_1]] w fun e w' => e = .returned (.bool r) ∧ Below w.heap.size w w' := by
 have hu27 := Try.underlying27
 have HB := Aside0.mk (Below.refl w.heap.size w)
 have H : (if a0_0 ≥ 1 then (if a0_0 ≤ 4 then (if a0_1 ≥ 1 then (some (decide (a0_1 ≤ 4))) else (some false)) else (some false)) else (some false)) = some r := h
 clear h
 by_cases c2 : a0_0 ≥ 1
 ·rw [if_pos c2] at H
  have c2b0 : decide (1 ≤ a0_0) = true := decide_eq_true c2
  clear c2
  by_cases c3 : a0_0 ≤ 4
  ·rw [if_pos c3] at H
   have c3b0 : decide (a0_0 ≤ 4) = true := decide_eq_true c3
   clear c3
   by_cases c4 : a0_1 ≥ 1
   ·rw [if_pos c4] at H
    have c4b0 : decide (1 ≤ a0_1) = true := decide_eq_true c4
    clear c4
    obtain rfl := Option.some.inj H
    go_enter Try.func67, Try.ntmps67
    go_wp2_with (first | ((with_reducible refine gate_dst (N := 1) rfl ?_); refine box_event ?hg (N := 1) ?hd (cs := #[.int .i64 a0_0, .int .i64 a0_1]) (t := 27) ?hr ?_; (case hd => rfl); (case hg => rfl); (case hr => first | (go_simp; done) | (go_simp; rfl)); intro gb195 hg w5 hbox hb; have n0_ := Aside0.mk (below_step hb_ hb); have n1_ := Aside0.mk (hbox); have n2_ := Aside0.mk ((by rw [hg]; exact (below_size hb_) : w.heap.size ≤ gb195)); have n3_ := Aside0.mk ((by rw [hg]; exact (below_size hb_) : w.heap.size ≤ gb195)); clear HB; have HB := n0_; have BK195 := n1_; have GW195 := n2_; have GE195 := n3_; clear n0_ n1_ n2_ n3_; clear hb hbox hg; have hcz6_0 := cz_ (.int .i64 a0_0) BK195.out 0; have hcz6_1 := cz_ (.int .i64 a0_1) BK195.out 1; have hfz6_0 := blk_frozen BK195.out 0; have hfz6_1 := blk_frozen BK195.out 1))
    go_ret
    exact ⟨er_, hb_⟩
   ·rw [if_neg c4] at H
    have c4b0 : decide (1 ≤ a0_1) = false := decide_eq_false c4
    clear c4
    obtain rfl := Option.some.inj H
    go_enter Try.func67, Try.ntmps67
    go_wp2_with (first | ((with_reducible refine gate_dst (N := 1) rfl ?_); refine box_event ?hg (N := 1) ?hd (cs := #[.int .i64 a0_0, .int .i64 a0_1]) (t := 27) ?hr ?_; (case hd => rfl); (case hg => rfl); (case hr => first | (go_simp; done) | (go_simp; rfl)); intro gb195 hg w7 hbox hb; have n0_ := Aside0.mk (below_step hb_ hb); have n1_ := Aside0.mk (hbox); have n2_ := Aside0.mk ((by rw [hg]; exact (below_size hb_) : w.heap.size ≤ gb195)); have n3_ := Aside0.mk ((by rw [hg]; exact (below_size hb_) : w.heap.size ≤ gb195)); clear HB; have HB := n0_; have BK195 := n1_; have GW195 := n2_; have GE195 := n3_; clear n0_ n1_ n2_ n3_; clear hb hbox hg; have hcz8_0 := cz_ (.int .i64 a0_0) BK195.out 0; have hcz8_1 := cz_ (.int .i64 a0_1) BK195.out 1; have hfz8_0 := blk_frozen BK195.out 0; have hfz8_1 := blk_frozen BK195.out 1))
    go_ret
    exact ⟨er_, hb_⟩
  ·rw [if_neg c3] at H
   have c3b0 : decide (a0_0 ≤ 4) = false := decide_eq_false c3
   clear c3
   obtain rfl := Option.some.inj H
   go_enter Try.func67, Try.ntmps67
   go_wp2_with (first | ((with_reducible refine gate_dst (N := 1) rfl ?_); refine box_event ?hg (N := 1) ?hd (cs := #[.int .i64 a0_0, .int .i64 a0_1]) (t := 27) ?hr ?_; (case hd => rfl); (case hg => rfl); (case hr => first | (go_simp; done) | (go_simp; rfl)); intro gb195 hg w9 hbox hb; have n0_ := Aside0.mk (below_step hb_ hb); have n1_ := Aside0.mk (hbox); have n2_ := Aside0.mk ((by rw [hg]; exact (below_size hb_) : w.heap.size ≤ gb195)); have n3_ := Aside0.mk ((by rw [hg]; exact (below_size hb_) : w.heap.size ≤ gb195)); clear HB; have HB := n0_; have BK195 := n1_; have GW195 := n2_; have GE195 := n3_; clear n0_ n1_ n2_ n3_; clear hb hbox hg; have hcz10_0 := cz_ (.int .i64 a0_0) BK195.out 0; have hcz10_1 := cz_ (.int .i64 a0_1) BK195.out 1; have hfz10_0 := blk_frozen BK195.out 0; have hfz10_1 := blk_frozen BK195.out 1))
   go_ret
   exact ⟨er_, hb_⟩
 ·rw [if_neg c2] at H
  have c2b0 : decide (1 ≤ a0_0) = false := decide_eq_false c2
  clear c2
  obtain rfl := Option.some.inj H
  go_enter Try.func67, Try.ntmps67
  go_wp2_with (first | ((with_reducible refine gate_dst (N := 1) rfl ?_); refine box_event ?hg (N := 1) ?hd (cs := #[.int .i64 a0_0, .int .i64 a0_1]) (t := 27) ?hr ?_; (case hd => rfl); (case hg => rfl); (case hr => first | (go_simp; done) | (go_simp; rfl)); intro gb195 hg w11 hbox hb; have n0_ := Aside0.mk (below_step hb_ hb); have n1_ := Aside0.mk (hbox); have n2_ := Aside0.mk ((by rw [hg]; exact (below_size hb_) : w.heap.size ≤ gb195)); have n3_ := Aside0.mk ((by rw [hg]; exact (below_size hb_) : w.heap.size ≤ gb195)); clear HB; have HB := n0_; have BK195 := n1_; have GW195 := n2_; have GE195 := n3_; clear n0_ n1_ n2_ n3_; clear hb hbox hg; have hcz12_0 := cz_ (.int .i64 a0_0) BK195.out 0; have hcz12_1 := cz_ (.int .i64 a0_1) BK195.out 1; have hfz12_0 := blk_frozen BK195.out 0; have hfz12_1 := blk_frozen BK195.out 1))
  go_ret
  exact ⟨er_, hb_⟩

/-! ### impl_CountCells: function 65 -/
def impl_CountCells.f (a0_0 : Int) (a0_1 : Int) : Option (Int) := (impl_GridOk.f a0_0 a0_1).bind fun t197 => (if t197 = true then (some (wrap64 (a0_0 * a0_1))) else (some 0))
set_option maxHeartbeats 8000000 in
set_option maxRecDepth 100000 in
theorem impl_CountCells.calls (a0_0 : Int) (a0_1 : Int) (r : Int) (w : World) (h : impl_CountCells.f a0_0 a0_1 = some r) :
  Calls Try.prog 65 #[.agg #[.int .i64 a0_0, .int .i64 a0_1]] w fun e w' => e = .returned (.int .i64 r) ∧ Below w.heap.size w w' := by
 have hu27 := Try.underlying27
 have HB := Aside0.mk (Below.refl w.heap.size w)
 have H : ((impl_GridOk.f a0_0 a0_1).bind fun t197 => (if t197 = true then (some (wrap64 (a0_0 * a0_1))) else (some 0))) = some r := h
 clear h
 replace H := Option.bind_eq_some_iff.mp H
 obtain ⟨t197, A20, H⟩ := H
 replace H : (if t197 = true then (some (wrap64 (a0_0 * a0_1))) else (some 0)) = some r := H
 have A2 := Aside0.mk A20
 clear A20
 by_cases c3 : t197 = true
 ·subst c3
  have H1 : (some (wrap64 (a0_0 * a0_1))) = some r := by rw [if_pos rfl] at H; exact H
  clear H
  have H := H1
  clear H1
  obtain rfl := Option.some.inj H
  go_enter Try.func65, Try.ntmps65
  go_wp2_with (first | ((with_reducible refine gate_dst (N := 1) rfl ?_); refine box_event ?hg (N := 1) ?hd (cs := #[.int .i64 a0_0, .int .i64 a0_1]) (t := 27) ?hr ?_; (case hd => rfl); (case hg => rfl); (case hr => first | (go_simp; done) | (go_simp; rfl)); intro gb196 hg w4 hbox hb; have n0_ := Aside0.mk (below_step hb_ hb); have n1_ := Aside0.mk (hbox); have n2_ := Aside0.mk ((by rw [hg]; exact (below_size hb_) : w.heap.size ≤ gb196)); have n3_ := Aside0.mk ((by rw [hg]; exact (below_size hb_) : w.heap.size ≤ gb196)); clear HB; have HB := n0_; have BK196 := n1_; have GW196 := n2_; have GE196 := n3_; clear n0_ n1_ n2_ n3_; clear hb hbox hg; have hcz5_0 := cz_ (.int .i64 a0_0) BK196.out 0; have hcz5_1 := cz_ (.int .i64 a0_1) BK196.out 1; have hfz5_0 := blk_frozen BK196.out 0; have hfz5_1 := blk_frozen BK196.out 1) | ((with_reducible refine gate_callee (f := 67) rfl ?_); refine goesL_ (some 4) rfl rfl Try.func67 (by kernel_rfl) rfl #[.agg #[.int .i64 a0_0, .int .i64 a0_1]] rfl mp_ ?_; (with_reducible refine (impl_GridOk.calls a0_0 a0_1 true _ A2.out).mono ?_); rintro e w6 ⟨rfl, hb⟩; refine ⟨_, rfl, ?_⟩; have n0_ := Aside0.mk (blk_below (g := gb196) (o := .cells #[.int .i64 a0_0, .int .i64 a0_1] 27 (0, 0)) (kb_ BK196.out) hb); have n1_ := Aside0.mk (below_step hb_ hb); clear BK196; clear HB; have BK196 := n0_; have HB := n1_; clear n0_ n1_; (try clear hb); (try clear hb2); (try clear hk); (try clear hi); have hcz7_0 := cz_ (.int .i64 a0_0) BK196.out 0; have hcz7_1 := cz_ (.int .i64 a0_1) BK196.out 1; have hfz7_0 := blk_frozen BK196.out 0; have hfz7_1 := blk_frozen BK196.out 1))
  go_ret
  exact ⟨er_, hb_⟩
 ·replace c3 := Bool.eq_false_iff.mpr c3
  subst c3
  have H1 : (some 0) = some r := by rw [if_neg (show ¬ (false = true) by decide)] at H; exact H
  clear H
  have H := H1
  clear H1
  obtain rfl := Option.some.inj H
  go_enter Try.func65, Try.ntmps65
  go_wp2_with (first | ((with_reducible refine gate_dst (N := 1) rfl ?_); refine box_event ?hg (N := 1) ?hd (cs := #[.int .i64 a0_0, .int .i64 a0_1]) (t := 27) ?hr ?_; (case hd => rfl); (case hg => rfl); (case hr => first | (go_simp; done) | (go_simp; rfl)); intro gb196 hg w8 hbox hb; have n0_ := Aside0.mk (below_step hb_ hb); have n1_ := Aside0.mk (hbox); have n2_ := Aside0.mk ((by rw [hg]; exact (below_size hb_) : w.heap.size ≤ gb196)); have n3_ := Aside0.mk ((by rw [hg]; exact (below_size hb_) : w.heap.size ≤ gb196)); clear HB; have HB := n0_; have BK196 := n1_; have GW196 := n2_; have GE196 := n3_; clear n0_ n1_ n2_ n3_; clear hb hbox hg; have hcz9_0 := cz_ (.int .i64 a0_0) BK196.out 0; have hcz9_1 := cz_ (.int .i64 a0_1) BK196.out 1; have hfz9_0 := blk_frozen BK196.out 0; have hfz9_1 := blk_frozen BK196.out 1) | ((with_reducible refine gate_callee (f := 67) rfl ?_); refine goesL_ (some 4) rfl rfl Try.func67 (by kernel_rfl) rfl #[.agg #[.int .i64 a0_0, .int .i64 a0_1]] rfl mp_ ?_; (with_reducible refine (impl_GridOk.calls a0_0 a0_1 false _ A2.out).mono ?_); rintro e w10 ⟨rfl, hb⟩; refine ⟨_, rfl, ?_⟩; have n0_ := Aside0.mk (blk_below (g := gb196) (o := .cells #[.int .i64 a0_0, .int .i64 a0_1] 27 (0, 0)) (kb_ BK196.out) hb); have n1_ := Aside0.mk (below_step hb_ hb); clear BK196; clear HB; have BK196 := n0_; have HB := n1_; clear n0_ n1_; (try clear hb); (try clear hb2); (try clear hk); (try clear hi)))
  go_ret
  exact ⟨er_, hb_⟩

/-! ### impl_isCell: function 57 -/
def impl_isCell.f (a0_0 : Int) (a0_1 : Int) (a1 : Int) : Option (Bool) := if a1 ≥ 0 then ((impl_CountCells.f a0_0 a0_1).bind fun t199 => (some (decide (a1 < t199)))) else (some false)
set_option maxHeartbeats 8000000 in
set_option maxRecDepth 100000 in
theorem impl_isCell.calls (a0_0 : Int) (a0_1 : Int) (a1 : Int) (r : Bool) (w : World) (h : impl_isCell.f a0_0 a0_1 a1 = some r) :
  Calls Try.prog 57 #[.agg #[.int .i64 a0_0, .int .i64 a0_1], .int .i64 a1] w fun e w' => e = .returned (.bool r) ∧ Below w.heap.size w w' := by
 have hu27 := Try.underlying27
 have HB := Aside0.mk (Below.refl w.heap.size w)
 have H : (if a1 ≥ 0 then ((impl_CountCells.f a0_0 a0_1).bind fun t199 => (some (decide (a1 < t199)))) else (some false)) = some r := h
 clear h
 by_cases c3 : a1 ≥ 0
 ·rw [if_pos c3] at H
  have c3b0 : decide (0 ≤ a1) = true := decide_eq_true c3
  clear c3
  replace H := Option.bind_eq_some_iff.mp H
  obtain ⟨t199, A40, H⟩ := H
  replace H : (some (decide (a1 < t199))) = some r := H
  have A4 := Aside0.mk A40
  clear A40
  obtain rfl := Option.some.inj H
  go_enter Try.func57, Try.ntmps57
  go_wp2_with (first | ((with_reducible refine gate_dst (N := 2) rfl ?_); refine box_event ?hg (N := 2) ?hd (cs := #[.int .i64 a0_0, .int .i64 a0_1]) (t := 27) ?hr ?_; (case hd => rfl); (case hg => rfl); (case hr => first | (go_simp; done) | (go_simp; rfl)); intro gb198 hg w5 hbox hb; have n0_ := Aside0.mk (below_step hb_ hb); have n1_ := Aside0.mk (hbox); have n2_ := Aside0.mk ((by rw [hg]; exact (below_size hb_) : w.heap.size ≤ gb198)); have n3_ := Aside0.mk ((by rw [hg]; exact (below_size hb_) : w.heap.size ≤ gb198)); clear HB; have HB := n0_; have BK198 := n1_; have GW198 := n2_; have GE198 := n3_; clear n0_ n1_ n2_ n3_; clear hb hbox hg; have hcz6_0 := cz_ (.int .i64 a0_0) BK198.out 0; have hcz6_1 := cz_ (.int .i64 a0_1) BK198.out 1; have hfz6_0 := blk_frozen BK198.out 0; have hfz6_1 := blk_frozen BK198.out 1) | (go_at_call 65; (with_reducible refine (impl_CountCells.calls a0_0 a0_1 t199 _ A4.out).mono ?_); rintro e w7 ⟨rfl, hb⟩; have n0_ := Aside0.mk (blk_below (g := gb198) (o := .cells #[.int .i64 a0_0, .int .i64 a0_1] 27 (0, 0)) (kb_ BK198.out) hb); have n1_ := Aside0.mk (below_step hb_ hb); clear BK198; clear HB; have BK198 := n0_; have HB := n1_; clear n0_ n1_; (try clear hb); (try clear hb2); (try clear hk); (try clear hi)))
  go_ret
  exact ⟨er_, hb_⟩
 ·rw [if_neg c3] at H
  have c3b0 : decide (0 ≤ a1) = false := decide_eq_false c3
  clear c3
  obtain rfl := Option.some.inj H
  go_enter Try.func57, Try.ntmps57
  go_wp2_with (first | ((with_reducible refine gate_dst (N := 2) rfl ?_); refine box_event ?hg (N := 2) ?hd (cs := #[.int .i64 a0_0, .int .i64 a0_1]) (t := 27) ?hr ?_; (case hd => rfl); (case hg => rfl); (case hr => first | (go_simp; done) | (go_simp; rfl)); intro gb198 hg w8 hbox hb; have n0_ := Aside0.mk (below_step hb_ hb); have n1_ := Aside0.mk (hbox); have n2_ := Aside0.mk ((by rw [hg]; exact (below_size hb_) : w.heap.size ≤ gb198)); have n3_ := Aside0.mk ((by rw [hg]; exact (below_size hb_) : w.heap.size ≤ gb198)); clear HB; have HB := n0_; have BK198 := n1_; have GW198 := n2_; have GE198 := n3_; clear n0_ n1_ n2_ n3_; clear hb hbox hg))
  go_ret
  exact ⟨er_, hb_⟩

end Go.Proofs.Ytkldibidhjonnaa.Q
