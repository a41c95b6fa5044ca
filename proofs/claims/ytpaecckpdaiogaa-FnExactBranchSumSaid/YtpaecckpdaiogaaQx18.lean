/- Plain Lean functions of Go functions, and for each the proof that its call comes to just that answer. Conditions: in each theorem's statement. -/
import Derived.Test.YtpaecckpdaiogaaQx0
import Derived.Test.YtpaecckpdaiogaaQx17
namespace Go.Proofs.Ytpaecckpdaiogaa.Q
open Go.RowKit Go.Proofs.YtpaecckpdaiogaaW.PrintWords Go.Proofs.YtpaecckpdaiogaaW.PrintLast
attribute [local go_sem] max2_int min2_int max_two min_two   -- for this text's walks alone
set_option linter.unusedVariables false
set_option linter.unusedSimpArgs false

/-! ### slices_DeleteFunc_int_int: function 77 -/
theorem hzero3 (w : World) : (zeroValue 3).run Try.prog w = .ok (.int .i64 0) w := by kernel_rfl

theorem blk_setCells {g : Nat} {t : TypeId} : ∀ (vs : List Value) (i : Nat) (w : World) (cs : Array Value), w.heap[g]? = some (.cells cs t (0, 0)) → i + vs.length ≤ cs.size →
  ∃ cs' : Array Value, (w.setCells g i vs).heap[g]? = some (.cells cs' t (0, 0)) ∧ cs'.size = cs.size ∧ ∀ q, q < i → cs'[q]? = cs[q]?
 | [], i, w, cs, h, _ => ⟨cs, h, rfl, fun _ _ => rfl⟩
 | v :: r, i, w, cs, h, hl => by
  obtain ⟨cs', h', hs, hq⟩ := blk_setCells r (i + 1) (w.setCell ⟨g, i, none⟩ v) (cs.setIfInBounds i v) (blk_set h i v) (by simpa using by simp at hl; omega)
  refine ⟨cs', h', by simpa using hs, fun q hlt => ?_⟩
  rw [hq q (by omega), Array.getElem?_setIfInBounds_ne (by omega)]

theorem below_setCells_g {w0 : World} {g : Nat} (hg : w0.heap.size ≤ g) : ∀ (vs : List Value) (i : Nat) (w : World), Below w0.heap.size w0 w → Below w0.heap.size w0 (w.setCells g i vs)
 | [], _, _, h => h
 | v :: r, i, w, h => below_setCells_g hg r (i + 1) _ (below_set h hg)

/-- A predicate over whole numbers that stays the same while the row g is rewritten. -/
structure PredI (f : Nat) (lb : Array Value) (p : Int → Bool) (xs : List Int) (g : Nat) (I : World → Prop) : Prop where
 grow : ∀ W W', I W → Below W.heap.size W W' → I W'
 set : ∀ W j v, I W → I (W.setCell ⟨g, j, none⟩ v)
 call : ∀ W x, x ∈ xs → I W → Calls Try.prog f (#[.int .i64 x] ++ lb) W fun e w' => e = .returned (.bool (p x)) ∧ Below W.heap.size W w'

theorem idxP_cases (p : Int → Bool) : ∀ (l : List Int) (i : Nat), (idxP p l i = -1 ∧ ∀ x ∈ l, p x = false) ∨ ∃ k, k < l.length ∧ idxP p l i = ((i + k : Nat) : Int) ∧ (∀ x ∈ l.take k, p x = false) ∧ p (rd l k) = true
 | [], i => .inl ⟨rfl, fun _ h => by cases h⟩
 | x :: l, i => by
  have e : idxP p (x :: l) i = if p x = true then (i : Int) else idxP p l ((i : Int) + 1) := rfl
  by_cases h : p x = true
  ·exact .inr ⟨0, by simp, by rw [e, if_pos h]; simp, fun _ h => by simp at h, h⟩
  ·have hx : p x = false := by simpa using h
   rw [if_neg h] at e
   have e2 : ((i : Int) + 1) = ((i + 1 : Nat) : Int) := by omega
   rcases idxP_cases p l (i + 1) with ⟨h1, h2⟩ | ⟨k, h1, h2, h3, h4⟩
   ·exact .inl ⟨by rw [e, e2, h1], fun y hy => by rcases List.mem_cons.1 hy with rfl | hy; exact hx; exact h2 y hy⟩
   ·refine .inr ⟨k + 1, by simpa using h1, by rw [e, e2, h2]; omega, fun y hy => ?_, ?_⟩
    ·simp only [List.take_succ_cons, List.mem_cons] at hy
     rcases hy with rfl | hy
     ·exact hx
     ·exact h3 y hy
    ·have : rd (x :: l) ((k + 1 : Nat) : Int) = rd l (k : Int) := by unfold rd; simp
     rw [this]; exact h4

/-- The row while elements are struck: j are looked at, i are kept. -/
structure DelInv (p : Int → Bool) (xs : List Int) (cur : Array Value) (i j : Nat) : Prop where
 le : i ≤ j
 jn : j ≤ xs.length
 done : cur.toList.take i = nums .i64 ((xs.take j).filter fun x => !p x)
 todo : ∀ q, j ≤ q → q < xs.length → cur[q]? = some (.int .i64 (rd xs q))

theorem rd_get (xs : List Int) (q : Nat) (h : q < xs.length) : xs[q]? = some (rd xs q) := by
 unfold rd
 rw [Int.toNat_natCast, List.getD_eq_getElem?_getD, List.getElem?_eq_getElem h]; rfl
theorem take_rd (xs : List Int) (j : Nat) (h : j < xs.length) : xs.take (j + 1) = xs.take j ++ [rd xs j] := by
 rw [List.take_add_one, rd_get xs j h]; rfl
theorem DelInv.skip {p : Int → Bool} {xs : List Int} {cur : Array Value} {i j : Nat} (h : DelInv p xs cur i j) (hj : j < xs.length) (hp : p (rd xs j) = true) : DelInv p xs cur i (j + 1) :=
 ⟨by have := h.le; omega, hj, by rw [h.done, take_rd xs j hj, List.filter_append]; simp [hp], fun q h1 h2 => h.todo q (by omega) h2⟩
theorem DelInv.keep {p : Int → Bool} {xs : List Int} {cur : Array Value} {i j : Nat} (h : DelInv p xs cur i j) (hj : j < xs.length) (hs : xs.length ≤ cur.size) (hp : p (rd xs j) = false) : DelInv p xs (cur.setIfInBounds i (.int .i64 (rd xs j))) (i + 1) (j + 1) := by
 have hle := h.le
 refine ⟨by omega, hj, ?_, fun q h1 h2 => ?_⟩
 ·have hi : i < cur.size := by omega
  rw [take_rd xs j hj, List.filter_append]
  simp only [List.filter_cons, hp, Bool.not_false, if_true, List.filter_nil]
  rw [nums_append, ← h.done, Array.toList_setIfInBounds, List.take_add_one, List.getElem?_set_self (by simpa using hi)]
  simp [List.take_set_of_le, nums]
 ·rw [Array.getElem?_setIfInBounds_ne (by omega)]; exact h.todo q (by omega) h2

set_option maxHeartbeats 4000000 in
set_option maxRecDepth 100000 in
theorem delete_any (f : Nat) (lb : Array Value) (p : Int → Bool) (eg : ∀ args w, (callFunc f args).run Try.prog w = .ok (.enter f args) w) (g cap : Nat) (xs : List Int) (cur : Array Value) (I : World → Prop) (w0 w : World)
  (hP : PredI f lb p xs g I) (hI : I w) (hB : Below w0.heap.size w0 w) (hg : w0.heap.size ≤ g) (hblk : w.heap[g]? = some (.cells cur 3 (0, 0))) (hs : cur.size = cap) (hl : xs.length ≤ cap) (hc : cap ≤ 9223372036854775807) (ht : cur.toList.take xs.length = nums .i64 xs) :
  Calls Try.prog 77 #[.slice (some ⟨g, 0, none⟩) xs.length cap, .func (.func f) #[] lb] w fun e w' => ∃ cur' : Array Value, e = .returned (.slice (some ⟨g, 0, none⟩) (xs.filter fun x => !p x).length cap) ∧ w'.heap[g]? = some (.cells cur' 3 (0, 0)) ∧ cur'.size = cap ∧ cur'.toList.take (xs.filter fun x => !p x).length = nums .i64 (xs.filter fun x => !p x) ∧ Below w0.heap.size w0 w' := by
 have hat : ∀ q, q < xs.length → cur[q]? = some (.int .i64 (rd xs q)) := fun q hq => by
  have e1 : cur[q]? = (cur.toList.take xs.length)[q]? := by rw [List.getElem?_take, if_pos hq]; simp
  rw [e1, ht]; simp [nums, rd_get xs q hq]
 have hC : (Kd.int .i64).C w (some ⟨g, 0, none⟩) xs.length xs := by
  refine Kd.C_of_reads (d := (0 : Int)) (h1 := fun _ => rfl) ⟨rfl, by omega, fun hn => ⟨_, rfl, fun j hj => ?_⟩⟩
  rw [add_plain, blk_cell hblk j, hat j hj]; rfl
 have hIx := index_any f lb p eg (some ⟨g, 0, none⟩) cap xs w hC hl (by omega) (fun W x hm hb => hP.call W x hm (hP.grow w W hI hb))
 have HIX := Aside0.mk hIx
 clear hIx hC
 have HPI := Aside0.mk hP
 have HIW := Aside0.mk hI
 have HB := Aside0.mk hB
 have HG := Aside0.mk hg
 have BK := Aside0.mk hblk
 have HT := Aside0.mk ht
 have HAT := Aside0.mk hat
 have HS := Aside0.mk hs
 clear hP hI hB hg hblk ht hat hs
 rcases idxP_cases p xs 0 with ⟨e1, hall⟩ | ⟨k0, hk0, e1, hall, hk1⟩
 ·have HX := Aside0.mk (show idxP p xs 0 = -1 from e1)
  have HF := Aside0.mk (show (xs.filter fun x => !p x) = xs from List.filter_eq_self.2 fun x hx => by simp [hall x hx])
  clear e1 hall
  go_enter Try.func77, Try.ntmps77
  go_wp2_with (go_at_call 117; refine HIX.out.mono ?_; rw [HX.out]; rintro e w1 ⟨rfl, hb⟩; have BK1 := Aside0.mk (blk_below BK.out hb); have HB1 := Aside0.mk (below_then HB.out HB.out.size hb); clear hb)
  go_ret
  rw [HF.out]
  exact ⟨cur, rfl, BK1.out, HS.out, HT.out, HB1.out⟩
 ·have HX := Aside0.mk (show idxP p xs 0 = ((k0 : Nat) : Int) by rw [show ((k0 : Nat) : Int) = ((0 + k0 : Nat) : Int) by omega]; exact e1)
  have hne1 : ((k0 : Int) == -1) = false := beq_eq_false_iff_ne.2 (by omega)
  have HD := Aside0.mk (show DelInv p xs cur k0 (k0 + 1) from by
   have h1 : (xs.take k0).filter (fun x => !p x) = xs.take k0 := List.filter_eq_self.2 fun x hx => by simp [hall x hx]
   refine ⟨by omega, hk0, ?_, fun q _ h2 => HAT.out q h2⟩
   rw [take_rd xs k0 hk0, List.filter_append, h1]
   simp only [List.filter_cons, hk1, Bool.not_true, Bool.false_eq_true, if_false, List.filter_nil, List.append_nil]
   have h3 := congrArg (List.take k0) HT.out
   rw [List.take_take, Nat.min_eq_left (by omega)] at h3
   rw [h3]; simp [nums, List.map_take])
  clear e1 hall hk1
  go_enter Try.func77, Try.ntmps77
  go_wp2_with (go_at_call 117; refine HIX.out.mono ?_; rw [HX.out]; rintro e w1 ⟨rfl, hb⟩; have BK1 := Aside0.mk (blk_below BK.out hb); have HB1 := Aside0.mk (below_then HB.out HB.out.size hb); have HI1 := Aside0.mk (HPI.out.grow _ _ HIW.out hb); clear hb)
  go_loopg [5, 6, 7] xs.length (fun gg s5 s6 _ wr => ∃ (i j : Nat) (cu : Array Value), s5 = .int .i64 i ∧ s6 = .int .i64 j ∧ i < j ∧ j ≤ xs.length ∧ xs.length - j ≤ gg ∧ Aside0 (DelInv p xs cu i j) ∧ Aside0 (cu.size = cap) ∧ Aside0 (wr.heap[g]? = some (.cells cu 3 (0, 0))) ∧ Aside0 (I wr) ∧ Aside0 (Below w0.heap.size w0 wr))
  case atStart => exact ⟨k0, k0 + 1, cur, rfl, by go_num, by omega, by omega, by omega, HD, HS, BK1, HI1, HB1⟩
  case round =>
   clear BK1 HI1 HB1 HD BK HS HAT HT HIW HIX HX
   obtain ⟨i, j, cu, rfl, rfl, hij, hjn, hgg, HD, HS, BK, HI, HB⟩ := hrel
   by_cases hlt : j < xs.length
   ·have hltz : (j : Int) < (xs.length : Int) := by omega
    have HM := Aside0.mk (rd_memN xs j hlt)
    have hcj : wr.cell? ⟨g, j, none⟩ = some (.int .i64 (rd xs j)) := (blk_cell BK.out j).trans (HD.out.todo j (Nat.le_refl _) hlt)
    have hisz : i < cu.size := by have := HS.out; omega
    obtain ⟨old, hold⟩ : ∃ old, cu[i]? = some old := ⟨_, Array.getElem?_eq_getElem hisz⟩
    have HO := Aside0.mk hold
    clear hold hisz
    cases hq : p (rd xs j) with
    | false =>
     have HQ := Aside0.mk hq
     clear hq
     go_wp2_with (go_at_fn f; refine (HPI.out.call _ _ HM.out HI.out).mono ?_; rw [HQ.out]; rintro e w2 ⟨rfl, hb⟩; have BK2 := Aside0.mk (blk_below BK.out hb); have HB2 := Aside0.mk (below_then HB.out HB.out.size hb); have HI2 := Aside0.mk (HPI.out.grow _ _ HI.out hb); clear hb; have hc2 : w2.cell? ⟨g, i, none⟩ = some old := (blk_cell BK2.out i).trans HO.out; have hf2 := blk_frozen BK2.out i)
     go_roundg (xs.length - (j + 1))
     case measure => omega
     case rel =>
      have hsz : xs.length ≤ cu.size := by have := HS.out; omega
      exact ⟨i + 1, j + 1, _, by go_num, by go_num, by omega, by omega, Nat.le_refl _, ⟨HD.out.keep hlt hsz HQ.out⟩, ⟨by rw [Array.size_setIfInBounds]; exact HS.out⟩, ⟨blk_set BK2.out i _⟩, ⟨HPI.out.set _ _ _ HI2.out⟩, ⟨below_set HB2.out HG.out⟩⟩
    | true =>
     have HQ := Aside0.mk hq
     clear hq
     go_wp2_with (go_at_fn f; refine (HPI.out.call _ _ HM.out HI.out).mono ?_; rw [HQ.out]; rintro e w2 ⟨rfl, hb⟩; have BK2 := Aside0.mk (blk_below BK.out hb); have HB2 := Aside0.mk (below_then HB.out HB.out.size hb); have HI2 := Aside0.mk (HPI.out.grow _ _ HI.out hb); clear hb)
     go_roundg (xs.length - (j + 1))
     case measure => omega
     case rel => exact ⟨i, j + 1, cu, rfl, by go_num, by omega, by omega, Nat.le_refl _, ⟨HD.out.skip hlt HQ.out⟩, HS, BK2, HI2, HB2⟩
   ·obtain rfl : j = xs.length := by omega
    have hltz : ¬ (xs.length : Int) < (xs.length : Int) := by omega
    have hsz := HS.out
    have hcl : ∀ ty, (Builtin.clear_ #[26] ty #[.slice (some ⟨g, i, none⟩) (xs.length - i) (cap - i)]).run Try.prog wr = .ok (.tuple #[]) (wr.setCells g i (List.replicate (xs.length - i) (.int .i64 0))) := fun ty => by
     have := Lib.run_clear_slice wr 26 3 ty (.int .i64 0) Try.underlying26 hzero3 rfl rfl g i (xs.length - i) (cap - i) (by omega) (fun t ht => by rw [blk_cell BK.out]; simp; omega) (fun t ht => blk_frozen BK.out _)
     exact this
    obtain ⟨cf, hcf1, hcf2, hcf3⟩ := blk_setCells (List.replicate (xs.length - i) (.int .i64 0)) i wr cu BK.out (by simp; omega)
    have HC1 := Aside0.mk hcf1
    have HC2 := Aside0.mk (hcf2.trans hsz)
    have HC3 := Aside0.mk hcf3
    have HB9 := Aside0.mk (below_setCells_g HG.out (List.replicate (xs.length - i) (.int .i64 0)) i wr HB.out)
    have hdn := HD.out.done
    rw [List.take_length] at hdn
    have hlen : (xs.filter fun x => !p x).length = i := by
     have h1 := congrArg List.length hdn
     rw [nums_length, List.length_take, Nat.min_eq_left (by simp; omega)] at h1
     exact h1.symm
    have HDN := Aside0.mk hdn
    have HLN := Aside0.mk hlen
    clear hcf1 hcf2 hcf3 hdn hlen hsz
    go_wp2
    go_ret
    rw [HLN.out]
    refine ⟨rfl, cf, HC1.out, HC2.out, ?_, HB9.out⟩
    rw [← HDN.out]
    apply List.ext_getElem?
    intro q
    rw [List.getElem?_take, List.getElem?_take]
    by_cases hq : q < i
    ·rw [if_pos hq, if_pos hq]; simpa using HC3.out q hq
    ·rw [if_neg hq, if_neg hq]

/-- A row of whole numbers of the call's own: none, or its block. -/
theorem own_cases {e : Nat} {w : World} {base : Nat} {ok : Nat → Prop} {v : Value} {xs : List Int} (h : Kd.R (Kd.int .i64) e w base ok v xs) :
  (v = .slice none 0 0 ∧ xs = []) ∨ ∃ (g cap : Nat) (cur : Array Value), v = .slice (some ⟨g, 0, none⟩) xs.length cap ∧ base ≤ g ∧ w.heap[g]? = some (.cells cur e (0, 0)) ∧ cur.size = cap ∧ xs.length ≤ cap ∧ cap ≤ 9223372036854775807 ∧ cur.toList.take xs.length = nums .i64 xs := by
 have ho := Kd.own_of_R h
 obtain ⟨h1, h2⟩ := ho
 rcases h2 with ⟨h2, h3⟩ | ⟨g, cap, cur, rfl, hg, hh, r1, r2, r3, r4⟩
 ·exact .inl ⟨h2, List.length_eq_zero_iff.1 h3⟩
 ·refine .inr ⟨g, cap, cur, rfl, hg, hh, by simpa using r3, r1, by simpa [maxLen] using r2, ?_⟩
  have := r4
  simpa [nums, encs] using this
theorem own_block {e : Nat} {w : World} {base : Nat} {ok : Nat → Prop} {v : Value} {xs : List Int} (h : Kd.R (Kd.int .i64) e w base ok v xs) (hp : 0 < xs.length) :
  ∃ (g cap : Nat) (cur : Array Value), v = .slice (some ⟨g, 0, none⟩) xs.length cap ∧ base ≤ g ∧ w.heap[g]? = some (.cells cur e (0, 0)) ∧ cur.size = cap ∧ xs.length ≤ cap ∧ cap ≤ 9223372036854775807 ∧ cur.toList.take xs.length = nums .i64 xs := by
 rcases own_cases h with ⟨_, rfl⟩ | h
 ·simp at hp
 ·exact h
theorem ints_reads {w : World} {g e : Nat} {cur : Array Value} (xs : List Int) (hl : xs.length ≤ 9223372036854775807) (ht : cur.toList.take xs.length = nums .i64 xs) (h : w.heap[g]? = some (.cells cur e (0, 0))) :
  (Kd.int .i64).C w (some ⟨g, 0, none⟩) xs.length xs := by
 have hat : ∀ q, q < xs.length → cur[q]? = some (.int .i64 (rd xs q)) := fun q hq => by
  have e1 : cur[q]? = (cur.toList.take xs.length)[q]? := by rw [List.getElem?_take, if_pos hq]; simp
  rw [e1, ht]; simp [nums, rd_get xs q hq]
 refine Kd.C_of_reads (d := (0 : Int)) (h1 := fun _ => rfl) ⟨rfl, hl, fun hn => ⟨_, rfl, fun j hj => ?_⟩⟩
 rw [add_plain, blk_cell h j, hat j hj]; rfl

set_option maxHeartbeats 4000000 in
set_option maxRecDepth 100000 in
theorem delete_nil (f : Nat) (lb : Array Value) (p : Int → Bool) (eg : ∀ args w, (callFunc f args).run Try.prog w = .ok (.enter f args) w) (w : World) :
  Calls Try.prog 77 #[.slice none 0 0, .func (.func f) #[] lb] w fun e w' => e = .returned (.slice none 0 0) ∧ Below w.heap.size w w' := by
 have HIX := Aside0.mk (index_any f lb p eg none 0 [] w (Kd.C_nil _ w) (Nat.le_refl _) (by simp) (fun W x hm _ => absurd hm (by simp)))
 go_enter Try.func77, Try.ntmps77
 go_wp2_with (go_at_call 117; refine HIX.out.mono ?_; rintro e w1 ⟨rfl, hb⟩)
 go_ret
 exact ⟨rfl, hb⟩

/-- slices.DeleteFunc over a row of the call's own. -/
theorem delete_row (f : Nat) (lb : Array Value) (p : Int → Bool) (eg : ∀ args w, (callFunc f args).run Try.prog w = .ok (.enter f args) w) (v : Value) (xs : List Int) (ok : Nat → Prop) (I : World → Prop) (w0 w : World)
  (hP : ∀ g, v.ownBlock = some g → PredI f lb p xs g I) (hI : I w) (hB : Below w0.heap.size w0 w) (hr : Kd.R (Kd.int .i64) 3 w w0.heap.size ok v xs) :
  Calls Try.prog 77 #[v, .func (.func f) #[] lb] w fun e w' => ∃ v' : Value, e = .returned v' ∧ Kd.R (Kd.int .i64) 3 w' w0.heap.size (fun _ => True) v' (xs.filter fun x => !p x) ∧ Below w0.heap.size w0 w' := by
 rcases own_cases hr with ⟨rfl, rfl⟩ | ⟨g, cap, cur, rfl, hg, hk, hs, hl, hc, ht⟩
 ·refine (delete_nil f lb p eg w).mono ?_
  rintro e w' ⟨rfl, hb⟩
  exact ⟨_, rfl, Kd.R_nil _ _ _ _ _, below_step hB hb⟩
 ·refine (delete_any f lb p eg g cap xs cur I w0 w (hP g (by simp [Value.ownBlock])) hI hB hg hk hs hl hc ht).mono ?_
  rintro e w' ⟨cur', rfl, k, s, t, b⟩
  exact ⟨_, rfl, ints_own _ hc (Nat.le_trans (List.length_filter_le _ _) hl) s t hg k, b⟩

/-! ### impl_upTo: function 105 -/
def impl_upTo.l0 : Nat → Int → List Int → Int → Option (List Int)
 | 0, _, _, _ => none
 | k + 1, x0, x3, x4 => if x4 < x0 then (if x3.length < 17592186044416 then (impl_upTo.l0 k x0 (x3 ++ [x4]) (wrap64 (x4 + 1))) else (none)) else (some x3)
def impl_upTo.f (k : Nat) (a0 : Int) : Option (List Int) := impl_upTo.l0 k a0 ([] : List Int) 0
theorem impl_upTo.mono_l : ∀ k, (∀ y0 y1 y2, LeO (impl_upTo.l0 k y0 y1 y2) (impl_upTo.l0 (k + 1) y0 y1 y2))
 | 0 => fun _ _ _ r h => by simp [impl_upTo.l0] at h
 | k + 1 => by
  have ih0 := impl_upTo.mono_l k
  ·intro y0 y1 y2
   unfold impl_upTo.l0
   repeat' first
   | (with_reducible exact ih0 _ _ _)
   | (with_reducible exact LeO.refl _)
   | (with_reducible exact LeO.none _)
   | (with_reducible refine LeO.ite ?_ ?_)
   | (with_reducible refine LeO.bind ?_ (fun _ => ?_))
   | exact ih0 _ _ _
   | exact LeO.none _
   | refine LeO.ite ?_ ?_
   | refine LeO.bind ?_ (fun _ => ?_)
theorem impl_upTo.mono : ∀ a0 k, LeO (impl_upTo.f k a0) (impl_upTo.f (k + 1) a0) := by
 intro a0 k
 have ih0 := impl_upTo.mono_l k
 unfold impl_upTo.f
 repeat' first
   | (with_reducible exact ih0 _ _ _)
   | (with_reducible exact LeO.refl _)
   | (with_reducible exact LeO.none _)
   | (with_reducible refine LeO.ite ?_ ?_)
   | (with_reducible refine LeO.bind ?_ (fun _ => ?_))
   | exact ih0 _ _ _
   | exact LeO.none _
   | refine LeO.ite ?_ ?_
   | refine LeO.bind ?_ (fun _ => ?_)
set_option maxHeartbeats 8000000 in
set_option maxRecDepth 100000 in
theorem impl_upTo.calls (k : Nat) (a0 : Int) (r : List Int) (w : World) (h : impl_upTo.f k a0 = some r) :
  Calls Try.prog 105 #[.int .i64 a0] w fun e w' => ∃ v0_ : Value, e = .returned (v0_) ∧ Kd.R (Kd.int .i64) 3 w' w.heap.size (fun _ => True) v0_ r ∧ Below w.heap.size w w' := by
 have HB := Aside0.mk (Below.refl w.heap.size w)
 have H : (impl_upTo.l0 k a0 ([] : List Int) 0) = some r := h
 clear h
 have H' := Aside0.mk H
 clear H
 go_enter Try.func105, Try.ntmps105
 go_wp2
 go_loopg [3, 4] k (fun kq v3 v4 w' => ∃ (x3_1 : List Int) (x4_1 : Int), v4 = .int .i64 x4_1 ∧ Aside0 (impl_upTo.l0 kq a0 x3_1 x4_1 = some r) ∧ Aside0 (kq ≤ k) ∧ Aside0 (Kd.R (Kd.int .i64) 3 w' w.heap.size (fun _ => True) v3 x3_1) ∧ Aside0 (Below w.heap.size w w'))
 case atStart => exact ⟨(([] : List Int)), (0), (by first | rfl | (simp; done) | (simp [*]; done)), H', ⟨Nat.le_refl _⟩, ⟨by first | exact Kd.R_nil _ _ _ _ _ | exact Kd.N_nil _ _ _ _ _ | exact Kd.V_nil _ _ _ _ _ | exact Kd.Q_nil _ _ _ _ _ | exact Kd.S_nil _ _ _ _ _⟩, ⟨hb_⟩⟩
 case round =>
  clear H'
  try clear c1
  obtain ⟨x3_1, x4_1, rfl, HA, HK1, HO_3, HB⟩ := hrel
  cases gk with
  | zero => exact absurd HA.out (by simp [impl_upTo.l0])
  | succ k1 =>
   have H := HA.out
   clear HA
   simp only [impl_upTo.l0] at H
   by_cases c2 : x4_1 < a0
   ·rw [if_pos c2] at H
    have c2b0 : decide (x4_1 < a0) = true := decide_eq_true c2
    clear c2
    by_cases c3 : x3_1.length < 17592186044416
    ·rw [if_pos c3] at H
     have LMc3 := Aside0.mk c3
     clear c3
     obtain ⟨y185, hy185⟩ : ∃ y_ : List Int, y_ = (x3_1 ++ [x4_1]) := ⟨_, rfl⟩
     replace H : (impl_upTo.l0 k1 a0 y185 (wrap64 (x4_1 + 1))) = some r := by first | (rw [hy185]; with_reducible exact H) | (have H2_ := (Option.bind_some _ _).symm.trans H; rw [hy185]; with_reducible exact H2_) | (have H2_ := (Option.bind_some _ _).symm.trans H; with_reducible exact H2_) | with_reducible exact H | (rw [hy185]; exact H) | exact H
     have Ny185 := Aside0.mk hy185
     clear hy185
     have H' := Aside0.mk H
     clear H
     go_wp2_with (first | ((with_reducible refine gate_builtin (b := .append) (xs := #[.tmp 10, .tmp 12]) rfl ?_); at_builtin; refine Kd.R_append (Kd.int .i64) (w0 := w) w.heap.size rfl (.tmp 10) (.tmp 12) 26 3 (.int .i64 0) 8 rfl Try.underlying26 info3 rfl (by decide) (by omega) u3 x3_1 x4_1 [.int .i64 x4_1] (fun _ => True) (fun _ => False) rfl rfl ?aP (fun _ hk => hk.elim) ?aF ?aO ?aB ?aS ?aL ?_; (case aP => exact rfl); (case aB => exact hb_); (case aF => exact (fun _ _ => trivial)); (case aO => exact (kr_ HO_3.out)); (case aS => exact (below_size hb_)); (case aL => have := LMc3.out; omega); intro v186 w4 ho hb hg hat; rw [← Ny185.out] at ho; have n0_ := Aside0.mk (hb); have n1_ := Aside0.mk (ho); clear HB; clear HO_3; have HB := n0_; have HO187 := n1_; clear n0_ n1_; clear ho hb hg hat))
     go_roundg k1
     case measure => have := HK1.out; omega
     case rel => exact ⟨(y185), (wrap64 (x4_1 + 1)), (by first | rfl | (simp; done) | (simp [*]; done)), H', ⟨by have := HK1.out; omega⟩, ⟨kr_ HO187.out⟩, ⟨hb_⟩⟩
    ·rw [if_neg c3] at H
     exact absurd H (by simp)
   ·rw [if_neg c2] at H
    have c2b0 : decide (x4_1 < a0) = false := decide_eq_false c2
    clear c2
    obtain rfl := Option.some.inj H
    go_wp2
    go_ret
    exact ⟨_, er_, kr_ HO_3.out, hb_⟩

end Go.Proofs.Ytpaecckpdaiogaa.Q
