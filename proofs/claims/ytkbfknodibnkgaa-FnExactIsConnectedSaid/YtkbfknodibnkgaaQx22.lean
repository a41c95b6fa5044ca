/- Plain Lean functions of the Go functions that this seat's laws reach, and for each the proof that a call of it comes to just that function's answer; laid by a program of this session over the kit's print. Conditions: those in each theorem's own statement. -/
import Derived.Test.YtkbfknodibnkgaaQx0
import Derived.Test.YtkbfknodibnkgaaQx9
import Derived.Test.YtkbfknodibnkgaaQx21
import Derived.Test.YtkbfknodibnkgaaQx23
namespace Go.Proofs.Ytkbfknodibnkgaa.Q
open Go.RowKit Go.Proofs.YtkbfknodibnkgaaW.PrintWords Go.Proofs.YtkbfknodibnkgaaW.PrintLast Go.Proofs.YtkbfknodibnkgaaW.PrintMore
attribute [local go_sem] max2_int min2_int max_two min_two max_three min_three max_four min_four   -- for this text's walks alone
set_option linter.unusedVariables false
set_option linter.unusedSimpArgs false

/-! ### slices_DeleteFunc_int_int: function 36 -/
theorem hzero3 (w : World) : (zeroValue 3).run Try.prog w = .ok (.int .i64 0) w := by kernel_rfl

theorem blk_setCells {g : Nat} {t : TypeId} : ∀ (vs : List Value) (i : Nat) (w : World) (cs : Array Value), w.heap[g]? = some (.cells cs t (0, 0)) → i + vs.length ≤ cs.size →
    ∃ cs' : Array Value, (w.setCells g i vs).heap[g]? = some (.cells cs' t (0, 0)) ∧ cs'.size = cs.size ∧ ∀ q, q < i → cs'[q]? = cs[q]?
  | [], i, w, cs, h, _ => ⟨cs, h, rfl, fun _ _ => rfl⟩
  | v :: r, i, w, cs, h, hl => by
    obtain ⟨cs', h', hs, hq⟩ := blk_setCells r (i + 1) (w.setCell ⟨g, i, none⟩ v) (cs.setIfInBounds i v) (blk_set h i v) (by simpa using by simp at hl; omega)
    refine ⟨cs', h', by simpa using hs, fun q hlt => ?_⟩
    rw [hq q (by omega), Array.getElem?_setIfInBounds_ne (by omega)]

theorem below_setCells_g {w0 : World} {g : Nat} (hg : w0.heap.size ≤ g) : ∀ (vs : List Value) (i : Nat) (w : World), Below w0.heap.size w0 w → Below w0.heap.size w0 (w.setCells g i vs)
  | [], _, _, h => h
  | v :: r, i, w, h => below_setCells_g hg r (i + 1) _ (below_set h hg)

/-- A predicate over whole numbers that stays the same while the row g is rewritten. -/
structure PredI (f : Nat) (lb : Array Value) (p : Int → Bool) (xs : List Int) (g : Nat) (I : World → Prop) : Prop where
  grow : ∀ W W', I W → Below W.heap.size W W' → I W'
  set : ∀ W j v, I W → I (W.setCell ⟨g, j, none⟩ v)
  call : ∀ W x, x ∈ xs → I W → Calls Try.prog f (#[.int .i64 x] ++ lb) W fun e w' => e = .returned (.bool (p x)) ∧ Below W.heap.size W w'

theorem idxP_cases (p : Int → Bool) : ∀ (l : List Int) (i : Nat), (idxP p l i = -1 ∧ ∀ x ∈ l, p x = false) ∨ ∃ k, k < l.length ∧ idxP p l i = ((i + k : Nat) : Int) ∧ (∀ x ∈ l.take k, p x = false) ∧ p (rd l k) = true
  | [], i => .inl ⟨rfl, fun _ h => by cases h⟩
  | x :: l, i => by
    have e : idxP p (x :: l) i = if p x = true then (i : Int) else idxP p l ((i : Int) + 1) := rfl
    by_cases h : p x = true
    · exact .inr ⟨0, by simp, by rw [e, if_pos h]; simp, fun _ h => by simp at h, h⟩
    · have hx : p x = false := by simpa using h
      rw [if_neg h] at e
      have e2 : ((i : Int) + 1) = ((i + 1 : Nat) : Int) := by omega
      rcases idxP_cases p l (i + 1) with ⟨h1, h2⟩ | ⟨k, h1, h2, h3, h4⟩
      · exact .inl ⟨by rw [e, e2, h1], fun y hy => by rcases List.mem_cons.1 hy with rfl | hy; exact hx; exact h2 y hy⟩
      · refine .inr ⟨k + 1, by simpa using h1, by rw [e, e2, h2]; omega, fun y hy => ?_, ?_⟩
        · simp only [List.take_succ_cons, List.mem_cons] at hy
          rcases hy with rfl | hy
          · exact hx
          · exact h3 y hy
        · have : rd (x :: l) ((k + 1 : Nat) : Int) = rd l (k : Int) := by unfold rd; simp
          rw [this]; exact h4

/-- The row while elements are struck: j are looked at, i are kept. -/
structure DelInv (p : Int → Bool) (xs : List Int) (cur : Array Value) (i j : Nat) : Prop where
  le : i ≤ j
  jn : j ≤ xs.length
  done : cur.toList.take i = nums .i64 ((xs.take j).filter fun x => !p x)
  todo : ∀ q, j ≤ q → q < xs.length → cur[q]? = some (.int .i64 (rd xs q))

theorem rd_get (xs : List Int) (q : Nat) (h : q < xs.length) : xs[q]? = some (rd xs q) := by
  unfold rd
  rw [Int.toNat_natCast, List.getD_eq_getElem?_getD, List.getElem?_eq_getElem h]; rfl
theorem take_rd (xs : List Int) (j : Nat) (h : j < xs.length) : xs.take (j + 1) = xs.take j ++ [rd xs j] := by
  rw [List.take_add_one, rd_get xs j h]; rfl
theorem DelInv.skip {p : Int → Bool} {xs : List Int} {cur : Array Value} {i j : Nat} (h : DelInv p xs cur i j) (hj : j < xs.length) (hp : p (rd xs j) = true) : DelInv p xs cur i (j + 1) :=
  ⟨by have := h.le; omega, hj, by rw [h.done, take_rd xs j hj, List.filter_append]; simp [hp], fun q h1 h2 => h.todo q (by omega) h2⟩
theorem DelInv.keep {p : Int → Bool} {xs : List Int} {cur : Array Value} {i j : Nat} (h : DelInv p xs cur i j) (hj : j < xs.length) (hs : xs.length ≤ cur.size) (hp : p (rd xs j) = false) : DelInv p xs (cur.setIfInBounds i (.int .i64 (rd xs j))) (i + 1) (j + 1) := by
  have hle := h.le
  refine ⟨by omega, hj, ?_, fun q h1 h2 => ?_⟩
  · have hi : i < cur.size := by omega
    rw [take_rd xs j hj, List.filter_append]
    simp only [List.filter_cons, hp, Bool.not_false, if_true, List.filter_nil]
    rw [nums_append, ← h.done, Array.toList_setIfInBounds, List.take_add_one, List.getElem?_set_self (by simpa using hi)]
    simp [List.take_set_of_le, nums]
  · rw [Array.getElem?_setIfInBounds_ne (by omega)]; exact h.todo q (by omega) h2

set_option maxHeartbeats 4000000 in
set_option maxRecDepth 100000 in
theorem delete_any (f : Nat) (lb : Array Value) (p : Int → Bool) (eg : ∀ args w, (callFunc f args).run Try.prog w = .ok (.enter f args) w) (g cap : Nat) (xs : List Int) (cur : Array Value) (I : World → Prop) (w0 w : World)
    (hP : PredI f lb p xs g I) (hI : I w) (hB : Below w0.heap.size w0 w) (hg : w0.heap.size ≤ g) (hblk : w.heap[g]? = some (.cells cur 3 (0, 0))) (hs : cur.size = cap) (hl : xs.length ≤ cap) (hc : cap ≤ 9223372036854775807) (ht : cur.toList.take xs.length = nums .i64 xs) :
    Calls Try.prog 36 #[.slice (some ⟨g, 0, none⟩) xs.length cap, .func (.func f) #[] lb] w fun e w' => ∃ cur' : Array Value, e = .returned (.slice (some ⟨g, 0, none⟩) (xs.filter fun x => !p x).length cap) ∧ w'.heap[g]? = some (.cells cur' 3 (0, 0)) ∧ cur'.size = cap ∧ cur'.toList.take (xs.filter fun x => !p x).length = nums .i64 (xs.filter fun x => !p x) ∧ Below w0.heap.size w0 w' := by
  have hat : ∀ q, q < xs.length → cur[q]? = some (.int .i64 (rd xs q)) := fun q hq => by
    have e1 : cur[q]? = (cur.toList.take xs.length)[q]? := by rw [List.getElem?_take, if_pos hq]; simp
    rw [e1, ht]; simp [nums, rd_get xs q hq]
  have hC : (Kd.int .i64).C w (some ⟨g, 0, none⟩) xs.length xs := by
    refine Kd.C_of_reads (d := (0 : Int)) (h1 := fun _ => rfl) ⟨rfl, by omega, fun hn => ⟨_, rfl, fun j hj => ?_⟩⟩
    rw [add_plain, blk_cell hblk j, hat j hj]; rfl
  have hIx := index_any f lb p eg (some ⟨g, 0, none⟩) cap xs w hC hl (by omega) (fun W x hm hb => hP.call W x hm (hP.grow w W hI hb))
  have HIX := Aside0.mk hIx
  clear hIx hC
  have HPI := Aside0.mk hP
  have HIW := Aside0.mk hI
  have HB := Aside0.mk hB
  have HG := Aside0.mk hg
  have BK := Aside0.mk hblk
  have HT := Aside0.mk ht
  have HAT := Aside0.mk hat
  have HS := Aside0.mk hs
  clear hP hI hB hg hblk ht hat hs
  rcases idxP_cases p xs 0 with ⟨e1, hall⟩ | ⟨k0, hk0, e1, hall, hk1⟩
  · have HX := Aside0.mk (show idxP p xs 0 = -1 from e1)
    have HF := Aside0.mk (show (xs.filter fun x => !p x) = xs from List.filter_eq_self.2 fun x hx => by simp [hall x hx])
    clear e1 hall
    go_enter Try.func36, Try.ntmps36
    go_wp2_with (go_at_call 67; refine HIX.out.mono ?_; rw [HX.out]; rintro e w1 ⟨rfl, hb⟩; have BK1 := Aside0.mk (blk_below BK.out hb); have HB1 := Aside0.mk (below_then HB.out HB.out.size hb); clear hb)
    go_ret
    rw [HF.out]
    exact ⟨cur, rfl, BK1.out, HS.out, HT.out, HB1.out⟩
  · have HX := Aside0.mk (show idxP p xs 0 = ((k0 : Nat) : Int) by rw [show ((k0 : Nat) : Int) = ((0 + k0 : Nat) : Int) by omega]; exact e1)
    have hne1 : ((k0 : Int) == -1) = false := beq_eq_false_iff_ne.2 (by omega)
    have HD := Aside0.mk (show DelInv p xs cur k0 (k0 + 1) from by
      have h1 : (xs.take k0).filter (fun x => !p x) = xs.take k0 := List.filter_eq_self.2 fun x hx => by simp [hall x hx]
      refine ⟨by omega, hk0, ?_, fun q _ h2 => HAT.out q h2⟩
      rw [take_rd xs k0 hk0, List.filter_append, h1]
      simp only [List.filter_cons, hk1, Bool.not_true, Bool.false_eq_true, if_false, List.filter_nil, List.append_nil]
      have h3 := congrArg (List.take k0) HT.out
      rw [List.take_take, Nat.min_eq_left (by omega)] at h3
      rw [h3]; simp [nums, List.map_take])
    clear e1 hall hk1
    go_enter Try.func36, Try.ntmps36
    go_wp2_with (go_at_call 67; refine HIX.out.mono ?_; rw [HX.out]; rintro e w1 ⟨rfl, hb⟩; have BK1 := Aside0.mk (blk_below BK.out hb); have HB1 := Aside0.mk (below_then HB.out HB.out.size hb); have HI1 := Aside0.mk (HPI.out.grow _ _ HIW.out hb); clear hb)
    go_loopg [5, 6, 7] xs.length (fun gg s5 s6 _ wr => ∃ (i j : Nat) (cu : Array Value), s5 = .int .i64 i ∧ s6 = .int .i64 j ∧ i < j ∧ j ≤ xs.length ∧ xs.length - j ≤ gg ∧ Aside0 (DelInv p xs cu i j) ∧ Aside0 (cu.size = cap) ∧ Aside0 (wr.heap[g]? = some (.cells cu 3 (0, 0))) ∧ Aside0 (I wr) ∧ Aside0 (Below w0.heap.size w0 wr))
    case atStart => exact ⟨k0, k0 + 1, cur, rfl, by go_num, by omega, by omega, by omega, HD, HS, BK1, HI1, HB1⟩
    case round =>
      clear BK1 HI1 HB1 HD BK HS HAT HT HIW HIX HX
      obtain ⟨i, j, cu, rfl, rfl, hij, hjn, hgg, HD, HS, BK, HI, HB⟩ := hrel
      by_cases hlt : j < xs.length
      · have hltz : (j : Int) < (xs.length : Int) := by omega
        have HM := Aside0.mk (rd_memN xs j hlt)
        have hcj : wr.cell? ⟨g, j, none⟩ = some (.int .i64 (rd xs j)) := (blk_cell BK.out j).trans (HD.out.todo j (Nat.le_refl _) hlt)
        have hisz : i < cu.size := by have := HS.out; omega
        obtain ⟨old, hold⟩ : ∃ old, cu[i]? = some old := ⟨_, Array.getElem?_eq_getElem hisz⟩
        have HO := Aside0.mk hold
        clear hold hisz
        cases hq : p (rd xs j) with
        | false =>
          have HQ := Aside0.mk hq
          clear hq
          go_wp2_with (go_at_fn f; refine (HPI.out.call _ _ HM.out HI.out).mono ?_; rw [HQ.out]; rintro e w2 ⟨rfl, hb⟩; have BK2 := Aside0.mk (blk_below BK.out hb); have HB2 := Aside0.mk (below_then HB.out HB.out.size hb); have HI2 := Aside0.mk (HPI.out.grow _ _ HI.out hb); clear hb; have hc2 : w2.cell? ⟨g, i, none⟩ = some old := (blk_cell BK2.out i).trans HO.out; have hf2 := blk_frozen BK2.out i)
          go_roundg (xs.length - (j + 1))
          case measure => omega
          case rel =>
            have hsz : xs.length ≤ cu.size := by have := HS.out; omega
            exact ⟨i + 1, j + 1, _, by go_num, by go_num, by omega, by omega, Nat.le_refl _, ⟨HD.out.keep hlt hsz HQ.out⟩, ⟨by rw [Array.size_setIfInBounds]; exact HS.out⟩, ⟨blk_set BK2.out i _⟩, ⟨HPI.out.set _ _ _ HI2.out⟩, ⟨below_set HB2.out HG.out⟩⟩
        | true =>
          have HQ := Aside0.mk hq
          clear hq
          go_wp2_with (go_at_fn f; refine (HPI.out.call _ _ HM.out HI.out).mono ?_; rw [HQ.out]; rintro e w2 ⟨rfl, hb⟩; have BK2 := Aside0.mk (blk_below BK.out hb); have HB2 := Aside0.mk (below_then HB.out HB.out.size hb); have HI2 := Aside0.mk (HPI.out.grow _ _ HI.out hb); clear hb)
          go_roundg (xs.length - (j + 1))
          case measure => omega
          case rel => exact ⟨i, j + 1, cu, rfl, by go_num, by omega, by omega, Nat.le_refl _, ⟨HD.out.skip hlt HQ.out⟩, HS, BK2, HI2, HB2⟩
      · obtain rfl : j = xs.length := by omega
        have hltz : ¬ (xs.length : Int) < (xs.length : Int) := by omega
        have hsz := HS.out
        have hcl : ∀ ty, (Builtin.clear_ #[26] ty #[.slice (some ⟨g, i, none⟩) (xs.length - i) (cap - i)]).run Try.prog wr = .ok (.tuple #[]) (wr.setCells g i (List.replicate (xs.length - i) (.int .i64 0))) := fun ty => by
          have := Lib.run_clear_slice wr 26 3 ty (.int .i64 0) Try.underlying26 hzero3 rfl rfl g i (xs.length - i) (cap - i) (by omega) (fun t ht => by rw [blk_cell BK.out]; simp; omega) (fun t ht => blk_frozen BK.out _)
          exact this
        obtain ⟨cf, hcf1, hcf2, hcf3⟩ := blk_setCells (List.replicate (xs.length - i) (.int .i64 0)) i wr cu BK.out (by simp; omega)
        have HC1 := Aside0.mk hcf1
        have HC2 := Aside0.mk (hcf2.trans hsz)
        have HC3 := Aside0.mk hcf3
        have HB9 := Aside0.mk (below_setCells_g HG.out (List.replicate (xs.length - i) (.int .i64 0)) i wr HB.out)
        have hdn := HD.out.done
        rw [List.take_length] at hdn
        have hlen : (xs.filter fun x => !p x).length = i := by
          have h1 := congrArg List.length hdn
          rw [nums_length, List.length_take, Nat.min_eq_left (by simp; omega)] at h1
          exact h1.symm
        have HDN := Aside0.mk hdn
        have HLN := Aside0.mk hlen
        clear hcf1 hcf2 hcf3 hdn hlen hsz
        go_wp2
        go_ret
        rw [HLN.out]
        refine ⟨rfl, cf, HC1.out, HC2.out, ?_, HB9.out⟩
        rw [← HDN.out]
        apply List.ext_getElem?
        intro q
        rw [List.getElem?_take, List.getElem?_take]
        by_cases hq : q < i
        · rw [if_pos hq, if_pos hq]; simpa using HC3.out q hq
        · rw [if_neg hq, if_neg hq]

/-! ### impl_Reached: function 16 -/
def impl_Reached.f (k : Nat) (a0_0 : Int) (a0_1 : Int) (a0_2 : Int) (a1 : Int) : Option (List Int) := (impl_isIn.f a0_0 a0_1 a0_2 [a1]).bind fun t => if t = true then (impl_distances.f k a0_0 a0_1 a0_2 a1).bind fun far => (impl_upTo.f k (far.length : Int)).bind fun l => if (decide (0 < far.length) && (decide (0 < l.length) && l.all fun x => decide (0 ≤ x) && decide (x < (far.length : Int)))) = true then some (l.filter fun x => !(decide (rd far x < 0))) else none else some []
theorem impl_Reached.mono : ∀ a0 a1 a2 a3 k, LeO (impl_Reached.f k a0 a1 a2 a3) (impl_Reached.f (k + 1) a0 a1 a2 a3) := fun a0 a1 a2 a3 k =>
  LeO.bind (LeO.refl _) (fun _ => LeO.ite (LeO.bind (impl_distances.mono a0 a1 a2 a3 k) (fun _ => LeO.bind (impl_upTo.mono _ k) (fun _ => LeO.refl _))) (LeO.refl _))

/-- A row of whole numbers of the call's own: its block. -/
theorem own_block {e : Nat} {w : World} {base : Nat} {ok : Nat → Prop} {v : Value} {xs : List Int} (h : Kd.R (Kd.int .i64) e w base ok v xs) (hp : 0 < xs.length) :
    ∃ (g cap : Nat) (cur : Array Value), v = .slice (some ⟨g, 0, none⟩) xs.length cap ∧ base ≤ g ∧ w.heap[g]? = some (.cells cur e (0, 0)) ∧ cur.size = cap ∧ xs.length ≤ cap ∧ cap ≤ 9223372036854775807 ∧ cur.toList.take xs.length = nums .i64 xs := by
  have ho := Kd.own_of_R h
  obtain ⟨h1, h2⟩ := ho
  rcases h2 with ⟨_, h2⟩ | ⟨g, cap, cur, rfl, hg, hh, r1, r2, r3, r4⟩
  · omega
  · refine ⟨g, cap, cur, rfl, hg, hh, by simpa using r3, r1, by simpa [maxLen] using r2, ?_⟩
    have := r4
    simpa [nums, encs] using this

set_option maxHeartbeats 4000000 in
set_option maxRecDepth 100000 in
theorem far_fn (gb gf cap : Nat) (far : List Int) (x : Int) (w : World) (h0 : 0 ≤ x) (h1 : x < (far.length : Int)) (hbx : w.heap[gb]? = some (.cells #[.slice (some ⟨gf, 0, none⟩) far.length cap] 26 (0, 0))) (hf : (Kd.int .i64).C w (some ⟨gf, 0, none⟩) far.length far) :
    Calls Try.prog 38 #[.int .i64 x, .pointer (some ⟨gb, 0, none⟩)] w fun e w' => e = .returned (.bool (decide (rd far x < 0))) ∧ Below w.heap.size w w' := by
  have hc0 : w.cell? ⟨gb, 0, none⟩ = some (.slice (some ⟨gf, 0, none⟩) far.length cap) := (blk_cell hbx 0).trans rfl
  have hl : far.length ≤ 9223372036854775807 := hf.2.1
  obtain ⟨ad, e, hcell⟩ := Kd.at_int hf x h0 h1
  cases e
  rw [add_plain] at hcell
  clear hbx hf
  go_enter Try.func38, Try.ntmps38
  go_wp2
  go_ret
  exact ⟨rfl, Below.refl _ _⟩

theorem ints_reads {w : World} {g e : Nat} {cur : Array Value} (xs : List Int) (hl : xs.length ≤ 9223372036854775807) (ht : cur.toList.take xs.length = nums .i64 xs) (h : w.heap[g]? = some (.cells cur e (0, 0))) :
    (Kd.int .i64).C w (some ⟨g, 0, none⟩) xs.length xs := by
  have hat : ∀ q, q < xs.length → cur[q]? = some (.int .i64 (rd xs q)) := fun q hq => by
    have e1 : cur[q]? = (cur.toList.take xs.length)[q]? := by rw [List.getElem?_take, if_pos hq]; simp
    rw [e1, ht]; simp [nums, rd_get xs q hq]
  refine Kd.C_of_reads (d := (0 : Int)) (h1 := fun _ => rfl) ⟨rfl, hl, fun hn => ⟨_, rfl, fun j hj => ?_⟩⟩
  rw [add_plain, blk_cell h j, hat j hj]; rfl

theorem blk_fresh_set (w : World) (v0 v : Value) (t : TypeId) : ((w.alloc (.cells #[v0] t)).setCell ⟨w.heap.size, 0, none⟩ v).heap[w.heap.size]? = some (.cells #[v] t (0, 0)) := by
  have h : (w.alloc (.cells #[v0] t)).heap[w.heap.size]? = some (.cells #[v0] t (0, 0)) := blk_new w _
  have := blk_set h 0 v
  simpa using this

theorem far_pred (gb gf g cap : Nat) (far xs : List Int) (curf : Array Value) (hl : far.length ≤ 9223372036854775807) (ht : curf.toList.take far.length = nums .i64 far) (h1 : gb ≠ g) (h2 : gf ≠ g) (hx : ∀ x ∈ xs, 0 ≤ x ∧ x < (far.length : Int)) :
    PredI 38 #[.pointer (some ⟨gb, 0, none⟩)] (fun x => decide (rd far x < 0)) xs g (fun W => W.heap[gb]? = some (.cells #[.slice (some ⟨gf, 0, none⟩) far.length cap] 26 (0, 0)) ∧ W.heap[gf]? = some (.cells curf 3 (0, 0))) where
  grow := fun W W' h hb => ⟨blk_below h.1 hb, blk_below h.2 hb⟩
  set := fun W j v h => ⟨(Below.heap_setCell W ⟨g, j, none⟩ v gb h1).trans h.1, (Below.heap_setCell W ⟨g, j, none⟩ v gf h2).trans h.2⟩
  call := fun W x hm h => far_fn gb gf cap far x W (hx x hm).1 (hx x hm).2 h.1 (ints_reads far hl ht h.2)

set_option maxHeartbeats 4000000 in
set_option maxRecDepth 100000 in
theorem impl_Reached.calls (k : Nat) (a0_0 : Int) (a0_1 : Int) (a0_2 : Int) (a1 : Int) (r : List Int) (w : World) (h : impl_Reached.f k a0_0 a0_1 a0_2 a1 = some r) :
    Calls Try.prog 16 #[.agg #[.int .i64 a0_0, .int .i64 a0_1, .int .i64 a0_2], .int .i64 a1] w fun e w' => ∃ v0_ : Value, e = .returned (v0_) ∧ Kd.R (Kd.int .i64) 3 w' w.heap.size (fun _ => True) v0_ r ∧ Below w.heap.size w w' := by
  have hu31 := Try.underlying31
  unfold impl_Reached.f at h
  obtain ⟨t, ht, h⟩ := Option.bind_eq_some_iff.1 h
  have HT := Aside0.mk ht
  clear ht
  have HB := Aside0.mk (Below.refl w.heap.size w)
  have EG := Aside0.mk (show ∀ args w, (callFunc 38 args).run Try.prog w = .ok (.enter 38 args) w from enters_of Try.func38 (by kernel_rfl) rfl)
  cases t with
  | false =>
    rw [if_neg (by decide)] at h
    obtain rfl := Option.some.inj h
    clear h
    go_enter Try.func16, Try.ntmps16
    go_wp2_with (first | ((with_reducible refine gate_dst (N := 2) rfl ?_); refine box_event ?hg (N := 2) ?hd (cs := #[.int .i64 a0_0, .int .i64 a0_1, .int .i64 a0_2]) (t := 31) ?hr ?_; (case hd => rfl); (case hg => rfl); (case hr => first | (go_simp; done) | (go_simp; rfl)); intro gb hg w5 hbox hb; have BK := Aside0.mk hbox; have HB1 := Aside0.mk (below_step HB.out hb); clear HB; have HB := HB1; clear HB1 hb hbox hg; have hc0 : w5.cell? ⟨gb, 0, none⟩ = some (.int .i64 a0_0) := (blk_cell BK.out 0).trans rfl; have hc1_ : w5.cell? ⟨gb, 1, none⟩ = some (.int .i64 a0_1) := (blk_cell BK.out 1).trans rfl; have hc2_ : w5.cell? ⟨gb, 2, none⟩ = some (.int .i64 a0_2) := (blk_cell BK.out 2).trans rfl) | ((with_reducible refine gate_dst (N := 8) rfl ?_); refine Kd.R_lit (Kd.int .i64) _ 3 ?hg (N := 8) ?hd (xs := ([a1] : List Int)) (inner := [.int .i64 a1]) (ok := fun _ => True) (okp := fun _ => True) ?hr ?hp (fun _ hk => hk) trivial (Below.refl _ _) (Nat.le_refl _) (by simp) ?_; (case hd => rfl); (case hg => rfl); (case hr => first | (go_simp; done) | (go_simp; rfl)); (case hp => exact (Reps.one (show Kd.M (Kd.int .i64) _ _ _ a1 [.int .i64 a1] from rfl) (Reps.none _ _))); intro v6 w6 ho hb hg_ hnew_; clear hg_ hnew_; have HO := Aside0.mk ho; have HB1 := Aside0.mk (below_step HB.out hb); clear HB ho; have HB := HB1; clear HB1 hb; obtain ⟨A6, c6, e6⟩ := Kd.R_slice HO.out; subst e6) | (go_at_call 34; (refine (impl_isIn.calls a0_0 a0_1 a0_2 A6 c6 [a1] false _ (Kd.R_reads' HO.out).2.2 (Kd.R_reads' HO.out).2.1 HT.out).mono ?_); rintro e w7 ⟨rfl, hb⟩; have HB1 := Aside0.mk (below_step HB.out hb); clear HB HO; have HB := HB1; clear HB1 hb))
    go_ret
    exact ⟨_, rfl, Kd.R_nil _ _ _ _ _, HB.out⟩
  | true =>
    rw [if_pos rfl] at h
    obtain ⟨far, hfar, h⟩ := Option.bind_eq_some_iff.1 h
    obtain ⟨l, hl, h⟩ := Option.bind_eq_some_iff.1 h
    have HF := Aside0.mk hfar
    have HL := Aside0.mk hl
    clear hfar hl
    by_cases hall : (decide (0 < far.length) && (decide (0 < l.length) && l.all fun x => decide (0 ≤ x) && decide (x < (far.length : Int)))) = true
    · rw [if_pos hall] at h
      obtain rfl := Option.some.inj h
      clear h
      simp only [Bool.and_eq_true, decide_eq_true_eq, List.all_eq_true] at hall
      have HA := Aside0.mk hall
      clear hall
      go_enter Try.func16, Try.ntmps16
      go_wp2_with (first | ((with_reducible refine gate_dst (N := 2) rfl ?_); refine box_event ?hg (N := 2) ?hd (cs := #[.int .i64 a0_0, .int .i64 a0_1, .int .i64 a0_2]) (t := 31) ?hr ?_; (case hd => rfl); (case hg => rfl); (case hr => first | (go_simp; done) | (go_simp; rfl)); intro gb hg w5 hbox hb; have BK := Aside0.mk hbox; have HB1 := Aside0.mk (below_step HB.out hb); clear HB; have HB := HB1; clear HB1 hb hbox hg; have hc0 : w5.cell? ⟨gb, 0, none⟩ = some (.int .i64 a0_0) := (blk_cell BK.out 0).trans rfl; have hc1_ : w5.cell? ⟨gb, 1, none⟩ = some (.int .i64 a0_1) := (blk_cell BK.out 1).trans rfl; have hc2_ : w5.cell? ⟨gb, 2, none⟩ = some (.int .i64 a0_2) := (blk_cell BK.out 2).trans rfl) | ((with_reducible refine gate_dst (N := 8) rfl ?_); refine Kd.R_lit (Kd.int .i64) _ 3 ?hg (N := 8) ?hd (xs := ([a1] : List Int)) (inner := [.int .i64 a1]) (ok := fun _ => True) (okp := fun _ => True) ?hr ?hp (fun _ hk => hk) trivial (Below.refl _ _) (Nat.le_refl _) (by simp) ?_; (case hd => rfl); (case hg => rfl); (case hr => first | (go_simp; done) | (go_simp; rfl)); (case hp => exact (Reps.one (show Kd.M (Kd.int .i64) _ _ _ a1 [.int .i64 a1] from rfl) (Reps.none _ _))); intro v6 w6 ho hb hg_ hnew_; clear hg_ hnew_; have HO := Aside0.mk ho; have BK1 := Aside0.mk (blk_below BK.out hb); have HB1 := Aside0.mk (below_step HB.out hb); clear HB BK ho; have HB := HB1; have BK := BK1; clear HB1 BK1 hb; obtain ⟨A6, c6, e6⟩ := Kd.R_slice HO.out; subst e6) | (go_at_call 34; (refine (impl_isIn.calls a0_0 a0_1 a0_2 A6 c6 [a1] true _ (Kd.R_reads' HO.out).2.2 (Kd.R_reads' HO.out).2.1 HT.out).mono ?_); rintro e w7 ⟨rfl, hb⟩; have BK1 := Aside0.mk (blk_below BK.out hb); have HB1 := Aside0.mk (below_step HB.out hb); clear HB HO BK; have HB := HB1; have BK := BK1; clear HB1 hb BK1; have hd0 : w7.cell? ⟨gb, 0, none⟩ = some (.int .i64 a0_0) := (blk_cell BK.out 0).trans rfl; have hd1_ : w7.cell? ⟨gb, 1, none⟩ = some (.int .i64 a0_1) := (blk_cell BK.out 1).trans rfl; have hd2_ : w7.cell? ⟨gb, 2, none⟩ = some (.int .i64 a0_2) := (blk_cell BK.out 2).trans rfl) | (go_at_call 35; (with_reducible refine (impl_distances.calls k a0_0 a0_1 a0_2 a1 far _ HF.out).mono ?_); rintro e w8 ⟨v8, rfl, ho, hb⟩; obtain ⟨gf, cf, uf, rfl, hg1, hk1, hs1, hl1, hc1, ht1⟩ := own_block ho HA.out.1; have HB1 := Aside0.mk (below_step HB.out hb); clear HB BK; have HB := HB1; clear HB1 hb; have KF := Aside0.mk hk1; have HFT := Aside0.mk ht1; have HFL := Aside0.mk (show far.length ≤ 9223372036854775807 by omega); have HFG := Aside0.mk (blk_lt hk1); clear ho hg1 hk1 hs1 hl1 hc1 ht1) | (go_at_call 37; (with_reducible refine (impl_upTo.calls k (far.length : Int) l _ HL.out).mono ?_); rintro e w9 ⟨v9, rfl, ho, hb⟩; have BX := Aside0.mk (blk_below (blk_new w8 _) hb); have hb2 : Below w8.heap.size w8 w9 := below_step (below_alloc (Below.refl _ _) _) hb; have KF1 := Aside0.mk (blk_below KF.out hb2); have HB1 := Aside0.mk (below_step HB.out hb2); obtain ⟨g9, c9, u9, rfl, hg9, hk9, hs9, hl9, hc9, ht9⟩ := own_block ho HA.out.2.1; have HG9 := Aside0.mk (show w8.heap.size + 1 ≤ g9 by simpa using hg9); have HGW := Aside0.mk HB.out.size; clear HB KF; have HB := HB1; have KF := KF1; clear HB1 KF1 hb hb2 ho hg9; have K9 := Aside0.mk hk9; have S9 := Aside0.mk hs9; have L9 := Aside0.mk hl9; have C9 := Aside0.mk hc9; have T9 := Aside0.mk ht9; clear hk9 hs9 hl9 hc9 ht9) | (go_at_call 36; (with_reducible refine (delete_any 38 #[.pointer (some ⟨w8.heap.size, 0, none⟩)] (fun x => decide (rd far x < 0)) EG.out g9 c9 l u9 _ w _ (far_pred w8.heap.size gf g9 cf far l uf HFL.out HFT.out (by have := HG9.out; omega) (by have := HG9.out; have := HFG.out; omega) HA.out.2.2) ⟨BX.out, KF.out⟩ HB.out (by have := HG9.out; have := HGW.out; omega) K9.out S9.out L9.out C9.out T9.out).mono ?_); rintro e w10 ⟨u10, rfl, k10, s10, t10, b10⟩; have K10 := Aside0.mk k10; have S10 := Aside0.mk s10; have T10 := Aside0.mk t10; have B10 := Aside0.mk b10; clear k10 s10 t10 b10))
      go_ret
      exact ⟨_, rfl, ints_own _ C9.out (Nat.le_trans (List.length_filter_le _ _) L9.out) S10.out T10.out (by have := HG9.out; have := HGW.out; omega) K10.out, B10.out⟩
    · rw [if_neg hall] at h
      exact absurd h (by simp)

end Go.Proofs.Ytkbfknodibnkgaa.Q
