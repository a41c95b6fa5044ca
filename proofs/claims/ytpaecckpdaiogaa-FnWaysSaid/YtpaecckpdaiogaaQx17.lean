/- Plain Lean functions of Go functions, and for each the proof that its call comes to just that answer. Conditions: in each theorem's statement. -/
import Derived.Test.YtpaecckpdaiogaaQx0
namespace Go.Proofs.Ytpaecckpdaiogaa.Q
open Go.RowKit Go.Proofs.YtpaecckpdaiogaaW.PrintWords Go.Proofs.YtpaecckpdaiogaaW.PrintLast
attribute [local go_sem] max2_int min2_int max_two min_two   -- for this text's walks alone
set_option linter.unusedVariables false
set_option linter.unusedSimpArgs false

/-! ### slices_IndexFunc_int_int: function 117 -/
/-- What is asked of a function value over whole numbers: it says p x, and leaves what there was as it was. -/
def PredG (g : Nat) (lb : Array Value) (p : Int → Bool) (w : World) : Prop :=
 ∀ (W : World) (x : Int), Below w.heap.size w W → Calls Try.prog g (#[.int .i64 x] ++ lb) W fun e w' => e = .returned (.bool (p x)) ∧ Below W.heap.size W w'

def idxP (p : Int → Bool) : List Int → Int → Int
 | [], _ => -1
 | x :: l, i => if p x = true then i else idxP p l (i + 1)

theorem rd_memN (l : List Int) (q : Nat) (h : q < l.length) : rd l (q : Int) ∈ l := by
 unfold rd
 rw [Int.toNat_natCast, List.getD_eq_getElem?_getD, List.getElem?_eq_getElem h]
 exact List.getElem_mem h

theorem idxP_at (p : Int → Bool) (l : List Int) (kk : Nat) (i : Int) (h : kk < l.length) : idxP p (l.drop kk) i = if p (rd l kk) = true then i else idxP p (l.drop (kk + 1)) (i + 1) := by
 rw [List.drop_eq_getElem_cons h]
 simp only [idxP]
 unfold rd
 rw [List.getD_eq_getElem?_getD, Int.toNat_natCast, List.getElem?_eq_getElem h]
 rfl

set_option maxHeartbeats 4000000 in
set_option maxRecDepth 100000 in
theorem index_any (g : Nat) (lb : Array Value) (p : Int → Bool) (eg : ∀ args w, (callFunc g args).run Try.prog w = .ok (.enter g args) w) (A : Option Addr) (c : Nat) (l : List Int) (w : World)
  (hr : (Kd.int .i64).C w A l.length l) (hc : l.length ≤ c) (hl : l.length ≤ 9223372036854775807) (hp : ∀ (W : World) (x : Int), x ∈ l → Below w.heap.size w W → Calls Try.prog g (#[.int .i64 x] ++ lb) W fun e w' => e = .returned (.bool (p x)) ∧ Below W.heap.size W w') :
  Calls Try.prog 117 #[.slice A l.length c, .func (.func g) #[] lb] w fun e w' => e = .returned (.int .i64 (idxP p l 0)) ∧ Below w.heap.size w w' := by
 have HP := Aside0.mk hp
 have HR := Aside0.mk hr
 clear hp hr
 go_enter Try.func117, Try.ntmps117
 go_wp2
 go_loopg [5, 8] l.length (fun gg _ s8 wr => ∃ kk : Nat, s8 = .int .i64 kk ∧ kk ≤ l.length ∧ l.length - kk ≤ gg ∧ Aside0 (idxP p (l.drop kk) kk = idxP p l 0) ∧ Aside0 (Below w.heap.size w wr))
 case atStart => exact ⟨0, rfl, Nat.zero_le _, by omega, ⟨rfl⟩, ⟨Below.refl _ _⟩⟩
 case round =>
  obtain ⟨kk, rfl, hkk, hg, HI, HB⟩ := hrel
  by_cases hlt : kk < l.length
  ·have hltz : (kk : Int) < (l.length : Int) := by omega
   have h0 : (0 : Int) ≤ kk := by omega
   obtain ⟨ad, e, hcell⟩ := Kd.at_int HR.out kk h0 hltz
   cases e
   replace hcell := pw_cell_below HB.out hcell
   rw [Int.toNat_natCast] at hcell
   have HX := Aside0.mk (idxP_at p l kk kk hlt)
   have hcall := fun W hb => (HP.out W (rd l kk) (rd_memN l kk hlt) hb)
   have HC := Aside0.mk hcall
   clear hcall
   cases hq : p (rd l kk) with
   | true =>
    have HQ := Aside0.mk hq
    clear hq
    go_wp2_with (go_at_fn g; refine (HC.out _ HB.out).mono ?_; rintro e w1 ⟨rfl, hb⟩; rw [HQ.out]; have HB1 := Aside0.mk (below_step HB.out hb); clear hb)
    go_ret
    refine ⟨?_, HB1.out⟩
    rw [← HI.out, HX.out, HQ.out]
    rfl
   | false =>
    have HQ := Aside0.mk hq
    clear hq
    go_wp2_with (go_at_fn g; refine (HC.out _ HB.out).mono ?_; rintro e w1 ⟨rfl, hb⟩; rw [HQ.out]; have HB1 := Aside0.mk (below_step HB.out hb); clear hb)
    go_roundg (l.length - (kk + 1))
    case measure => omega
    case rel =>
     refine ⟨kk + 1, by go_num, by omega, by omega, ⟨?_⟩, HB1⟩
     have h1 := HX.out
     rw [HQ.out] at h1
     rw [← HI.out, h1]
     simp
  ·have hltz : ¬ (kk : Int) < (l.length : Int) := by omega
   have hk : kk = l.length := by omega
   go_wp2
   go_ret
   refine ⟨?_, HB.out⟩
   rw [← HI.out, List.drop_of_length_le (by omega)]
   rfl

theorem ints_own {w : World} {g base cap : Nat} {cur : Array Value} (xs : List Int) (hc : cap ≤ 9223372036854775807) (hl : xs.length ≤ cap) (hs : cur.size = cap) (ht : cur.toList.take xs.length = nums .i64 xs) (hb : base ≤ g) (h : w.heap[g]? = some (.cells cur 3 (0, 0))) :
  Kd.R (Kd.int .i64) 3 w base (fun _ => True) (.slice (some ⟨g, 0, none⟩) xs.length cap) xs := by
 refine ⟨fun _ _ => trivial, nums .i64 xs, ⟨by simp [nums, Kd.int, Kd.scalar], .inr ⟨g, cap, cur, rfl, hb, h, hl, by unfold maxLen; omega, by simp [hs, Kd.int, Kd.scalar], by simpa [Kd.int, Kd.scalar] using ht⟩⟩, ?_⟩
 refine ⟨by simp [nums, Kd.int, Kd.scalar], fun j p hp => ?_⟩
 have hj : j < xs.length := by
  rcases Nat.lt_or_ge j xs.length with hj | hj
  ·exact hj
  ·rw [List.getElem?_eq_none hj] at hp; cases hp
 rw [List.getElem?_eq_getElem hj] at hp
 obtain rfl := Option.some.inj hp
 show ((nums .i64 xs).drop (j * 1)).take 1 = [Value.int .i64 xs[j]]
 rw [Nat.mul_one, List.drop_eq_getElem_cons (by simpa [nums] using hj)]
 simp [nums]


end Go.Proofs.Ytpaecckpdaiogaa.Q
