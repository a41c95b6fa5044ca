/- Structs of whole numbers by value, opened and shut: a grid (two numbers) and a maze (a grid and a number). No condition beyond the types' rows. -/
import Derived.WalkKit
import Derived.ProofKit
import Derived.OpenShut
import Derived.Lib.SmallJoins
namespace Go.Proofs.Ytkldibidhjonnaa.St
open Go.ChangeShapes Go.WideShapes Go.ChangeAt Go.RowKit Go.Joins
variable {H : Type} {enc : TypeId × Value → H} {P : Program} {w : World} {base : Nat} {spare : Nat → Bool} {held : Bool}

theorem wide_agg {r : Reach} {b0 : Nat} {t : TypeId} {fs : Array Field} {v : Value} (hs : P.underlying t = some (.struct fs)) (hv : Value.okWide P w r b0 t v) : ∃ cs : Array Value, v = .agg cs ∧ cs.size = P.cellsOf t := okWide_struct hs hv

theorem open_grid {r : Reach} {b0 : Nat} {t ti : TypeId} {f0 f1 : Field} {v : Value} {d : DataW H} {ps : List MemPlace} (hs : P.underlying t = some (.struct #[f0, f1])) (g0 : f0.type = ti ∧ f0.offset = 0) (g1 : f1.type = ti ∧ f1.offset = 1)
    (hi : P.underlying ti = some (.int .i64)) (hci : P.cellsOf ti = 1) (hC : P.cellsOf t = 2)
    (hv : Value.okWide P w r b0 t v) (h : DataW.Trod enc P w base spare held t v d ps) :
    ∃ a b : Int, v = .agg #[.int .i64 a, .int .i64 b] ∧ d = .agg [.lit (.int .i64 a), .lit (.int .i64 b)] ∧ ps = [] ∧ (Lit.int .i64 a).wf = true ∧ (Lit.int .i64 b).wf = true := by
  obtain ⟨cs, rfl, hsz⟩ := wide_agg hs hv
  obtain ⟨c0, c1, rfl⟩ := array2 (hsz.trans hC)
  obtain ⟨fuel, hf⟩ := h
  obtain ⟨y0, y1, n, hx, _, h0, h1⟩ := trod_struct2 hs hf
  rw [g0.1, g0.2, hci] at h0
  rw [g1.1, g1.2, hci] at h1
  simp [Value.cells] at h0 h1
  obtain ⟨a, e0, rfl, wa⟩ := DataW.trod_int hi h0
  obtain ⟨b, e1, rfl, wb⟩ := DataW.trod_int hi h1
  simp at e0 e1
  subst e0 e1
  simp only [Prod.mk.injEq] at hx
  exact ⟨a, b, rfl, hx.1, by simpa using hx.2, wa, wb⟩

theorem trod_grid_mk {t ti : TypeId} {f0 f1 : Field} {a b : Int} (n : Nat) (hs : P.underlying t = some (.struct #[f0, f1])) (g0 : f0.type = ti ∧ f0.offset = 0) (g1 : f1.type = ti ∧ f1.offset = 1)
    (hi : P.underlying ti = some (.int .i64)) (hci : P.cellsOf ti = 1) (hC : P.cellsOf t = 2) (wa : (Lit.int .i64 a).wf = true) (wb : (Lit.int .i64 b).wf = true) :
    DataW.trod enc P w base spare held (n + 2) t [.int .i64 a, .int .i64 b] = some (.agg [.lit (.int .i64 a), .lit (.int .i64 b)], []) := by
  have h0 := trod_int_mk (enc := enc) (w := w) (base := base) (spare := spare) (held := held) (t := ti) n hi wa
  have h1 := trod_int_mk (enc := enc) (w := w) (base := base) (spare := spare) (held := held) (t := ti) n hi wb
  have ts := trod_struct2_mk (enc := enc) (w := w) (base := base) (spare := spare) (held := held) (n := n + 1) (cs := [.int .i64 a, .int .i64 b]) (y0 := (.lit (.int .i64 a), [])) (y1 := (.lit (.int .i64 b), [])) hs (by simp [hC])
    (by rw [g0.1, g0.2, hci]; simpa using h0) (by rw [g1.1, g1.2, hci]; simpa using h1)
  simpa using ts

theorem shut_grid {t ti : TypeId} {f0 f1 : Field} {a b : Int} (hs : P.underlying t = some (.struct #[f0, f1])) (g0 : f0.type = ti ∧ f0.offset = 0) (g1 : f1.type = ti ∧ f1.offset = 1)
    (hi : P.underlying ti = some (.int .i64)) (hci : P.cellsOf ti = 1) (hC : P.cellsOf t = 2) (wa : (Lit.int .i64 a).wf = true) (wb : (Lit.int .i64 b).wf = true) :
    DataW.Trod enc P w base spare held t (.agg #[.int .i64 a, .int .i64 b]) (.agg [.lit (.int .i64 a), .lit (.int .i64 b)]) [] :=
  ⟨2, by simpa [Value.cells] using trod_grid_mk 0 hs g0 g1 hi hci hC wa wb⟩

theorem open_maze {r : Reach} {b0 : Nat} {t tg ti : TypeId} {m0 m1 f0 f1 : Field} {v : Value} {d : DataW H} {ps : List MemPlace} (hm : P.underlying t = some (.struct #[m0, m1])) (k0 : m0.type = tg ∧ m0.offset = 0) (k1 : m1.type = ti ∧ m1.offset = 2)
    (hs : P.underlying tg = some (.struct #[f0, f1])) (g0 : f0.type = ti ∧ f0.offset = 0) (g1 : f1.type = ti ∧ f1.offset = 1)
    (hi : P.underlying ti = some (.int .i64)) (hci : P.cellsOf ti = 1) (hC : P.cellsOf tg = 2) (hM : P.cellsOf t = 3)
    (hv : Value.okWide P w r b0 t v) (h : DataW.Trod enc P w base spare held t v d ps) :
    ∃ a b c : Int, v = .agg #[.int .i64 a, .int .i64 b, .int .i64 c] ∧ d = .agg [.agg [.lit (.int .i64 a), .lit (.int .i64 b)], .lit (.int .i64 c)] ∧ ps = [] ∧ (Lit.int .i64 a).wf = true ∧ (Lit.int .i64 b).wf = true ∧ (Lit.int .i64 c).wf = true := by
  obtain ⟨cs, rfl, hsz⟩ := wide_agg hm hv
  obtain ⟨c0, c1, c2, rfl⟩ := array3 (hsz.trans hM)
  obtain ⟨fuel, hf⟩ := h
  obtain ⟨y0, y1, n, hx, _, h0, h1⟩ := trod_struct2 hm hf
  rw [k0.1, k0.2, hC] at h0
  rw [k1.1, k1.2, hci] at h1
  simp [Value.cells] at h0 h1
  obtain ⟨z0, z1, n2, hz, _, e0, e1⟩ := trod_struct2 hs h0
  rw [g0.1, g0.2, hci] at e0
  rw [g1.1, g1.2, hci] at e1
  simp at e0 e1
  obtain ⟨a, q0, rfl, wa⟩ := DataW.trod_int hi e0
  obtain ⟨b, q1, rfl, wb⟩ := DataW.trod_int hi e1
  obtain ⟨c, q2, rfl, wc⟩ := DataW.trod_int hi h1
  simp at q0 q1 q2
  subst q0 q1 q2 hz
  simp only [Prod.mk.injEq] at hx
  exact ⟨a, b, c, rfl, hx.1, by simpa using hx.2, wa, wb, wc⟩

theorem shut_maze {t tg ti : TypeId} {m0 m1 f0 f1 : Field} {a b c : Int} (hm : P.underlying t = some (.struct #[m0, m1])) (k0 : m0.type = tg ∧ m0.offset = 0) (k1 : m1.type = ti ∧ m1.offset = 2)
    (hs : P.underlying tg = some (.struct #[f0, f1])) (g0 : f0.type = ti ∧ f0.offset = 0) (g1 : f1.type = ti ∧ f1.offset = 1)
    (hi : P.underlying ti = some (.int .i64)) (hci : P.cellsOf ti = 1) (hC : P.cellsOf tg = 2) (hM : P.cellsOf t = 3) (wa : (Lit.int .i64 a).wf = true) (wb : (Lit.int .i64 b).wf = true) (wc : (Lit.int .i64 c).wf = true) :
    DataW.Trod enc P w base spare held t (.agg #[.int .i64 a, .int .i64 b, .int .i64 c]) (.agg [.agg [.lit (.int .i64 a), .lit (.int .i64 b)], .lit (.int .i64 c)]) [] := by
  have h0 := trod_grid_mk (enc := enc) (w := w) (base := base) (spare := spare) (held := held) 0 hs g0 g1 hi hci hC wa wb
  have h1 := trod_int_mk (enc := enc) (w := w) (base := base) (spare := spare) (held := held) (t := ti) 1 hi wc
  have ts := trod_struct2_mk (enc := enc) (w := w) (base := base) (spare := spare) (held := held) (n := 2) (cs := [.int .i64 a, .int .i64 b, .int .i64 c]) (y0 := (.agg [.lit (.int .i64 a), .lit (.int .i64 b)], [])) (y1 := (.lit (.int .i64 c), [])) hm (by simp [hM])
    (by rw [k0.1, k0.2, hC]; simpa using h0) (by rw [k1.1, k1.2, hci]; simpa using h1)
  exact ⟨3, by simpa [Value.cells] using ts⟩
end Go.Proofs.Ytkldibidhjonnaa.St
