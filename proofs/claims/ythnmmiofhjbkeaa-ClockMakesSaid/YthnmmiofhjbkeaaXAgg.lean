/-
  Structs of two and of four whole numbers by value: opened and shut as arguments of a row. Plain lemmas over the kit's own.
-/
import Derived.Lib.SmallJoins
namespace Go.Proofs.YthnmmiofhjbkeaaX
open Go.Joins Go.ChangeShapes Go.WideShapes Go.RowKit Go.Deep
section
variable {H : Type} {enc : TypeId × Value → H} {P : Program} {w : World} {base : Nat} {spare : Nat → Bool} {held : Bool}
theorem open_ints2 {r : Reach} {b0 : Nat} {t : TypeId} {f0 f1 : Field} {k0 k1 : IntKind} {v : Value} {d : DataW H} {p : List MemPlace} (hs : P.underlying t = some (.struct #[f0, f1]))
    (h0 : P.underlying f0.type = some (.int k0)) (h1 : P.underlying f1.type = some (.int k1)) (hone : oneCellFields P #[f0, f1] = true) (hC : P.cellsOf t = 2)
    (hv : Value.okWide P w r b0 t v) (h : DataW.Trod enc P w base spare held t v d p) :
    ∃ a0 a1 : Int, v = .agg #[.int k0 a0, .int k1 a1] ∧ d = .agg [.lit (.int k0 a0), .lit (.int k1 a1)] ∧ p = [] ∧ (Lit.int k0 a0).wf = true ∧ (Lit.int k1 a1).wf = true := by
  obtain ⟨v0, v1, y0, y1, n, rfl, rfl, rfl, t0, t1⟩ := open_agg2 hs hone hC hv h
  obtain ⟨a0, e0, rfl, w0⟩ := DataW.trod_int h0 t0
  obtain ⟨a1, e1, rfl, w1⟩ := DataW.trod_int h1 t1
  simp only [List.cons.injEq, and_true] at e0 e1
  subst e0 e1
  exact ⟨a0, a1, rfl, rfl, rfl, w0, w1⟩
theorem shut_ints2 {t : TypeId} {f0 f1 : Field} {k0 k1 : IntKind} {a0 a1 : Int} (hs : P.underlying t = some (.struct #[f0, f1]))
    (h0 : P.underlying f0.type = some (.int k0)) (h1 : P.underlying f1.type = some (.int k1)) (hone : oneCellFields P #[f0, f1] = true) (hC : P.cellsOf t = 2)
    (w0 : (Lit.int k0 a0).wf = true) (w1 : (Lit.int k1 a1).wf = true) :
    DataW.Trod enc P w base spare held t (.agg #[.int k0 a0, .int k1 a1]) (.agg [.lit (.int k0 a0), .lit (.int k1 a1)]) [] :=
  shut_agg2 (y0 := (.lit (.int k0 a0), [])) (y1 := (.lit (.int k1 a1), [])) hs hone hC (field_of_Trod (shut_int h0 w0) rfl) (field_of_Trod (shut_int h1 w1) rfl)
theorem open_ints4 {r : Reach} {b0 : Nat} {t : TypeId} {f0 f1 f2 f3 : Field} {k0 k1 k2 k3 : IntKind} {v : Value} {d : DataW H} {p : List MemPlace} (hs : P.underlying t = some (.struct #[f0, f1, f2, f3]))
    (h0 : P.underlying f0.type = some (.int k0)) (h1 : P.underlying f1.type = some (.int k1)) (h2 : P.underlying f2.type = some (.int k2)) (h3 : P.underlying f3.type = some (.int k3)) (hone : oneCellFields P #[f0, f1, f2, f3] = true) (hC : P.cellsOf t = 4)
    (hv : Value.okWide P w r b0 t v) (h : DataW.Trod enc P w base spare held t v d p) :
    ∃ a0 a1 a2 a3 : Int, v = .agg #[.int k0 a0, .int k1 a1, .int k2 a2, .int k3 a3] ∧ d = .agg [.lit (.int k0 a0), .lit (.int k1 a1), .lit (.int k2 a2), .lit (.int k3 a3)] ∧ p = [] ∧
      (Lit.int k0 a0).wf = true ∧ (Lit.int k1 a1).wf = true ∧ (Lit.int k2 a2).wf = true ∧ (Lit.int k3 a3).wf = true := by
  obtain ⟨v0, v1, v2, v3, y0, y1, y2, y3, n, rfl, rfl, rfl, t0, t1, t2, t3⟩ := open_agg4 hs hone hC hv h
  obtain ⟨a0, e0, rfl, w0⟩ := DataW.trod_int h0 t0
  obtain ⟨a1, e1, rfl, w1⟩ := DataW.trod_int h1 t1
  obtain ⟨a2, e2, rfl, w2⟩ := DataW.trod_int h2 t2
  obtain ⟨a3, e3, rfl, w3⟩ := DataW.trod_int h3 t3
  simp only [List.cons.injEq, and_true] at e0 e1 e2 e3
  subst e0 e1 e2 e3
  exact ⟨a0, a1, a2, a3, rfl, rfl, rfl, w0, w1, w2, w3⟩
theorem shut_ints4 {t : TypeId} {f0 f1 f2 f3 : Field} {k0 k1 k2 k3 : IntKind} {a0 a1 a2 a3 : Int} (hs : P.underlying t = some (.struct #[f0, f1, f2, f3]))
    (h0 : P.underlying f0.type = some (.int k0)) (h1 : P.underlying f1.type = some (.int k1)) (h2 : P.underlying f2.type = some (.int k2)) (h3 : P.underlying f3.type = some (.int k3)) (hone : oneCellFields P #[f0, f1, f2, f3] = true) (hC : P.cellsOf t = 4)
    (w0 : (Lit.int k0 a0).wf = true) (w1 : (Lit.int k1 a1).wf = true) (w2 : (Lit.int k2 a2).wf = true) (w3 : (Lit.int k3 a3).wf = true) :
    DataW.Trod enc P w base spare held t (.agg #[.int k0 a0, .int k1 a1, .int k2 a2, .int k3 a3]) (.agg [.lit (.int k0 a0), .lit (.int k1 a1), .lit (.int k2 a2), .lit (.int k3 a3)]) [] :=
  shut_agg4 (y0 := (.lit (.int k0 a0), [])) (y1 := (.lit (.int k1 a1), [])) (y2 := (.lit (.int k2 a2), [])) (y3 := (.lit (.int k3 a3), [])) hs hone hC
    (field_of_Trod (shut_int h0 w0) rfl) (field_of_Trod (shut_int h1 w1) rfl) (field_of_Trod (shut_int h2 w2) rfl) (field_of_Trod (shut_int h3 w3) rfl)
end
end Go.Proofs.YthnmmiofhjbkeaaX
