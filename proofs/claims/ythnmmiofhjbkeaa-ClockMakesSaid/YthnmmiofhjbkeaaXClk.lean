/-
  The first argument of two rows: a struct that holds one slice of structs {int64, {int64, int64}}: opened.
-/
import Derived.Test.YthnmmiofhjbkeaaPAx0
import Derived.Test.YthnmmiofhjbkeaaProg
import Derived.Lib.SmallJoins
import Derived.Deep.Slices
import Derived.ChangeSame
namespace Go.Proofs.YthnmmiofhjbkeaaX
open Go.Joins Go.ChangeShapes Go.WideShapes Go.RowKit Go.Deep Go.Proofs.Ythnmmiofhjbkeaa Go.Proofs.YthnmmiofhjbkeaaW.PrintWords
section
variable {H : Type} {enc : TypeId × Value → H} {w : World} {base : Nat} {spare : Nat → Bool} {held : Bool}
theorem open_seg {n : Nat} {cs : List Value} {x : DataW H × List MemPlace} (h : DataW.trod enc Try.prog w base spare held n 61 cs = some x) :
    ∃ s : PA.S61, cs = [.int .i64 s.f0, .int .i64 s.f1.f0, .int .i64 s.f1.f1] := by
  obtain ⟨y0, y1, m, _, hl, h0, h1⟩ := trod_struct2 Try.underlying61 h
  have hc : Try.prog.cellsOf 61 = 3 := by kernel_rfl
  have hc2 : Try.prog.cellsOf 2 = 1 := by kernel_rfl
  have hc27 : Try.prog.cellsOf 27 = 2 := by kernel_rfl
  rw [hc] at hl
  match cs, hl with
  | [v0, v1, v2], _ =>
    simp [hc2, hc27] at h0 h1
    obtain ⟨z0, z1, m2, _, _, g0, g1⟩ := trod_struct2 Try.underlying27 h1
    simp [hc2] at g0 g1
    obtain ⟨x0, e0, _, _⟩ := DataW.trod_int Try.underlying2 h0
    obtain ⟨x1, e1, _, _⟩ := DataW.trod_int Try.underlying2 g0
    obtain ⟨x2, e2, _, _⟩ := DataW.trod_int Try.underlying2 g1
    simp only [List.cons.injEq, and_true] at e0 e1 e2
    subst e0 e1 e2
    exact ⟨⟨x0, ⟨x1, x2⟩⟩, rfl⟩
theorem open_segs {fuel : Nat} {a0 : Option Addr} {len0 cap0 : Nat} {x : DataW H × List MemPlace} (h : DataW.trod enc Try.prog w base spare held fuel 22 [.slice a0 len0 cap0] = some x) :
    ∃ l : List PA.S61, len0 = l.length ∧ Kd.C PA.k61 w a0 l.length l ∧ l.length ≤ cap0 := by
  rcases open_slice Try.underlying22 h with ⟨hcs, _⟩ | ⟨a, len, cap, m, n, D, Pl, hcs, _, hl, hm, hmm, _, hx⟩
  · simp only [List.cons.injEq, and_true, Value.slice.injEq] at hcs
    obtain ⟨rfl, rfl, rfl⟩ := hcs
    exact ⟨[], rfl, ⟨rfl, by simp, fun h => absurd h (by decide)⟩, Nat.zero_le _⟩
  · simp only [List.cons.injEq, and_true, Value.slice.injEq] at hcs
    obtain ⟨rfl, rfl, rfl⟩ := hcs
    have hc : Try.prog.cellsOf 61 = 3 := by kernel_rfl
    have each : ∀ i, i < len0 → ∃ s : Int × Int × Int, w.cell? (a.add (i * 3)) = some (.int .i64 s.1) ∧ w.cell? (a.add (i * 3 + 1)) = some (.int .i64 s.2.1) ∧ w.cell? (a.add (i * 3 + 2)) = some (.int .i64 s.2.2) := by
      intro i hi
      obtain ⟨cs', h1, h2⟩ := hx i (by rw [hmm]; split <;> omega)
      obtain ⟨s, rfl⟩ := open_seg h2
      rw [hc] at h1
      obtain ⟨_, _, hcell⟩ := World.cells?_some h1
      have e0 := hcell 0 (by omega)
      have e1 := hcell 1 (by omega)
      have e2 := hcell 2 (by omega)
      rw [Go.Deep.add_add] at e0 e1 e2
      exact ⟨(s.f0, s.f1.f0, s.f1.f1), by simpa using e0, by simpa using e1, by simpa using e2⟩
    obtain ⟨g, hg⟩ := choose_lt each
    refine ⟨(List.range len0).map fun i => ⟨(g i).1, ⟨(g i).2.1, (g i).2.2⟩⟩, by simp, ⟨rfl, ?_, fun _ => ⟨a, rfl, ?_⟩⟩, by simpa using hl⟩
    · have : cap0 ≤ 9223372036854775807 := Nat.le_trans hm (by decide)
      simp
      omega
    · intro j s hs
      obtain ⟨hj, rfl⟩ : j < len0 ∧ (⟨(g j).1, ⟨(g j).2.1, (g j).2.2⟩⟩ : PA.S61) = s := by
        rw [List.getElem?_map] at hs
        by_cases hj : j < len0
        · rw [List.getElem?_range hj] at hs
          exact ⟨hj, by simpa using hs⟩
        · rw [List.getElem?_eq_none (by simpa using Nat.le_of_not_lt hj)] at hs
          exact absurd hs (by simp)
      obtain ⟨x0, x1, x2⟩ := hg j hj
      refine ⟨[.int .i64 (g j).1, .int .i64 (g j).2.1, .int .i64 (g j).2.2], rfl, PA.k61_mk w _, fun i u hu => ?_⟩
      match i, hu with
      | 0, hu =>
        obtain rfl := Option.some.inj hu
        exact x0
      | 1, hu =>
        obtain rfl := Option.some.inj hu
        exact x1
      | 2, hu =>
        obtain rfl := Option.some.inj hu
        exact x2
theorem open_clock {r : Reach} {b0 : Nat} {v : Value} {d : DataW H} {p : List MemPlace} (hv : Value.okWide Try.prog w r b0 24 v) (h : DataW.Trod enc Try.prog w base spare held 24 v d p) :
    ∃ (a0 : Option Addr) (cap0 : Nat) (l : List PA.S61), v = .agg #[.slice a0 l.length cap0] ∧ Kd.C PA.k61 w a0 l.length l ∧ l.length ≤ cap0 := by
  have hc : Try.prog.cellsOf 24 = 1 := by kernel_rfl
  have hc22 : Try.prog.cellsOf 22 = 1 := by kernel_rfl
  obtain ⟨cs, rfl, hsz⟩ := okWide_struct Try.underlying24 hv
  obtain ⟨fuel, hf⟩ := h
  rw [hc] at hsz
  obtain ⟨y0, n, _, _, h0⟩ := trod_struct1 Try.underlying24 hf
  obtain ⟨u, rfl⟩ : ∃ u, cs = #[u] := by
    match cs, hsz with
    | ⟨[u]⟩, _ => exact ⟨u, rfl⟩
  simp [hc22, Value.cells] at h0
  have h0' := h0
  rcases open_slice Try.underlying22 h0 with ⟨hcs, _⟩ | ⟨a, len, cap, m, n, D, Pl, hcs, _⟩ <;> simp only [List.cons.injEq, and_true] at hcs <;> subst hcs <;>
  · obtain ⟨l, hl, hr, hle⟩ := open_segs h0'
    exact ⟨_, _, l, by rw [hl], hr, hle⟩
end
end Go.Proofs.YthnmmiofhjbkeaaX
