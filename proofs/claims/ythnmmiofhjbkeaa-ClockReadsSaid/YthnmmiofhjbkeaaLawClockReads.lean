/- The statement ClockReads: for every input the Go function returns true, and each argument reads afterwards as it read before. Conditions: none beyond the given statement. -/
import Derived.Test.YthnmmiofhjbkeaaRows
import Derived.Test.YthnmmiofhjbkeaaPAx26
import Derived.Test.YthnmmiofhjbkeaaPureClockReads
import Derived.WalkKit
import Derived.ProofKit
import Derived.OpenShut
import Derived.ShutString
import Derived.ChangeOld
import Derived.Below
import Derived.SizedLaws
import Derived.Test.YthnmmiofhjbkeaaProg
import Derived.Lib.SmallJoins
import Derived.Deep.Slices
import Derived.ChangeSame
import Derived.Test.YthnmmiofhjbkeaaPAx0
namespace Go.Proofs.YthnmmiofhjbkeaaX
open Go.Joins Go.ChangeShapes Go.WideShapes Go.RowKit Go.Deep Go.Proofs.Ythnmmiofhjbkeaa Go.Proofs.YthnmmiofhjbkeaaW.PrintWords
section
variable {H : Type} {enc : TypeId × Value → H} {w : World} {base : Nat} {spare : Nat → Bool} {held : Bool}
theorem open_seg {n : Nat} {cs : List Value} {x : DataW H × List MemPlace} (h : DataW.trod enc Try.prog w base spare held n 61 cs = some x) :
    ∃ s : PA.S61, cs = [.int .i64 s.f0, .int .i64 s.f1.f0, .int .i64 s.f1.f1] := by
  obtain ⟨y0, y1, m, _, hl, h0, h1⟩ := trod_struct2 Try.underlying61 h
  have hc : Try.prog.cellsOf 61 = 3 := by kernel_rfl
  have hc2 : Try.prog.cellsOf 2 = 1 := by kernel_rfl
  have hc27 : Try.prog.cellsOf 27 = 2 := by kernel_rfl
  rw [hc] at hl
  match cs, hl with
  | [v0, v1, v2], _ =>
    simp [hc2, hc27] at h0 h1
    obtain ⟨z0, z1, m2, _, _, g0, g1⟩ := trod_struct2 Try.underlying27 h1
    simp [hc2] at g0 g1
    obtain ⟨x0, e0, _, _⟩ := DataW.trod_int Try.underlying2 h0
    obtain ⟨x1, e1, _, _⟩ := DataW.trod_int Try.underlying2 g0
    obtain ⟨x2, e2, _, _⟩ := DataW.trod_int Try.underlying2 g1
    simp only [List.cons.injEq, and_true] at e0 e1 e2
    subst e0 e1 e2
    exact ⟨⟨x0, ⟨x1, x2⟩⟩, rfl⟩
theorem open_segs {fuel : Nat} {a0 : Option Addr} {len0 cap0 : Nat} {x : DataW H × List MemPlace} (h : DataW.trod enc Try.prog w base spare held fuel 22 [.slice a0 len0 cap0] = some x) :
    ∃ l : List PA.S61, len0 = l.length ∧ Kd.C PA.k61 w a0 l.length l ∧ l.length ≤ cap0 := by
  rcases open_slice Try.underlying22 h with ⟨hcs, _⟩ | ⟨a, len, cap, m, n, D, Pl, hcs, _, hl, hm, hmm, _, hx⟩
  · simp only [List.cons.injEq, and_true, Value.slice.injEq] at hcs
    obtain ⟨rfl, rfl, rfl⟩ := hcs
    exact ⟨[], rfl, ⟨rfl, by simp, fun h => absurd h (by decide)⟩, Nat.zero_le _⟩
  · simp only [List.cons.injEq, and_true, Value.slice.injEq] at hcs
    obtain ⟨rfl, rfl, rfl⟩ := hcs
    have hc : Try.prog.cellsOf 61 = 3 := by kernel_rfl
    have each : ∀ i, i < len0 → ∃ s : Int × Int × Int, w.cell? (a.add (i * 3)) = some (.int .i64 s.1) ∧ w.cell? (a.add (i * 3 + 1)) = some (.int .i64 s.2.1) ∧ w.cell? (a.add (i * 3 + 2)) = some (.int .i64 s.2.2) := by
      intro i hi
      obtain ⟨cs', h1, h2⟩ := hx i (by rw [hmm]; split <;> omega)
      obtain ⟨s, rfl⟩ := open_seg h2
      rw [hc] at h1
      obtain ⟨_, _, hcell⟩ := World.cells?_some h1
      have e0 := hcell 0 (by omega)
      have e1 := hcell 1 (by omega)
      have e2 := hcell 2 (by omega)
      rw [Go.Deep.add_add] at e0 e1 e2
      exact ⟨(s.f0, s.f1.f0, s.f1.f1), by simpa using e0, by simpa using e1, by simpa using e2⟩
    obtain ⟨g, hg⟩ := choose_lt each
    refine ⟨(List.range len0).map fun i => ⟨(g i).1, ⟨(g i).2.1, (g i).2.2⟩⟩, by simp, ⟨rfl, ?_, fun _ => ⟨a, rfl, ?_⟩⟩, by simpa using hl⟩
    · have : cap0 ≤ 9223372036854775807 := Nat.le_trans hm (by decide)
      simp
      omega
    · intro j s hs
      obtain ⟨hj, rfl⟩ : j < len0 ∧ (⟨(g j).1, ⟨(g j).2.1, (g j).2.2⟩⟩ : PA.S61) = s := by
        rw [List.getElem?_map] at hs
        by_cases hj : j < len0
        · rw [List.getElem?_range hj] at hs
          exact ⟨hj, by simpa using hs⟩
        · rw [List.getElem?_eq_none (by simpa using Nat.le_of_not_lt hj)] at hs
          exact absurd hs (by simp)
      obtain ⟨x0, x1, x2⟩ := hg j hj
      refine ⟨[.int .i64 (g j).1, .int .i64 (g j).2.1, .int .i64 (g j).2.2], rfl, PA.k61_mk w _, fun i u hu => ?_⟩
      match i, hu with
      | 0, hu =>
        obtain rfl := Option.some.inj hu
        exact x0
      | 1, hu =>
        obtain rfl := Option.some.inj hu
        exact x1
      | 2, hu =>
        obtain rfl := Option.some.inj hu
        exact x2
theorem open_clock {r : Reach} {b0 : Nat} {v : Value} {d : DataW H} {p : List MemPlace} (hv : Value.okWide Try.prog w r b0 24 v) (h : DataW.Trod enc Try.prog w base spare held 24 v d p) :
    ∃ (a0 : Option Addr) (cap0 : Nat) (l : List PA.S61), v = .agg #[.slice a0 l.length cap0] ∧ Kd.C PA.k61 w a0 l.length l ∧ l.length ≤ cap0 := by
  have hc : Try.prog.cellsOf 24 = 1 := by kernel_rfl
  have hc22 : Try.prog.cellsOf 22 = 1 := by kernel_rfl
  obtain ⟨cs, rfl, hsz⟩ := okWide_struct Try.underlying24 hv
  obtain ⟨fuel, hf⟩ := h
  rw [hc] at hsz
  obtain ⟨y0, n, _, _, h0⟩ := trod_struct1 Try.underlying24 hf
  obtain ⟨u, rfl⟩ : ∃ u, cs = #[u] := by
    match cs, hsz with
    | ⟨[u]⟩, _ => exact ⟨u, rfl⟩
  simp [hc22, Value.cells] at h0
  have h0' := h0
  rcases open_slice Try.underlying22 h0 with ⟨hcs, _⟩ | ⟨a, len, cap, m, n, D, Pl, hcs, _⟩ <;> simp only [List.cons.injEq, and_true] at hcs <;> subst hcs <;>
  · obtain ⟨l, hl, hr, hle⟩ := open_segs h0'
    exact ⟨_, _, l, by rw [hl], hr, hle⟩
end
end Go.Proofs.YthnmmiofhjbkeaaX
namespace Go.Proofs.Ythnmmiofhjbkeaa.clockReads
open Go.Proofs.YthnmmiofhjbkeaaX
open Go.ChangeShapes Go.WideShapes Go.ChangeAt Go.RowKit
open Go.ChangeMaps (open_string shut_string)
set_option linter.unusedVariables false
theorem own : ownKnob Try.prog.godebug = none := by kernel_rfl
theorem laidOut : laidOutB Try.prog = true := by kernel_rfl
def IsRow (k : IntKind) (w : World) (a : Option Addr) (len cap : Nat) (zs : List Int) : Prop :=
  (a = none ∧ len = 0 ∧ cap = 0 ∧ zs = []) ∨
  ∃ x, a = some x ∧ len ≤ cap ∧ cap ≤ maxLen ∧ zs.length = cap ∧ (∀ i, i < zs.length → w.cell? (x.add i) = some (.int k (zs.getD i 0))) ∧ ∀ n ∈ zs, (Lit.int k n).wf = true
/-- The law's function returns true wherever its two slices read. -/
theorem walk (a0 : Option Addr) (cap0 : Nat) (l0 : List PA.S61) (a1 : Option Addr) (len1 cap1 : Nat) (z1 : List Int) (a2 a3 : Int) (w : World) (hr0 : YthnmmiofhjbkeaaW.PrintWords.Kd.C PA.k61 w a0 l0.length l0) (hc0 : l0.length ≤ cap0) (w1 : IsRow .u8 w a1 len1 cap1 z1) (w2 : (Lit.int .i64 a2).wf = true) (w3 : (Lit.int .i64 a3).wf = true) :
    Calls Try.prog 6 #[.agg #[.slice a0 l0.length cap0], .slice a1 len1 cap1, .int .i64 a2, .int .i64 a3] w fun e w' => e = .returned (.bool true) ∧ Below w.heap.size w w' := by
  obtain ⟨l1, rfl, hr1, hm1, hw1, hc1⟩ := YthnmmiofhjbkeaaW.PrintWords.ReadsInt.ofRowC w1
  obtain ⟨k, h⟩ := Pure.ClockReads l0 l1 a2 a3 (bytes_of hw1)
  exact PA.soundservicelaw13_ClockReads.calls k _ _ l0 _ _ l1 _ _ true w hr0 hc0 (YthnmmiofhjbkeaaW.PrintWords.Kd.C_of_reads (d := (0 : Int)) (h1 := fun _ => rfl) hr1) hc1 h
set_option maxRecDepth 100000 in
theorem lifted (os : Os) (started : os.Started) (H : Type) (enc : TypeId × Value → H) :
    ReturnsInHanded {} Try.checked os 6 .any (Rows.clockReadsSpec.pre6 enc Try.prog Try.f6 Rows.clockReadsRow.domain false) (Rows.clockReadsSpec.post enc Try.prog Try.f6 false true false false) := by
  refine returnsInHanded_of_change_sized (C := Try.checked) own started (by kernel_rfl) Try.func6
    (ChangeSpec.witness6 (enc := enc) (C := Try.checked) false ⟨#[], #[.agg #[.slice none 0 0], .slice none 0 0, .int .i64 0, .int .i64 0], []⟩ 8 (by kernel_rfl) (by kernel_rfl) (by kernel_rfl) (by kernel_rfl)) ?_
  intro W base args ds gs before hval0 hW hcnd hsz0 _
  have hval : ∀ (j : Nat) t v, Try.f6.params[j]? = some t → args[j]? = some v → Value.okWide Try.prog W .any base t v := hval0
  have hW' := hW
  obtain ⟨p, q, hA0, hV, rfl, hfz, hnd⟩ := hW
  have hA : DataW.TrodAll enc Try.prog W 0 (fun _ => true) true Try.f6.params.toList args.toList ds p := hA0
  rw [Try.params6] at hA hval
  obtain ⟨v0, vs0, d0, ds0, p0, q0, hargs, rfl, rfl, h0, r0⟩ := trodAll_cons hA
  obtain ⟨v1, vs1, d1, ds1, p1, q1, rfl, rfl, rfl, h1, r1⟩ := trodAll_cons r0
  obtain ⟨v2, vs2, d2, ds2, p2, q2, rfl, rfl, rfl, h2, r2⟩ := trodAll_cons r1
  obtain ⟨v3, vs3, d3, ds3, p3, q3, rfl, rfl, rfl, h3, r3⟩ := trodAll_cons r2
  obtain ⟨rfl, rfl, rfl⟩ := trodAll_nil r3
  obtain rfl : args = #[v0, v1, v2, v3] := by cases args; simp_all
  obtain ⟨rfl, rfl⟩ := trodVars_none hV
  have k0 := h0
  have lt0 : ∀ x ∈ p0, x.block < W.heap.size := by obtain ⟨m, hm⟩ := k0; exact DataW.trod_lt m _ _ _ hm
  obtain ⟨a0, cap0, l0, rfl, hr0, hc0⟩ := open_clock (hval 0 24 v0 rfl rfl) h0
  obtain ⟨a1, len1, cap1, rfl⟩ := okWide_slice Try.underlying25 (hval 1 25 v1 rfl rfl)
  have k1 := h1
  have lt1 : ∀ x ∈ p1, x.block < W.heap.size := by obtain ⟨m, hm⟩ := k1; exact DataW.trod_lt m _ _ _ hm
  obtain ⟨z1, w1⟩ : ∃ zs, IsRow .u8 W a1 len1 cap1 zs := by
    obtain ⟨fuel, hf⟩ := h1
    rcases open_ints Try.underlying25 Try.underlying5 (by kernel_rfl) hf with ⟨hcs, _⟩ | ⟨x, l, c, zs, hcs, _, hl, hm, hz, _, hcell, hwz⟩
    · simp [Value.cells] at hcs
      obtain ⟨rfl, rfl, rfl⟩ := hcs
      exact ⟨[], .inl ⟨rfl, rfl, rfl, rfl⟩⟩
    · simp [Value.cells] at hcs
      obtain ⟨rfl, rfl, rfl⟩ := hcs
      exact ⟨zs, .inr ⟨_, rfl, hl, hm, by simpa using hz, hcell, hwz⟩⟩
  obtain ⟨a2, rfl, rfl, rfl, w2⟩ := open_int Try.underlying2 (hval 2 2 v2 rfl rfl) h2
  obtain ⟨a3, rfl, rfl, rfl, w3⟩ := open_int Try.underlying2 (hval 3 2 v3 rfl rfl) h3
  clear hA0 hval0 hsz0
  refine (walk a0 cap0 l0 a1 len1 cap1 z1 a2 a3 W hr0 hc0 w1 w2 w3).mono fun e W' ⟨he, bel⟩ => ?_
  subst he
  exact ⟨_, rfl, _, _, _, [], _, [], hW', trodAll_mk1 (shut_bool Try.underlying4 _), (trodAll_cons_mk (Below.trod laidOut (by kernel_rfl) (of_decide_eq_true (by kernel_rfl)) k0 bel lt0) (trodAll_cons_mk (Below.trod laidOut (by kernel_rfl) (of_decide_eq_true (by kernel_rfl)) k1 bel lt1) (trodAll_cons_mk (shut_int Try.underlying2 w2) (trodAll_cons_mk (shut_int Try.underlying2 w3) trodAll_mk0)))), rfl, bel.frame _, fun h => by cases h⟩
theorem over : Rows.clockReadsRow.holds Try.pinned (OpenSpec.ofChange Rows.clockReadsSpec) :=
  OpenClaim.holds_of_wide 6 Try.f6 rfl rfl rfl rfl rfl rfl rfl ⟨rfl, rfl, rfl, rfl, rfl⟩ rfl rfl rfl rfl rfl (by kernel_rfl) Try.func6 (by kernel_rfl)
    (of_decide_eq_true (by kernel_rfl)) (by unfold Func.isWrapper; first | (rw [if_pos (by decide +kernel)]; kernel_rfl) | (rw [if_neg (by decide +kernel)]; exact ⟨rfl, rfl⟩))
    (fun os started H enc _ => lifted os started H enc)
theorem proved : Rows.ClockReadsSaid := over
#print axioms proved
end Go.Proofs.Ythnmmiofhjbkeaa.clockReads
namespace Go.Proofs.Ythnmmiofhjbkeaa
/-- The row, under a short name, for the claim. -/
theorem clockReads_holds : Rows.ClockReadsSaid := clockReads.proved
end Go.Proofs.Ythnmmiofhjbkeaa
