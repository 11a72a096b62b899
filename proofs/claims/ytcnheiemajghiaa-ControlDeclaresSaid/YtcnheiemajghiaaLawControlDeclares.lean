/- The statement ControlDeclares: for every input the Go function returns true, and each argument reads afterwards as it read before. Conditions: none beyond the given statement. -/
import Derived.Test.YtcnheiemajghiaaRows
import Derived.Test.YtcnheiemajghiaaPAx13
import Derived.Test.YtcnheiemajghiaaPureControlDeclares
import Derived.WalkKit
import Derived.ProofKit
import Derived.OpenShut
import Derived.ShutString
import Derived.ChangeOld
import Derived.Below
import Derived.SizedLaws
import Derived.Deep.SlicePairs
import Derived.Test.YtcnheiemajghiaaXAgg
namespace Go.Proofs.Ytcnheiemajghiaa.controlDeclares
open Go.Proofs.YtcnheiemajghiaaX
open Go.ChangeShapes Go.WideShapes Go.ChangeAt Go.RowKit
open Go.ChangeMaps (open_string shut_string)
set_option linter.unusedVariables false
theorem own : ownKnob Try.prog.godebug = none := by kernel_rfl
theorem laidOut : laidOutB Try.prog = true := by kernel_rfl
def IsRow (k : IntKind) (w : World) (a : Option Addr) (len cap : Nat) (zs : List Int) : Prop :=
  (a = none ∧ len = 0 ∧ cap = 0 ∧ zs = []) ∨
  ∃ x, a = some x ∧ len ≤ cap ∧ cap ≤ maxLen ∧ zs.length = cap ∧ (∀ i, i < zs.length → w.cell? (x.add i) = some (.int k (zs.getD i 0))) ∧ ∀ n ∈ zs, (Lit.int k n).wf = true
/-- The law's function returns true wherever its two slices read. -/
theorem walk (a0_0 a0_1 a1_0 a1_1 : Int) (a2 : Option Addr) (cap2 : Nat) (l2 : List PA.S54) (a3 : Option Addr) (len3 cap3 : Nat) (z3 : List Int) (a4 a5 : Int) (w : World) (hr2 : YtcnheiemajghiaaW.PrintWords.Kd.C PA.k54 w a2 l2.length l2) (hc2 : l2.length ≤ cap2) (w3 : IsRow .u8 w a3 len3 cap3 z3) :
    Calls Try.prog 8 #[.agg #[.int .i64 a0_0, .int .i64 a0_1], .agg #[.int .i64 a1_0, .int .i64 a1_1], .slice a2 l2.length cap2, .slice a3 len3 cap3, .int .i64 a4, .int .i64 a5] w fun e w' => e = .returned (.bool true) ∧ Below w.heap.size w w' := by
  obtain ⟨l3, rfl, hr3, hm3, hw3, hc3⟩ := YtcnheiemajghiaaW.PrintWords.ReadsInt.ofRowC w3
  obtain ⟨k, h⟩ := Pure.ControlDeclares a0_0 a0_1 a1_0 a1_1 l2 l3 a4 a5 (bytes_of hw3)
  exact PA.soundservicelaw18_ControlDeclares.calls k _ _ _ _ _ _ l2 _ _ l3 _ _ true w hr2 hc2 (YtcnheiemajghiaaW.PrintWords.Kd.C_of_reads (d := (0 : Int)) (h1 := fun _ => rfl) hr3) hc3 h
set_option maxRecDepth 100000 in
theorem lifted (os : Os) (started : os.Started) (H : Type) (enc : TypeId × Value → H) :
    ReturnsInHanded {} Try.checked os 8 .any (Rows.controlDeclaresSpec.pre6 enc Try.prog Try.f8 Rows.controlDeclaresRow.domain false) (Rows.controlDeclaresSpec.post enc Try.prog Try.f8 false true false false) := by
  refine returnsInHanded_of_change_sized (C := Try.checked) own started (by kernel_rfl) Try.func8
    (ChangeSpec.witness6 (enc := enc) (C := Try.checked) false ⟨#[], #[.agg #[.int .i64 0, .int .i64 0], .agg #[.int .i64 0, .int .i64 0], .slice none 0 0, .slice none 0 0, .int .i64 0, .int .i64 0], []⟩ 8 (by kernel_rfl) (by kernel_rfl) (by kernel_rfl) (by kernel_rfl)) ?_
  intro W base args ds gs before hval0 hW hcnd hsz0 _
  have hval : ∀ (j : Nat) t v, Try.f8.params[j]? = some t → args[j]? = some v → Value.okWide Try.prog W .any base t v := hval0
  have hW' := hW
  obtain ⟨p, q, hA0, hV, rfl, hfz, hnd⟩ := hW
  have hA : DataW.TrodAll enc Try.prog W 0 (fun _ => true) true Try.f8.params.toList args.toList ds p := hA0
  rw [Try.params8] at hA hval
  obtain ⟨v0, vs0, d0, ds0, p0, q0, hargs, rfl, rfl, h0, r0⟩ := trodAll_cons hA
  obtain ⟨v1, vs1, d1, ds1, p1, q1, rfl, rfl, rfl, h1, r1⟩ := trodAll_cons r0
  obtain ⟨v2, vs2, d2, ds2, p2, q2, rfl, rfl, rfl, h2, r2⟩ := trodAll_cons r1
  obtain ⟨v3, vs3, d3, ds3, p3, q3, rfl, rfl, rfl, h3, r3⟩ := trodAll_cons r2
  obtain ⟨v4, vs4, d4, ds4, p4, q4, rfl, rfl, rfl, h4, r4⟩ := trodAll_cons r3
  obtain ⟨v5, vs5, d5, ds5, p5, q5, rfl, rfl, rfl, h5, r5⟩ := trodAll_cons r4
  obtain ⟨rfl, rfl, rfl⟩ := trodAll_nil r5
  obtain rfl : args = #[v0, v1, v2, v3, v4, v5] := by cases args; simp_all
  obtain ⟨rfl, rfl⟩ := trodVars_none hV
  obtain ⟨a0_0, a0_1, rfl, rfl, rfl, w0_0, w0_1⟩ := open_ints2 Try.underlying27 Try.underlying2 Try.underlying2 (by kernel_rfl) (by kernel_rfl) (hval 0 27 v0 rfl rfl) h0
  obtain ⟨a1_0, a1_1, rfl, rfl, rfl, w1_0, w1_1⟩ := open_ints2 Try.underlying27 Try.underlying2 Try.underlying2 (by kernel_rfl) (by kernel_rfl) (hval 1 27 v1 rfl rfl) h1
  obtain ⟨a2, len2, cap2, rfl⟩ := okWide_slice Try.underlying51 (hval 2 51 v2 rfl rfl)
  have k2 := h2
  have lt2 : ∀ x ∈ p2, x.block < W.heap.size := by obtain ⟨m, hm⟩ := k2; exact DataW.trod_lt m _ _ _ hm
  obtain ⟨l2, e2, hr2, hc2⟩ : ∃ l : List PA.S54, len2 = l.length ∧ YtcnheiemajghiaaW.PrintWords.Kd.C PA.k54 W a2 l.length l ∧ l.length ≤ cap2 := by
    obtain ⟨fuel, hf⟩ := h2
    rcases Go.Deep.open_slice_pairs Try.underlying51 Try.underlying54 (by kernel_rfl) rfl rfl (by kernel_rfl) (by kernel_rfl) hf with ⟨hcs, _⟩ | ⟨a, len, cap, m, n, V0, V1, D0, D1, P0, P1, hcs, _, hl, hm, hmm, _, hx⟩
    · simp [Value.cells] at hcs
      obtain ⟨rfl, rfl, rfl⟩ := hcs
      exact ⟨[], rfl, ⟨rfl, by simp, fun h => absurd h (by decide)⟩, Nat.zero_le _⟩
    · simp [Value.cells] at hcs
      obtain ⟨rfl, rfl, rfl⟩ := hcs
      have each : ∀ i, i < len2 → ∃ s : Int × Int, W.cell? (a.add (i * 2)) = some (.int .i64 s.1) ∧ W.cell? (a.add (i * 2 + 1)) = some (.int .i64 s.2) := by
        intro i hi
        obtain ⟨c0, c1, t0, t1⟩ := hx i (by rw [hmm]; split <;> omega)
        obtain ⟨x0, e0, _, _⟩ := DataW.trod_int Try.underlying3 t0
        obtain ⟨x1, e1, _, _⟩ := DataW.trod_int Try.underlying3 t1
        simp only [List.cons.injEq, and_true] at e0 e1
        exact ⟨(x0, x1), by rw [c0, e0], by rw [c1, e1]⟩
      obtain ⟨g, hg⟩ := Go.Deep.choose_lt each
      refine ⟨(List.range len2).map fun i => ⟨(g i).1, (g i).2⟩, by simp, ⟨rfl, ?_, fun _ => ⟨a, rfl, ?_⟩⟩, by simpa using hl⟩
      · have : cap2 ≤ 9223372036854775807 := Nat.le_trans hm (by decide)
        simp
        omega
      · intro j s hs
        obtain ⟨hj, rfl⟩ : j < len2 ∧ (⟨(g j).1, (g j).2⟩ : PA.S54) = s := by
          rw [List.getElem?_map] at hs
          by_cases hj : j < len2
          · rw [List.getElem?_range hj] at hs
            exact ⟨hj, by simpa using hs⟩
          · rw [List.getElem?_eq_none (by simpa using Nat.le_of_not_lt hj)] at hs
            exact absurd hs (by simp)
        obtain ⟨x0, x1⟩ := hg j hj
        refine ⟨[.int .i64 (g j).1, .int .i64 (g j).2], rfl, PA.k54_mk W _, fun i u hu => ?_⟩
        match i, hu with
        | 0, hu =>
          obtain rfl := Option.some.inj hu
          exact x0
        | 1, hu =>
          obtain rfl := Option.some.inj hu
          exact x1
  obtain ⟨a3, len3, cap3, rfl⟩ := okWide_slice Try.underlying24 (hval 3 24 v3 rfl rfl)
  have k3 := h3
  have lt3 : ∀ x ∈ p3, x.block < W.heap.size := by obtain ⟨m, hm⟩ := k3; exact DataW.trod_lt m _ _ _ hm
  obtain ⟨z3, w3⟩ : ∃ zs, IsRow .u8 W a3 len3 cap3 zs := by
    obtain ⟨fuel, hf⟩ := h3
    rcases open_ints Try.underlying24 Try.underlying5 (by kernel_rfl) hf with ⟨hcs, _⟩ | ⟨x, l, c, zs, hcs, _, hl, hm, hz, _, hcell, hwz⟩
    · simp [Value.cells] at hcs
      obtain ⟨rfl, rfl, rfl⟩ := hcs
      exact ⟨[], .inl ⟨rfl, rfl, rfl, rfl⟩⟩
    · simp [Value.cells] at hcs
      obtain ⟨rfl, rfl, rfl⟩ := hcs
      exact ⟨zs, .inr ⟨_, rfl, hl, hm, by simpa using hz, hcell, hwz⟩⟩
  obtain ⟨a4, rfl, rfl, rfl, w4⟩ := open_int Try.underlying3 (hval 4 3 v4 rfl rfl) h4
  obtain ⟨a5, rfl, rfl, rfl, w5⟩ := open_int Try.underlying3 (hval 5 3 v5 rfl rfl) h5
  clear hA0 hval0 hsz0
  subst e2
  refine (walk a0_0 a0_1 a1_0 a1_1 a2 cap2 l2 a3 len3 cap3 z3 a4 a5 W hr2 hc2 w3).mono fun e W' ⟨he, bel⟩ => ?_
  subst he
  exact ⟨_, rfl, _, _, _, [], _, [], hW', trodAll_mk1 (shut_bool Try.underlying4 _), (trodAll_cons_mk (shut_ints2 Try.underlying27 Try.underlying2 Try.underlying2 (by kernel_rfl) (by kernel_rfl) w0_0 w0_1) (trodAll_cons_mk (shut_ints2 Try.underlying27 Try.underlying2 Try.underlying2 (by kernel_rfl) (by kernel_rfl) w1_0 w1_1) (trodAll_cons_mk (Below.trod laidOut (by kernel_rfl) (of_decide_eq_true (by kernel_rfl)) k2 bel lt2) (trodAll_cons_mk (Below.trod laidOut (by kernel_rfl) (of_decide_eq_true (by kernel_rfl)) k3 bel lt3) (trodAll_cons_mk (shut_int Try.underlying3 w4) (trodAll_cons_mk (shut_int Try.underlying3 w5) trodAll_mk0)))))), rfl, bel.frame _, fun h => by cases h⟩
theorem over : Rows.controlDeclaresRow.holds Try.pinned (OpenSpec.ofChange Rows.controlDeclaresSpec) :=
  OpenClaim.holds_of_wide 8 Try.f8 rfl rfl rfl rfl rfl rfl rfl ⟨rfl, rfl, rfl, rfl, rfl⟩ rfl rfl rfl rfl rfl (by kernel_rfl) Try.func8 (by kernel_rfl)
    (of_decide_eq_true (by kernel_rfl)) (by unfold Func.isWrapper; first | (rw [if_pos (by decide +kernel)]; kernel_rfl) | (rw [if_neg (by decide +kernel)]; exact ⟨rfl, rfl⟩))
    (fun os started H enc _ => lifted os started H enc)
theorem proved : Rows.ControlDeclaresSaid := over
#print axioms proved
end Go.Proofs.Ytcnheiemajghiaa.controlDeclares
namespace Go.Proofs.Ytcnheiemajghiaa
/-- The row, under a short name, for the claim. -/
theorem controlDeclares_holds : Rows.ControlDeclaresSaid := controlDeclares.proved
end Go.Proofs.Ytcnheiemajghiaa
