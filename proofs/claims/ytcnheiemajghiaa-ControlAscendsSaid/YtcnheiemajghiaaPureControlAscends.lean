/-
  The plain law behind ControlAscends: a greater fill never gives a lesser adjustment; adjustments are symmetric around the target and never exceed the greatest one.
  Conditions: none beyond the statement's own guards.
-/
import Derived.Test.YtcnheiemajghiaaPAx5
import Derived.Test.YtcnheiemajghiaaYAdjust
import Derived.Test.YtcnheiemajghiaaYMade
namespace Go.Proofs.Ytcnheiemajghiaa.Pure
open Go.RowKit Go.Proofs.Ytcnheiemajghiaa.PA Go.Proofs.YtcnheiemajghiaaX Go.Proofs.YtcnheiemajghiaaW.PrintWords Go.Proofs.YtcnheiemajghiaaW.PrintLast Go.Proofs.YtcnheiemajghiaaW.PrintMore
theorem u16_of {a : Int} (h : (Lit.int .u16 a).wf = true) : 0 ≤ a ∧ a ≤ 65535 := by
  simp [Lit.wf, IntKind.min, IntKind.max, IntKind.signed, IntKind.bits] at h; exact h
theorem fin (b : Bool) (h : b = true) : Ev (fun k => soundservicelaw18_ControlAscends.j0 k b) true := by
  subst h
  refine Ev.step (f := fun k => soundservicelaw18_ControlAscends.j1 k true) (fun k => by simp only [soundservicelaw18_ControlAscends.j0]) ?_
  exact Ev.step (f := fun _ => some true) (fun k => by simp only [soundservicelaw18_ControlAscends.j1]) (Ev.now _)
/-- A longer way never gives less. -/
theorem sizeS_mono {d g m x y : Int} (hg : 1 ≤ g) (h : x ≤ y) : sizeS d g m x ≤ sizeS d g m y := by
  have : mx 0 (x - d) * g ≤ mx 0 (y - d) * g := Int.mul_le_mul_of_nonneg_right (by unfold mx; split <;> split <;> omega) (by omega)
  unfold sizeS mn; split <;> split <;> omega
theorem sizeS_zero {d g m x : Int} (hm : 0 ≤ m) (h : x ≤ d) : sizeS d g m x = 0 := by
  unfold sizeS; rw [show mx 0 (x - d) = 0 by unfold mx; split <;> omega, Int.zero_mul]; unfold mn; split <;> omega
theorem sizeS_pos {d g m x : Int} (hg : 1 ≤ g) (hm : 1 ≤ m) (h : d < x) : 0 < sizeS d g m x := by
  have : 1 * 1 ≤ (x - d) * g := Int.mul_le_mul (by omega) hg (by omega) (by omega)
  unfold sizeS; rw [show mx 0 (x - d) = x - d by unfold mx; rw [if_pos (by omega)]]; unfold mn; split <;> omega
theorem ControlAscends : soundservicelaw18_ControlAscends.Pure := by
  intro l d more _ _ hl hd hmore
  obtain ⟨d0, d1⟩ := u16_of hd
  obtain ⟨k0, k1⟩ := u8_of hmore
  refine Ev.rounds (g := fun k => soundservicelaw18_ControlAscends.f k l d more) ?_
  unfold soundservicelaw18_ControlAscends.f
  rw [csane]
  obtain ⟨l1, e1, b1⟩ := new_some (bytes_of hl)
  obtain ⟨t, z, g, m, p, q, k', j', l2, e2, H, _⟩ := made18_some b1
  obtain ⟨⟨t0, t1⟩, ⟨z0, z1⟩, ⟨g0, g1⟩, hm, _, _, _⟩ := H
  rw [e1]
  simp only [Option.bind_some, if_true]
  rw [e2]
  simp only [Option.bind_some]
  rw [tmod_pos d0]
  have n0 := Int.emod_nonneg d (show (2000 : Int) ≠ 0 by decide)
  have n1 := Int.emod_lt_of_pos d (show (0 : Int) < 2000 by decide)
  generalize d % 2000 = n at *
  have hv : validC t z g m = true := validC_iff.2 (by omega)
  have m0 : 0 ≤ m := by omega
  rw [w64 (n := n) (by omega) (by omega), w64 (n := more) (by omega) (by omega), w64 (n := t + n) (by omega) (by omega), w64 (n := t + n + more) (by omega) (by omega), w64 (n := t - n) (by omega) (by omega)]
  simp only [cadjust, Option.bind_some]
  have ea : adjS t z g m (t + n) = sizeS z g m n := by
    unfold adjS; rw [if_pos ⟨hv, by omega, by omega⟩, if_neg (by omega), show t + n - t = n by omega]
  have eb : adjS t z g m (t + n + more) = sizeS z g m (n + more) := by
    unfold adjS; rw [if_pos ⟨hv, by omega, by omega⟩, if_neg (by omega), show t + n + more - t = n + more by omega]
  have mono := sizeS_mono (d := z) (m := m) g0 (show n ≤ n + more by omega)
  have ia := sizeS_in (d := z) (x := n) g0 m0
  have ib := sizeS_in (d := z) (x := n + more) g0 m0
  rw [ea, eb]
  simp only [if_pos mono, if_pos (show sizeS z g m n ≥ 0 from ia.1), if_pos ib.2]
  -- what is left behind the test of symmetry
  have rest : Ev (fun k => if n > z then (if n ≤ z then soundservicelaw18_ControlAscends.j0 k true else if m = 0 then soundservicelaw18_ControlAscends.j0 k true else soundservicelaw18_ControlAscends.j0 k (decide (sizeS z g m n > 0)))
      else if sizeS z g m n = 0 then (if n ≤ z then soundservicelaw18_ControlAscends.j0 k true else if m = 0 then soundservicelaw18_ControlAscends.j0 k true else soundservicelaw18_ControlAscends.j0 k (decide (sizeS z g m n > 0))) else soundservicelaw18_ControlAscends.j0 k false) true := by
    by_cases c : n > z
    · simp only [if_pos c, if_neg (show ¬ n ≤ z by omega)]
      by_cases c2 : m = 0
      · simp only [if_pos c2]; exact fin _ rfl
      · simp only [if_neg c2]; exact fin _ (decide_eq_true (sizeS_pos g0 (by omega) (by omega)))
    · simp only [if_neg c, if_pos (show n ≤ z by omega), if_pos (sizeS_zero (g := g) m0 (show n ≤ z by omega))]
      exact fin _ rfl
  by_cases c1 : n > t
  · simp only [if_pos c1]; exact rest
  · simp only [if_neg c1]
    have ec : adjS t z g m (t - n) = -(sizeS z g m n) := by
      unfold adjS; rw [if_pos ⟨hv, by omega, by omega⟩]
      by_cases c : t - n < t
      · rw [if_pos c, show t - (t - n) = n by omega]
      · rw [if_neg c]
        have : n = 0 := by omega
        subst this
        rw [sizeS_zero m0 z0, sizeS_zero m0 (by omega)]; rfl
    rw [ec, w64 (n := -(sizeS z g m n)) (by omega) (by omega)]
    simp only [if_true]
    exact rest
end Go.Proofs.Ytcnheiemajghiaa.Pure
