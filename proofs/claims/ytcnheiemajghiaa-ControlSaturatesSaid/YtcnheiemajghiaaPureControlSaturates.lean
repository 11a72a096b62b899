/-
  The plain law behind ControlSaturates: beyond the dead zone and the ramp of the gain the adjustment is the greatest one, and it then exceeds every drift for which there is a bound.
  Conditions: none beyond the statement's own guards.
-/
import Derived.Test.YtcnheiemajghiaaPAx8
import Derived.Test.YtcnheiemajghiaaYBound
import Derived.Test.YtcnheiemajghiaaYMade
namespace Go.Proofs.Ytcnheiemajghiaa.Pure
open Go.RowKit Go.Proofs.Ytcnheiemajghiaa.PA Go.Proofs.YtcnheiemajghiaaX Go.Proofs.YtcnheiemajghiaaW.PrintWords Go.Proofs.YtcnheiemajghiaaW.PrintLast Go.Proofs.YtcnheiemajghiaaW.PrintMore
theorem poss_made {p q : Int} (h : p = 64 ∧ q = 1 ∨ p = 294 ∧ q = 5 ∨ p = 1 ∧ q = 64 ∨ p = 1024 ∧ q = 3) : possS p q = true := by
  rcases h with ⟨rfl, rfl⟩ | ⟨rfl, rfl⟩ | ⟨rfl, rfl⟩ | ⟨rfl, rfl⟩ <;> decide +kernel
/-- Beyond the ramp the adjustment is the greatest one. -/
theorem sizeS_full {d g m x : Int} (hg : 1 ≤ g) (hm : 0 ≤ m) (h : d + upS m g ≤ x) : sizeS d g m x = m := by
  have h1 := upS_ge (a := m) hg
  have u := upS_nonneg (a := m) (b := g) hm hg
  have : upS m g * g ≤ (x - d) * g := Int.mul_le_mul_of_nonneg_right (by omega) (by omega)
  unfold sizeS
  rw [show mx 0 (x - d) = x - d by unfold mx; split <;> omega]
  unfold mn; split <;> omega
theorem ControlSaturates : soundservicelaw18_ControlSaturates.Pure := by
  intro l more _ _ hl hmore
  obtain ⟨k0, k1⟩ := u8_of hmore
  refine Ev.rounds (g := fun n => soundservicelaw18_ControlSaturates.f n l more) ?_
  unfold soundservicelaw18_ControlSaturates.f
  rw [csane]
  obtain ⟨l1, e1, b1⟩ := new_some (bytes_of hl)
  obtain ⟨t, z, g, m, p, q, k, j, l2, e2, H, _⟩ := made18_some b1
  obtain ⟨⟨t0, t1⟩, ⟨z0, z1⟩, ⟨g0, g1⟩, hm, hp, hk, j0, j1⟩ := H
  have m0 : 0 ≤ m ∧ m ≤ 4096 := by omega
  have kk : 0 ≤ k ∧ k ≤ 4096 := by omega
  have hv : validC t z g m = true := validC_iff.2 (by omega)
  have hd : declS p q k j = true := declS_iff.2 ⟨poss_made hp, by omega⟩
  rw [e1]
  simp only [Option.bind_some, if_true]
  rw [e2]
  simp only [Option.bind_some]
  simp only [if_neg (show ¬ g = 0 by omega)]
  have u := upS_self (a := m) (b := g) m0.1 g0
  have u' := upS_nonneg (a := m) (b := g) m0.1 g0
  rw [w64 (n := m + g) (by omega) (by omega), w64 (n := m + g - 1) (by omega) (by omega), tdiv_pos (show 0 ≤ m + g - 1 by omega)]
  have eu : (m + g - 1) / g = upS m g := rfl
  rw [eu, w64 (n := upS m g) (by omega) (by omega), w64 (n := z + upS m g) (by omega) (by omega), w64 (n := more) (by omega) (by omega), w64 (n := z + upS m g + more) (by omega) (by omega), w64 (n := t + (z + upS m g + more)) (by omega) (by omega)]
  generalize hfar : z + upS m g + more = far at *
  simp only [cadjust, Option.bind_some]
  have full : sizeS z g m far = m := sizeS_full g0 m0.1 (by omega)
  have ea : adjS t z g m (t + far) = m := by
    unfold adjS; rw [if_pos ⟨hv, by omega, by omega⟩, if_neg (by omega), show t + far - t = far by omega, full]
  rw [ea]
  refine Ev.bind (bound_ev t z g m p q k j 0) ?_
  refine Ev.step (f := fun n => _) (fun n => by simp only [soundservicelaw18_ControlSaturates.j0]; rw [if_pos trivial, cadjust]) ?_
  simp only [Option.bind_some]
  have pm0 : 0 ≤ m * (65536 - k) := Int.mul_nonneg m0.1 (by omega)
  have pm1 : m * (65536 - k) ≤ 4096 * 65536 := Int.mul_le_mul m0.2 (by omega) (by omega) (by omega)
  rw [w64 (n := 65536 - k) (by omega) (by omega), w64 (n := m * (65536 - k)) (by omega) (by omega), w64 (n := 65536 * k) (by omega) (by omega), w64 (n := t - far) (by omega) (by omega), w64 (n := -m) (by omega) (by omega)]
  have tail' : Ev (fun _ => if (boundS t z g m p q k j 0).2 = 0 then (if m * (65536 - k) ≥ 65536 * k then some true else some false) else (if m * (65536 - k) ≥ 65536 * k then some false else some ((boundS t z g m p q k j 0).2 == 11))) true := by
    have eb2 : (boundS t z g m p q k j 0).2 = if m * (65536 - k) < 65536 * k then 11 else 0 := by
      unfold boundS
      rw [if_pos (show validC t z g m = true ∧ declS p q k j = true ∧ (0 : Int) ≤ 0 ∧ (0 : Int) ≤ 65536 from ⟨hv, hd, by omega, by omega⟩)]
      split <;> rfl
    rw [eb2]
    by_cases c : m * (65536 - k) < 65536 * k
    · rw [if_pos c]
      simp only [if_neg (show ¬ m * (65536 - k) ≥ 65536 * k by omega)]
      exact Ev.now _
    · rw [if_neg c]
      simp only [if_pos (show m * (65536 - k) ≥ 65536 * k by omega)]
      exact Ev.now _
  by_cases c : far ≤ t
  · rw [if_pos c]
    have eb : adjS t z g m (t - far) = -m := by
      unfold adjS; rw [if_pos ⟨hv, by omega, by omega⟩]
      by_cases c2 : t - far < t
      · rw [if_pos c2, show t - (t - far) = far by omega, full]
      · rw [if_neg c2]
        have h0 : far = 0 := by omega
        have hu0 : upS m g = 0 := by omega
        have ug := upS_ge (a := m) (b := g) g0
        rw [hu0, Int.zero_mul] at ug
        rw [h0] at full
        rw [h0, show t - 0 - t = 0 by omega, full]
        omega
    rw [eb, if_pos rfl]
    exact tail'
  · rw [if_neg c]
    exact tail'
end Go.Proofs.Ytcnheiemajghiaa.Pure
