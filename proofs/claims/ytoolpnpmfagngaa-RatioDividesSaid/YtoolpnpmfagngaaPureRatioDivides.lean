/-
  The plain law behind RatioDivides: quotient and rest make the multiple again, and rounding upwards is at most one more.
  Conditions: none beyond the statement's own guards.
-/
import Derived.Test.YtoolpnpmfagngaaPAx13
import Derived.Test.YtoolpnpmfagngaaXLaw03
namespace Go.Proofs.Ytoolpnpmfagngaa.Pure
open Go.RowKit Go.Proofs.Ytoolpnpmfagngaa.PA Go.Proofs.YtoolpnpmfagngaaX Go.Proofs.YtoolpnpmfagngaaW.PrintWords Go.Proofs.YtoolpnpmfagngaaW.PrintLast Go.Proofs.YtoolpnpmfagngaaW.PrintMore
theorem RatioDivides : soundservicelaw03_RatioDivides.Pure := by
  intro n a b _ _ _
  refine Ev.rounds (g := fun k => soundservicelaw03_RatioDivides.f k n a b) ?_
  unfold soundservicelaw03_RatioDivides.f
  refine Ev.bind sane_ev ?_
  simp only [if_true]
  obtain ⟨n1, n2, _⟩ := tmod_abs (a := n) (c := 1048576) (by decide)
  obtain ⟨a1, a2, _⟩ := tmod_abs (a := a) (c := 1048576) (by decide)
  obtain ⟨b1, b2, _⟩ := tmod_abs (a := b) (c := 1048576) (by decide)
  obtain ⟨x, y, hm, hv, mx, my⟩ := made_ev (Int.tmod a 1048576) (Int.tmod b 1048576)
  have mx := mx 1048576 a1 a2
  have my := my 1048576 b1 b2
  obtain ⟨v1, v2, v3, v4, _⟩ := validS_iff.1 hv
  generalize Int.tmod n 1048576 = m at *
  refine Ev.bind hm (Ev.bind (floor_ev m x y) (Ev.bind (rest_ev m x y) (Ev.bind (ceil_ev m x y) ?_)))
  have e := Int.mul_ediv_add_emod (m * x) y
  have r0 := Int.emod_nonneg (m * x) (show y ≠ 0 by omega)
  have r1 := Int.emod_lt_of_pos (m * x) (show 0 < y by omega)
  have p1 : m * x ≤ 1048576 * 1048576 := by
    have := Int.mul_le_mul_of_nonneg_right (show m ≤ 1048576 by omega) (show 0 ≤ x by omega)
    omega
  have p2 : -(1048576 * 1048576) ≤ m * x := by
    have := Int.mul_le_mul_of_nonneg_right (show -1048576 ≤ m by omega) (show 0 ≤ x by omega)
    omega
  have q1 : m * x / y ≤ 1048576 * 1048576 := by
    have : m * x / y < 1048576 * 1048576 + 1 := by
      apply Int.ediv_lt_of_lt_mul (by omega)
      have := Int.mul_le_mul_of_nonneg_left (show 1 ≤ y by omega) (show (0 : Int) ≤ 1048576 * 1048576 + 1 by decide)
      omega
    omega
  have q2 : -(1048576 * 1048576) ≤ m * x / y := by
    rw [Int.le_ediv_iff_mul_le (by omega)]
    have := Int.mul_le_mul_of_nonneg_left (show 1 ≤ y by omega) (show (0 : Int) ≤ 1048576 * 1048576 by decide)
    omega
  have cf := ceil_floor (n := m) (a := x) (show 0 < y by omega)
  rw [floorS_ok hv (by omega) (by omega) (by simp only [inS]; omega), restS_ok hv (by omega) (by omega) (by simp only [inS]; omega), ceilS_ok hv (by omega) (by omega) (by simp only [inS]; rw [cf]; split <;> omega)]
  dsimp only
  rw [Int.mul_comm (m * x / y) y]
  rw [w64 (n := m * x) (by omega) (by omega), w64 (n := y * (m * x / y)) (by omega) (by omega), w64 (n := y * (m * x / y) + m * x % y) (by omega) (by omega), w64 (n := m * x / y + 1) (by omega) (by omega)]
  rw [if_pos rfl, if_pos rfl, if_pos rfl, if_pos e, if_pos r0, if_pos r1, cf]
  by_cases c : m * x % y = 0
  · rw [if_pos c, if_pos c, if_pos rfl]; exact Ev.now _
  · rw [if_neg c, if_neg c, if_pos (by omega)]
    simp only [beq_self_eq_true]
    exact Ev.now _
end Go.Proofs.Ytoolpnpmfagngaa.Pure
