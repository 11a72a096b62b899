/-
  The plain law behind RatioGalois: a number is at most a rounded multiple exactly if its multiple by the inverse, rounded upwards, is at most the other number.
  Conditions: none beyond the statement's own guards.
-/
import Derived.Test.YtoolpnpmfagngaaPAx15
import Derived.Test.YtoolpnpmfagngaaXLaw03
import Derived.Test.YtoolpnpmfagngaaXMul
namespace Go.Proofs.Ytoolpnpmfagngaa.Pure
open Go.RowKit Go.Proofs.Ytoolpnpmfagngaa.PA Go.Proofs.YtoolpnpmfagngaaX Go.Proofs.YtoolpnpmfagngaaW.PrintWords Go.Proofs.YtoolpnpmfagngaaW.PrintLast Go.Proofs.YtoolpnpmfagngaaW.PrintMore
theorem i32_of {a : Int} (h : (Lit.int .i32 a).wf = true) : -2147483648 ≤ a ∧ a ≤ 2147483647 := by
  simp [Lit.wf, IntKind.min, IntKind.max, IntKind.signed, IntKind.bits] at h; exact h
/-- A product of a number of at most 2^31 and a term of at most 2^20. -/
theorem prod_in {n x : Int} (h0 : -2147483648 ≤ n) (h1 : n ≤ 2147483648) (x0 : 1 ≤ x) (x1 : x ≤ 1048576) : -(2147483648 * 1048576) ≤ n * x ∧ n * x ≤ 2147483648 * 1048576 := by
  have a := Int.mul_le_mul_of_nonneg_right h1 (show 0 ≤ x by omega)
  have b := Int.mul_le_mul_of_nonneg_right h0 (show 0 ≤ x by omega)
  omega
theorem quot_in {p y B : Int} (hy : 1 ≤ y) (h0 : -B ≤ p) (h1 : p ≤ B) (hB : 0 ≤ B) : -B ≤ p / y ∧ p / y ≤ B := by
  refine ⟨?_, ?_⟩
  · rw [Int.le_ediv_iff_mul_le (by omega)]
    have := Int.mul_le_mul_of_nonneg_left hy hB
    have e : -B * y = -(B * y) := Int.neg_mul _ _
    omega
  · have : p / y < B + 1 := by
      apply Int.ediv_lt_of_lt_mul (by omega)
      have := Int.mul_le_mul_of_nonneg_left hy (show 0 ≤ B + 1 by omega)
      omega
    omega
/-- Rounded upwards it is at most n exactly if the number is. -/
theorem ceil_le {p y n : Int} (hy : 1 ≤ y) : -(-p / y) ≤ n ↔ p ≤ n * y := by
  have := Int.le_ediv_iff_mul_le (a := -n) (b := -p) (show 0 < y by omega)
  have e : -n * y = -(n * y) := Int.neg_mul _ _
  omega
theorem RatioGalois : soundservicelaw03_RatioGalois.Pure := by
  intro m n a b hm hn _ _
  obtain ⟨m0, m1⟩ := i32_of hm
  obtain ⟨n0, n1⟩ := i32_of hn
  refine Ev.rounds (g := fun k => soundservicelaw03_RatioGalois.f k m n a b) ?_
  unfold soundservicelaw03_RatioGalois.f
  obtain ⟨a1, a2, _⟩ := tmod_abs (a := a) (c := 1048576) (by decide)
  obtain ⟨b1, b2, _⟩ := tmod_abs (a := b) (c := 1048576) (by decide)
  obtain ⟨x, y, hmade, hv, mx, my⟩ := made_ev (Int.tmod a 1048576) (Int.tmod b 1048576)
  have mx := mx 1048576 a1 a2
  have my := my 1048576 b1 b2
  obtain ⟨v1, v2, v3, v4, _⟩ := validS_iff.1 hv
  refine Ev.bind sane_ev ?_
  simp only [if_true]
  rw [w64 (n := m) (by omega) (by omega), w64 (n := n) (by omega) (by omega)]
  refine Ev.bind hmade (Ev.bind (inv_ev x y) (Ev.bind (floor_ev n x y) ?_))
  obtain ⟨p0, p1⟩ := prod_in (n := n) (by omega) (by omega) v1 mx
  obtain ⟨q0, q1⟩ := quot_in (p := n * x) v2 p0 p1 (by decide)
  have hvs : validS y x = true := by rw [validS_swap]; exact hv
  rw [floorS_ok hv (by omega) (by omega) (by simp only [inS]; omega), show invS x y = (y, x, 0) by unfold invS; rw [if_pos hv]]
  refine Ev.bind (ceil_ev m y x) (Ev.bind (ceil_ev (n * x / y) y x) ?_)
  obtain ⟨s0, s1⟩ := prod_in (n := -m) (by omega) (by omega) v2 my
  obtain ⟨t0, t1⟩ := quot_in (p := -m * y) v1 s0 s1 (by decide)
  rw [ceilS_ok hvs (by omega) (by omega) (by simp only [inS]; omega)]
  simp only [if_true]
  have k1 : m ≤ n * x / y ↔ -(-m * y / x) ≤ n := by
    rw [Int.le_ediv_iff_mul_le (by omega), Int.neg_mul, ceil_le v1]
  have e1 : (decide (m ≤ n * x / y) == decide (-(-m * y / x) ≤ n)) = true := by
    simp only [k1, beq_self_eq_true]
  rw [if_pos e1]
  unfold ceilS
  by_cases c : checkS (n * x / y) y x = 0
  · rw [if_pos c]
    by_cases c2 : inS (-(-(n * x / y) * y / x))
    · rw [if_pos c2]
      simp only [if_true]
      have : -(-(n * x / y) * y / x) ≤ n := by
        rw [Int.neg_mul, ceil_le v1]
        exact Int.ediv_mul_le _ (by omega)
      rw [decide_eq_true this]; exact Ev.now _
    · rw [if_neg c2]; exact Ev.now _
  · rw [if_neg c]
    simp only [if_neg c]
    exact Ev.now _
end Go.Proofs.Ytoolpnpmfagngaa.Pure
