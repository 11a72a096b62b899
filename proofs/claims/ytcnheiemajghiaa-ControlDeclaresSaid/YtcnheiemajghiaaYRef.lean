/-
  What the reference computes for Possible, given, Bound, Demand and Plan: the same.
-/
import Derived.Test.YtcnheiemajghiaaPAx10
import Derived.Test.YtcnheiemajghiaaYBound
namespace Go.Proofs.YtcnheiemajghiaaX
open Go.RowKit Go.Proofs.Ytcnheiemajghiaa.PA Go.Proofs.YtcnheiemajghiaaW.PrintWords Go.Proofs.YtcnheiemajghiaaW.PrintLast Go.Proofs.YtcnheiemajghiaaW.PrintMore
theorem rgcd_l0 (k : Nat) : ∀ a b, soundserviceref03_gcd.l0 k a b = ratio_divisor.l0 k a b := by
  induction k with
  | zero => intro a b; simp only [soundserviceref03_gcd.l0, ratio_divisor.l0]
  | succ k ih => intro a b; simp only [soundserviceref03_gcd.l0, ratio_divisor.l0, ih]
theorem rgcd_ev {a b : Int} (ha : 0 ≤ a) (hb : 0 ≤ b) : Ev (fun k => soundserviceref03_gcd.f k a b) (gcdI a b) := by
  unfold soundserviceref03_gcd.f
  simp only [rgcd_l0]
  exact gcd_l0 b.toNat a b ha hb (Nat.le_refl _)
theorem valid_ev' (a b : Int) : Ev (fun k => soundserviceref03_Valid.f k a b) (validS a b) := by
  unfold soundserviceref03_Valid.f validS
  by_cases h1 : a ≥ 1
  · by_cases h2 : b ≥ 1
    · by_cases h3 : a ≤ 68719476736
      · by_cases h4 : b ≤ 68719476736
        · simp only [if_pos h1, if_pos h2, if_pos h3, if_pos h4]
          refine Ev.bind (rgcd_ev (a := a) (b := b) (by omega) (by omega)) ?_
          have : (gcdI a b == 1) = decide (1 ≤ a ∧ 1 ≤ b ∧ a ≤ 68719476736 ∧ b ≤ 68719476736 ∧ gcdI a b = 1) := by
            rw [Bool.eq_iff_iff]; simp; omega
          rw [this]; exact Ev.now _
        · simp only [if_pos h1, if_pos h2, if_pos h3, if_neg h4]
          rw [decide_eq_false (by omega)]; exact Ev.now _
      · simp only [if_pos h1, if_pos h2, if_neg h3]
        rw [decide_eq_false (by omega)]; exact Ev.now _
    · simp only [if_pos h1, if_neg h2]
      rw [decide_eq_false (by omega)]; exact Ev.now _
  · simp only [if_neg h1]
    rw [decide_eq_false (by omega)]; exact Ev.now _
theorem rposs_ev (p q : Int) : Ev (fun k => soundserviceref18_Possible.f k p q) (possS p q) := by
  unfold soundserviceref18_Possible.f possS
  refine Ev.bind (valid_ev' p q) ?_
  by_cases hv : validS p q = true
  · obtain ⟨p1, q1, p2, q2, _⟩ := validS_iff.1 hv
    simp only [hv, if_true, true_and]
    by_cases c : q ≤ 768000
    · rw [if_pos c, w64 (n := 64 * p) (by omega) (by omega), w64 (n := 524288 * q) (by omega) (by omega)]
      by_cases c2 : 64 * p ≥ q
      · rw [if_pos c2]
        have : decide (p ≤ 524288 * q) = decide (q ≤ 768000 ∧ q ≤ p * 64 ∧ p ≤ q * 64 * 8192) := by rw [decide_eq_decide]; omega
        rw [this]; exact Ev.now _
      · rw [if_neg c2, decide_eq_false (by omega)]; exact Ev.now _
    · rw [if_neg c, decide_eq_false (by omega)]; exact Ev.now _
  · simp only [if_neg hv]
    rw [decide_eq_false (fun h => hv h.1)]; exact Ev.now _
end Go.Proofs.YtcnheiemajghiaaX
