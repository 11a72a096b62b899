/-
  The reference's Valid computes the same.
-/
import Derived.Test.YthnmmiofhjbkeaaPAx11
import Derived.Test.YthnmmiofhjbkeaaXRatio
namespace Go.Proofs.YthnmmiofhjbkeaaX
open Go.RowKit Go.Proofs.Ythnmmiofhjbkeaa.PA Go.Proofs.YthnmmiofhjbkeaaW.PrintWords Go.Proofs.YthnmmiofhjbkeaaW.PrintLast Go.Proofs.YthnmmiofhjbkeaaW.PrintMore
theorem valid_ev' (a b : Int) : Ev (fun k => soundserviceref03_Valid.f k a b) (validS a b) := by
  unfold soundserviceref03_Valid.f validS
  by_cases h1 : a ≥ 1
  · by_cases h2 : b ≥ 1
    · by_cases h3 : a ≤ 68719476736
      · by_cases h4 : b ≤ 68719476736
        · simp only [if_pos h1, if_pos h2, if_pos h3, if_pos h4]
          refine Ev.bind (gcd_ev' (a := a) (b := b) (by omega) (by omega)) ?_
          have : (gcdI a b == 1) = decide (1 ≤ a ∧ 1 ≤ b ∧ a ≤ 68719476736 ∧ b ≤ 68719476736 ∧ gcdI a b = 1) := by
            rw [Bool.eq_iff_iff]; simp; omega
          rw [this]; exact Ev.now _
        · simp only [if_pos h1, if_pos h2, if_pos h3, if_neg h4]
          rw [decide_eq_false (by omega)]; exact Ev.now _
      · simp only [if_pos h1, if_pos h2, if_neg h3]
        rw [decide_eq_false (by omega)]; exact Ev.now _
    · simp only [if_pos h1, if_neg h2]
      rw [decide_eq_false (by omega)]; exact Ev.now _
  · simp only [if_neg h1]
    rw [decide_eq_false (by omega)]; exact Ev.now _
end Go.Proofs.YthnmmiofhjbkeaaX
