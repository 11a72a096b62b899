/-
  What the printed Mul, Inverse and Cmp compute.
-/
import Derived.Test.YthnmmiofhjbkeaaPAx9
import Derived.Test.YthnmmiofhjbkeaaXFloor
namespace Go.Proofs.YthnmmiofhjbkeaaX
open Go.RowKit Go.Proofs.Ythnmmiofhjbkeaa.PA Go.Proofs.YthnmmiofhjbkeaaW.PrintWords Go.Proofs.YthnmmiofhjbkeaaW.PrintLast Go.Proofs.YthnmmiofhjbkeaaW.PrintMore
def invS (a b : Int) : Int × Int × Int := if validS a b = true then (b, a, 0) else (0, 0, 1)
theorem inv_ev (a b : Int) : Ev (fun k => ratio_Inverse.f k a b) (invS a b) := by
  unfold ratio_Inverse.f invS
  refine Ev.bind (valid_ev a b) ?_
  by_cases h : validS a b = true
  · simp only [if_pos h]; exact Ev.now _
  · simp only [if_neg h]; exact Ev.now _
theorem validS_swap {a b : Int} : validS b a = validS a b := by
  unfold validS
  rw [gcdI_comm b a, decide_eq_decide]
  omega
/-- The product of two valid ratios, factors that both have taken out first. -/
def mulN (a b c d : Int) : Int := a / gcdI a d * (c / gcdI c b)
def mulD (a b c d : Int) : Int := b / gcdI c b * (d / gcdI a d)
def mulS (a b c d : Int) : Int × Int × Int :=
  if validS a b = true ∧ validS c d = true then (if mulN a b c d > 68719476736 ∨ mulD a b c d > 68719476736 then (0, 0, 2) else (mulN a b c d, mulD a b c d, 0)) else (0, 0, 1)
theorem mul_facts {a b c d : Int} (h1 : validS a b = true) (h2 : validS c d = true) :
    1 ≤ gcdI a d ∧ 1 ≤ gcdI c b ∧ (1 ≤ a / gcdI a d ∧ a / gcdI a d ≤ a ∧ a / gcdI a d * gcdI a d = a) ∧ (1 ≤ c / gcdI c b ∧ c / gcdI c b ≤ c ∧ c / gcdI c b * gcdI c b = c) ∧
      (1 ≤ b / gcdI c b ∧ b / gcdI c b ≤ b ∧ b / gcdI c b * gcdI c b = b) ∧ (1 ≤ d / gcdI a d ∧ d / gcdI a d ≤ d ∧ d / gcdI a d * gcdI a d = d) := by
  obtain ⟨a1, b1, _, _, _⟩ := validS_iff.1 h1
  obtain ⟨c1, d1, _, _, _⟩ := validS_iff.1 h2
  have g1 := gcdI_pos (a := a) (b := d) a1
  have g2 := gcdI_pos (a := c) (b := b) c1
  exact ⟨g1, g2, quot_pos a1 g1 (gcdI_dvd (by omega)), quot_pos c1 g2 (gcdI_dvd (by omega)), quot_pos b1 g2 (gcdI_dvd' (by omega)), quot_pos d1 g1 (gcdI_dvd' (by omega))⟩
/-- Two valid ratios compared, by their cross products. -/
def cmpS (a b c d : Int) : Int := if validS a b = true ∧ validS c d = true then (if a * d < c * b then -1 else if a * d = c * b then 0 else 1) else 0
theorem words_lt (x y : Int) : (x / 18446744073709551616 < y / 18446744073709551616 ∨ x / 18446744073709551616 = y / 18446744073709551616 ∧ x % 18446744073709551616 < y % 18446744073709551616) ↔ x < y := by omega
theorem words_eq (x y : Int) : (x / 18446744073709551616 = y / 18446744073709551616 ∧ x % 18446744073709551616 = y % 18446744073709551616) ↔ x = y := by omega
end Go.Proofs.YthnmmiofhjbkeaaX
