/-
  What the printed Mul, Inverse and Cmp compute.
-/
import Derived.Test.YtoolpnpmfagngaaPAx14
import Derived.Test.YtoolpnpmfagngaaPAx16
import Derived.Test.YtoolpnpmfagngaaPAx19
import Derived.Test.YtoolpnpmfagngaaXFloor
namespace Go.Proofs.YtoolpnpmfagngaaX
open Go.RowKit Go.Proofs.Ytoolpnpmfagngaa.PA Go.Proofs.YtoolpnpmfagngaaW.PrintWords Go.Proofs.YtoolpnpmfagngaaW.PrintLast Go.Proofs.YtoolpnpmfagngaaW.PrintMore
def invS (a b : Int) : Int × Int × Int := if validS a b = true then (b, a, 0) else (0, 0, 1)
theorem inv_ev (a b : Int) : Ev (fun k => ratio_Inverse.f k a b) (invS a b) := by
  unfold ratio_Inverse.f invS
  refine Ev.bind (valid_ev a b) ?_
  by_cases h : validS a b = true
  · simp only [if_pos h]; exact Ev.now _
  · simp only [if_neg h]; exact Ev.now _
theorem validS_swap {a b : Int} : validS b a = validS a b := by
  unfold validS
  rw [gcdI_comm b a, decide_eq_decide]
  omega
/-- The product of two valid ratios, factors that both have taken out first. -/
def mulN (a b c d : Int) : Int := a / gcdI a d * (c / gcdI c b)
def mulD (a b c d : Int) : Int := b / gcdI c b * (d / gcdI a d)
def mulS (a b c d : Int) : Int × Int × Int :=
  if validS a b = true ∧ validS c d = true then (if mulN a b c d > 68719476736 ∨ mulD a b c d > 68719476736 then (0, 0, 2) else (mulN a b c d, mulD a b c d, 0)) else (0, 0, 1)
theorem mul_facts {a b c d : Int} (h1 : validS a b = true) (h2 : validS c d = true) :
    1 ≤ gcdI a d ∧ 1 ≤ gcdI c b ∧ (1 ≤ a / gcdI a d ∧ a / gcdI a d ≤ a ∧ a / gcdI a d * gcdI a d = a) ∧ (1 ≤ c / gcdI c b ∧ c / gcdI c b ≤ c ∧ c / gcdI c b * gcdI c b = c) ∧
      (1 ≤ b / gcdI c b ∧ b / gcdI c b ≤ b ∧ b / gcdI c b * gcdI c b = b) ∧ (1 ≤ d / gcdI a d ∧ d / gcdI a d ≤ d ∧ d / gcdI a d * gcdI a d = d) := by
  obtain ⟨a1, b1, _, _, _⟩ := validS_iff.1 h1
  obtain ⟨c1, d1, _, _, _⟩ := validS_iff.1 h2
  have g1 := gcdI_pos (a := a) (b := d) a1
  have g2 := gcdI_pos (a := c) (b := b) c1
  exact ⟨g1, g2, quot_pos a1 g1 (gcdI_dvd (by omega)), quot_pos c1 g2 (gcdI_dvd (by omega)), quot_pos b1 g2 (gcdI_dvd' (by omega)), quot_pos d1 g1 (gcdI_dvd' (by omega))⟩
theorem term_ev {x y : Int} (hx : 1 ≤ x) (hx' : x ≤ 68719476736) (hy : 1 ≤ y) (hy' : y ≤ 68719476736) :
    ∃ z, ratio_term.f x y = some (z, decide (x * y ≤ 68719476736)) ∧ (x * y ≤ 68719476736 → z = x * y) := by
  unfold ratio_term.f
  have hp0 : 0 ≤ x * y := Int.mul_nonneg (by omega) (by omega)
  rw [u64 (n := x) (by omega) (by omega), u64 (n := y) (by omega) (by omega), mul64 (by omega) (by omega) (by omega) (by omega)]
  simp only [Option.bind_some]
  by_cases c : x * y / 18446744073709551616 = 0
  · rw [if_pos c]
    have : x * y % 18446744073709551616 = x * y := by omega
    rw [this]
    exact ⟨_, rfl, fun h => w64 (by omega) (by omega)⟩
  · rw [if_neg c]
    refine ⟨wrap64 (x * y % 18446744073709551616), ?_, fun h => by omega⟩
    rw [decide_eq_false (by omega)]
theorem mul_ev (a b c d : Int) : Ev (fun k => ratio_Mul.f k a b c d) (mulS a b c d) := by
  unfold ratio_Mul.f mulS
  refine Ev.bind (valid_ev a b) ?_
  by_cases h1 : validS a b = true
  · simp only [if_pos h1]
    refine Ev.bind (valid_ev c d) ?_
    by_cases h2 : validS c d = true
    · rw [if_pos ⟨h1, h2⟩]
      simp only [h2]
      obtain ⟨a1, b1, a2, b2, _⟩ := validS_iff.1 h1
      obtain ⟨c1, d1, c2, d2, _⟩ := validS_iff.1 h2
      obtain ⟨g1, g2, ⟨p1, p2, p3⟩, ⟨q1, q2, q3⟩, ⟨r1, r2, r3⟩, ⟨s1, s2, s3⟩⟩ := mul_facts h1 h2
      refine Ev.step (f := fun k => _) (fun k => by simp only [ratio_Mul.j0]; rw [if_neg (by decide)]) (Ev.bind (gcd_ev (a := a) (b := d) (by omega) (by omega)) (Ev.bind (gcd_ev (a := c) (b := b) (by omega) (by omega)) ?_))
      rw [if_neg (by omega), if_neg (by omega), tdiv_pos (show 0 ≤ a by omega), tdiv_pos (show 0 ≤ b by omega), tdiv_pos (show 0 ≤ c by omega), tdiv_pos (show 0 ≤ d by omega)]
      rw [w64 (n := a / gcdI a d) (by omega) (by omega), w64 (n := c / gcdI c b) (by omega) (by omega), w64 (n := b / gcdI c b) (by omega) (by omega), w64 (n := d / gcdI a d) (by omega) (by omega)]
      obtain ⟨z, ez, hz⟩ := term_ev p1 (by omega) q1 (by omega)
      obtain ⟨u, eu, hu⟩ := term_ev r1 (by omega) s1 (by omega)
      rw [ez, eu]
      simp only [Option.bind_some]
      unfold mulN mulD
      by_cases k1 : a / gcdI a d * (c / gcdI c b) ≤ 68719476736
      · by_cases k2 : b / gcdI c b * (d / gcdI a d) ≤ 68719476736
        · rw [if_pos (decide_eq_true k1), if_pos (decide_eq_true k2), if_neg (by omega), hz k1, hu k2]; exact Ev.now _
        · rw [if_pos (decide_eq_true k1), if_neg (by rw [decide_eq_true_iff]; exact k2), if_pos (by omega)]; exact Ev.now _
      · rw [if_neg (by rw [decide_eq_true_iff]; exact k1), if_pos (by omega)]; exact Ev.now _
    · rw [if_neg (fun h => h2 h.2)]
      simp only [Bool.not_eq_true] at h2
      simp only [h2]
      refine Ev.step (f := fun _ => some (0, 0, 1)) (fun k => ?_) (Ev.now _)
      simp only [ratio_Mul.j0]; rw [if_pos (by decide)]
  · simp only [if_neg h1]
    rw [if_neg (fun h => h1 h.1)]
    refine Ev.step (f := fun _ => some (0, 0, 1)) (fun k => ?_) (Ev.now _)
    simp only [ratio_Mul.j0]; rw [if_pos trivial]
/-- Two valid ratios compared, by their cross products. -/
def cmpS (a b c d : Int) : Int := if validS a b = true ∧ validS c d = true then (if a * d < c * b then -1 else if a * d = c * b then 0 else 1) else 0
theorem words_lt (x y : Int) : (x / 18446744073709551616 < y / 18446744073709551616 ∨ x / 18446744073709551616 = y / 18446744073709551616 ∧ x % 18446744073709551616 < y % 18446744073709551616) ↔ x < y := by omega
theorem words_eq (x y : Int) : (x / 18446744073709551616 = y / 18446744073709551616 ∧ x % 18446744073709551616 = y % 18446744073709551616) ↔ x = y := by omega
theorem cmp_ev (a b c d : Int) : Ev (fun k => ratio_Cmp.f k a b c d) (cmpS a b c d) := by
  unfold ratio_Cmp.f cmpS
  refine Ev.bind (valid_ev a b) ?_
  by_cases h1 : validS a b = true
  · simp only [if_pos h1]
    refine Ev.bind (valid_ev c d) ?_
    by_cases h2 : validS c d = true
    · rw [if_pos ⟨h1, h2⟩]
      simp only [h2]
      obtain ⟨a1, b1, a2, b2, _⟩ := validS_iff.1 h1
      obtain ⟨c1, d1, c2, d2, _⟩ := validS_iff.1 h2
      refine Ev.step (f := fun k => _) (fun k => by simp only [ratio_Cmp.j0]; rw [if_neg (by decide)]) ?_
      rw [u64 (n := a) (by omega) (by omega), u64 (n := b) (by omega) (by omega), u64 (n := c) (by omega) (by omega), u64 (n := d) (by omega) (by omega)]
      rw [mul64 (a := a) (b := d) (by omega) (by omega) (by omega) (by omega), mul64 (a := c) (b := b) (by omega) (by omega) (by omega) (by omega)]
      simp only [Option.bind_some]
      have wl := words_lt (a * d) (c * b)
      have we := words_eq (a * d) (c * b)
      by_cases k1 : a * d / 18446744073709551616 < c * b / 18446744073709551616
      · simp only [if_pos k1]
        rw [if_pos (wl.1 (Or.inl k1))]
        refine Ev.step (f := fun _ => some (-1)) (fun k => ?_) (Ev.now _)
        simp only [ratio_Cmp.j1]; rw [if_pos trivial]
      · simp only [if_neg k1]
        by_cases k2 : a * d / 18446744073709551616 = c * b / 18446744073709551616
        · simp only [if_pos k2]
          by_cases k3 : a * d % 18446744073709551616 < c * b % 18446744073709551616
          · rw [if_pos (wl.1 (Or.inr ⟨k2, k3⟩)), decide_eq_true k3]
            refine Ev.step (f := fun _ => some (-1)) (fun k => ?_) (Ev.now _)
            simp only [ratio_Cmp.j1]; rw [if_pos trivial]
          · rw [if_neg (fun h => by have := wl.2 h; omega), decide_eq_false k3]
            by_cases k4 : a * d % 18446744073709551616 = c * b % 18446744073709551616
            · rw [if_pos (we.1 ⟨k2, k4⟩)]
              refine Ev.step (f := fun _ => some 0) (fun k => ?_) (Ev.now _)
              simp only [ratio_Cmp.j1]; rw [if_neg (by decide), if_pos k2, if_pos k4]
            · rw [if_neg (fun h => k4 (we.2 h).2)]
              refine Ev.step (f := fun _ => some 1) (fun k => ?_) (Ev.now _)
              simp only [ratio_Cmp.j1]; rw [if_neg (by decide), if_pos k2, if_neg k4]
        · simp only [if_neg k2]
          rw [if_neg (fun h => by have := wl.2 h; omega), if_neg (fun h => k2 (we.2 h).1)]
          refine Ev.step (f := fun _ => some 1) (fun k => ?_) (Ev.now _)
          simp only [ratio_Cmp.j1]; rw [if_neg (by decide), if_neg k2]
    · rw [if_neg (fun h => h2 h.2)]
      simp only [Bool.not_eq_true] at h2
      simp only [h2]
      refine Ev.step (f := fun _ => some 0) (fun k => ?_) (Ev.now _)
      simp only [ratio_Cmp.j0]; rw [if_pos (by decide)]
  · simp only [if_neg h1]
    rw [if_neg (fun h => h1 h.1)]
    refine Ev.step (f := fun _ => some 0) (fun k => ?_) (Ev.now _)
    simp only [ratio_Cmp.j0]; rw [if_pos trivial]
end Go.Proofs.YtoolpnpmfagngaaX
