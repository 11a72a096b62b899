/-
  The reference's Mul, Inverse and Cmp compute the same.
-/
import Derived.Test.YtoolpnpmfagngaaPAx18
import Derived.Test.YtoolpnpmfagngaaPAx20
import Derived.Test.YtoolpnpmfagngaaXMul
import Derived.Test.YtoolpnpmfagngaaXValidR
namespace Go.Proofs.YtoolpnpmfagngaaX
open Go.RowKit Go.Proofs.Ytoolpnpmfagngaa.PA Go.Proofs.YtoolpnpmfagngaaW.PrintWords Go.Proofs.YtoolpnpmfagngaaW.PrintLast Go.Proofs.YtoolpnpmfagngaaW.PrintMore
theorem inv_ev' (a b : Int) : Ev (fun k => soundserviceref03_Inverse.f k a b) (invS a b) := by
  unfold soundserviceref03_Inverse.f invS
  refine Ev.bind (valid_ev' a b) ?_
  by_cases h : validS a b = true
  · simp only [if_pos h]; exact Ev.now _
  · simp only [if_neg h]; exact Ev.now _
theorem over_iff {x y M : Int} (hy : 1 ≤ y) : x > M / y ↔ x * y > M := by
  have := Int.le_ediv_iff_mul_le (a := x) (b := M) (show 0 < y by omega)
  omega
theorem mul_ev' (a b c d : Int) : Ev (fun k => soundserviceref03_Mul.f k a b c d) (mulS a b c d) := by
  unfold soundserviceref03_Mul.f mulS
  refine Ev.bind (valid_ev' a b) ?_
  by_cases h1 : validS a b = true
  · simp only [if_pos h1]
    refine Ev.bind (valid_ev' c d) ?_
    by_cases h2 : validS c d = true
    · rw [if_pos ⟨h1, h2⟩]
      simp only [h2]
      obtain ⟨a1, b1, a2, b2, _⟩ := validS_iff.1 h1
      obtain ⟨c1, d1, c2, d2, _⟩ := validS_iff.1 h2
      obtain ⟨g1, g2, ⟨p1, p2, p3⟩, ⟨q1, q2, q3⟩, ⟨r1, r2, r3⟩, ⟨s1, s2, s3⟩⟩ := mul_facts h1 h2
      refine Ev.step (f := fun k => _) (fun k => by simp only [soundserviceref03_Mul.j0]; rw [if_neg (by decide)]) (Ev.bind (gcd_ev' (a := a) (b := d) (by omega) (by omega)) (Ev.bind (gcd_ev' (a := c) (b := b) (by omega) (by omega)) ?_))
      rw [if_neg (by omega), if_neg (by omega), tdiv_pos (show 0 ≤ a by omega), tdiv_pos (show 0 ≤ b by omega), tdiv_pos (show 0 ≤ c by omega), tdiv_pos (show 0 ≤ d by omega)]
      rw [w64 (n := a / gcdI a d) (by omega) (by omega), w64 (n := c / gcdI c b) (by omega) (by omega), w64 (n := b / gcdI c b) (by omega) (by omega), w64 (n := d / gcdI a d) (by omega) (by omega)]
      have m1 : 68719476736 / (c / gcdI c b) ≤ 68719476736 := Int.ediv_le_self _ (by decide)
      have m2 : 68719476736 / (d / gcdI a d) ≤ 68719476736 := Int.ediv_le_self _ (by decide)
      have m3 : 0 ≤ 68719476736 / (c / gcdI c b) := Int.ediv_nonneg (by decide) (by omega)
      have m4 : 0 ≤ 68719476736 / (d / gcdI a d) := Int.ediv_nonneg (by decide) (by omega)
      rw [w64 (n := 68719476736 / (c / gcdI c b)) (by omega) (by omega), w64 (n := 68719476736 / (d / gcdI a d)) (by omega) (by omega)]
      rw [if_neg (by omega)]
      have o1 := over_iff (x := a / gcdI a d) (y := c / gcdI c b) (M := 68719476736) q1
      have o2 := over_iff (x := b / gcdI c b) (y := d / gcdI a d) (M := 68719476736) s1
      unfold mulN mulD
      by_cases k1 : a / gcdI a d * (c / gcdI c b) > 68719476736
      · rw [if_pos (o1.2 k1), if_pos (Or.inl k1)]; exact Ev.now _
      · rw [if_neg (fun h => k1 (o1.1 h)), if_neg (by omega)]
        by_cases k2 : b / gcdI c b * (d / gcdI a d) > 68719476736
        · rw [if_pos (o2.2 k2), if_pos (Or.inr k2)]; exact Ev.now _
        · have n1 := Int.mul_nonneg (show 0 ≤ a / gcdI a d by omega) (show 0 ≤ c / gcdI c b by omega)
          have n2 := Int.mul_nonneg (show 0 ≤ b / gcdI c b by omega) (show 0 ≤ d / gcdI a d by omega)
          rw [if_neg (fun h => k2 (o2.1 h)), if_neg (by omega), w64 (n := a / gcdI a d * (c / gcdI c b)) (by omega) (by omega), w64 (n := b / gcdI c b * (d / gcdI a d)) (by omega) (by omega)]; exact Ev.now _
    · rw [if_neg (fun h => h2 h.2)]
      simp only [Bool.not_eq_true] at h2
      simp only [h2]
      refine Ev.step (f := fun _ => some (0, 0, 1)) (fun k => ?_) (Ev.now _)
      simp only [soundserviceref03_Mul.j0]; rw [if_pos (by decide)]
  · simp only [if_neg h1]
    rw [if_neg (fun h => h1 h.1)]
    refine Ev.step (f := fun _ => some (0, 0, 1)) (fun k => ?_) (Ev.now _)
    simp only [soundserviceref03_Mul.j0]; rw [if_pos trivial]
theorem cmp_ev' (a b c d : Int) : Ev (fun k => soundserviceref03_Cmp.f k a b c d) (cmpS a b c d) := by
  unfold soundserviceref03_Cmp.f cmpS
  refine Ev.bind (valid_ev' a b) ?_
  by_cases h1 : validS a b = true
  · simp only [if_pos h1]
    refine Ev.bind (valid_ev' c d) ?_
    by_cases h2 : validS c d = true
    · rw [if_pos ⟨h1, h2⟩]
      simp only [h2]
      obtain ⟨a1, b1, a2, b2, _⟩ := validS_iff.1 h1
      obtain ⟨c1, d1, c2, d2, _⟩ := validS_iff.1 h2
      refine Ev.step (f := fun k => _) (fun k => by simp only [soundserviceref03_Cmp.j0]; rw [if_neg (by decide)]) ?_
      rw [u64 (n := a) (by omega) (by omega), u64 (n := b) (by omega) (by omega), u64 (n := c) (by omega) (by omega), u64 (n := d) (by omega) (by omega)]
      rw [mul64 (a := a) (b := d) (by omega) (by omega) (by omega) (by omega), mul64 (a := c) (b := b) (by omega) (by omega) (by omega) (by omega)]
      simp only [Option.bind_some]
      have wl := words_lt (a * d) (c * b)
      have wg := words_lt (c * b) (a * d)
      have we := words_eq (a * d) (c * b)
      by_cases k1 : a * d / 18446744073709551616 < c * b / 18446744073709551616
      · simp only [if_pos k1]
        rw [if_pos (wl.1 (Or.inl k1))]
        refine Ev.step (f := fun _ => some (-1)) (fun k => ?_) (Ev.now _)
        simp only [soundserviceref03_Cmp.j1]; rw [if_pos trivial]
      · simp only [if_neg k1]
        by_cases k2 : a * d / 18446744073709551616 = c * b / 18446744073709551616
        · simp only [if_pos k2]
          by_cases k3 : a * d % 18446744073709551616 < c * b % 18446744073709551616
          · rw [if_pos (wl.1 (Or.inr ⟨k2, k3⟩)), decide_eq_true k3]
            refine Ev.step (f := fun _ => some (-1)) (fun k => ?_) (Ev.now _)
            simp only [soundserviceref03_Cmp.j1]; rw [if_pos trivial]
          · rw [if_neg (fun h => by have := wl.2 h; omega), decide_eq_false k3]
            by_cases k4 : a * d % 18446744073709551616 = c * b % 18446744073709551616
            · rw [if_pos (we.1 ⟨k2, k4⟩)]
              refine Ev.step (f := fun _ => some 0) (fun k => ?_) (Ev.now _)
              simp only [soundserviceref03_Cmp.j1]; rw [if_neg (by decide), if_neg (by omega), if_pos k2, if_neg (by omega)]
            · rw [if_neg (fun h => k4 (we.2 h).2)]
              refine Ev.step (f := fun _ => some 1) (fun k => ?_) (Ev.now _)
              simp only [soundserviceref03_Cmp.j1]; rw [if_neg (by decide), if_neg (by omega), if_pos k2, if_pos (by omega)]
        · simp only [if_neg k2]
          rw [if_neg (fun h => by have := wl.2 h; omega), if_neg (fun h => k2 (we.2 h).1)]
          refine Ev.step (f := fun _ => some 1) (fun k => ?_) (Ev.now _)
          simp only [soundserviceref03_Cmp.j1]; rw [if_neg (by decide), if_pos (by omega)]
    · rw [if_neg (fun h => h2 h.2)]
      simp only [Bool.not_eq_true] at h2
      simp only [h2]
      refine Ev.step (f := fun _ => some 0) (fun k => ?_) (Ev.now _)
      simp only [soundserviceref03_Cmp.j0]; rw [if_pos (by decide)]
  · simp only [if_neg h1]
    rw [if_neg (fun h => h1 h.1)]
    refine Ev.step (f := fun _ => some 0) (fun k => ?_) (Ev.now _)
    simp only [soundserviceref03_Cmp.j0]; rw [if_pos trivial]
end Go.Proofs.YtoolpnpmfagngaaX
