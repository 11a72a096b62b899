/-
  The reference's Mul, Inverse and Cmp compute the same.
-/
import Derived.Test.YthnmmiofhjbkeaaPAx12
import Derived.Test.YthnmmiofhjbkeaaXMul
import Derived.Test.YthnmmiofhjbkeaaXValidR
namespace Go.Proofs.YthnmmiofhjbkeaaX
open Go.RowKit Go.Proofs.Ythnmmiofhjbkeaa.PA Go.Proofs.YthnmmiofhjbkeaaW.PrintWords Go.Proofs.YthnmmiofhjbkeaaW.PrintLast Go.Proofs.YthnmmiofhjbkeaaW.PrintMore
theorem over_iff {x y M : Int} (hy : 1 ≤ y) : x > M / y ↔ x * y > M := by
  have := Int.le_ediv_iff_mul_le (a := x) (b := M) (show 0 < y by omega)
  omega
theorem cmp_ev' (a b c d : Int) : Ev (fun k => soundserviceref03_Cmp.f k a b c d) (cmpS a b c d) := by
  unfold soundserviceref03_Cmp.f cmpS
  refine Ev.bind (valid_ev' a b) ?_
  by_cases h1 : validS a b = true
  · simp only [if_pos h1]
    refine Ev.bind (valid_ev' c d) ?_
    by_cases h2 : validS c d = true
    · rw [if_pos ⟨h1, h2⟩]
      simp only [h2]
      obtain ⟨a1, b1, a2, b2, _⟩ := validS_iff.1 h1
      obtain ⟨c1, d1, c2, d2, _⟩ := validS_iff.1 h2
      refine Ev.step (f := fun k => _) (fun k => by simp only [soundserviceref03_Cmp.j0]; rw [if_neg (by decide)]) ?_
      rw [u64 (n := a) (by omega) (by omega), u64 (n := b) (by omega) (by omega), u64 (n := c) (by omega) (by omega), u64 (n := d) (by omega) (by omega)]
      rw [mul64 (a := a) (b := d) (by omega) (by omega) (by omega) (by omega), mul64 (a := c) (b := b) (by omega) (by omega) (by omega) (by omega)]
      simp only [Option.bind_some]
      have wl := words_lt (a * d) (c * b)
      have wg := words_lt (c * b) (a * d)
      have we := words_eq (a * d) (c * b)
      by_cases k1 : a * d / 18446744073709551616 < c * b / 18446744073709551616
      · simp only [if_pos k1]
        rw [if_pos (wl.1 (Or.inl k1))]
        refine Ev.step (f := fun _ => some (-1)) (fun k => ?_) (Ev.now _)
        simp only [soundserviceref03_Cmp.j1]; rw [if_pos trivial]
      · simp only [if_neg k1]
        by_cases k2 : a * d / 18446744073709551616 = c * b / 18446744073709551616
        · simp only [if_pos k2]
          by_cases k3 : a * d % 18446744073709551616 < c * b % 18446744073709551616
          · rw [if_pos (wl.1 (Or.inr ⟨k2, k3⟩)), decide_eq_true k3]
            refine Ev.step (f := fun _ => some (-1)) (fun k => ?_) (Ev.now _)
            simp only [soundserviceref03_Cmp.j1]; rw [if_pos trivial]
          · rw [if_neg (fun h => by have := wl.2 h; omega), decide_eq_false k3]
            by_cases k4 : a * d % 18446744073709551616 = c * b % 18446744073709551616
            · rw [if_pos (we.1 ⟨k2, k4⟩)]
              refine Ev.step (f := fun _ => some 0) (fun k => ?_) (Ev.now _)
              simp only [soundserviceref03_Cmp.j1]; rw [if_neg (by decide), if_neg (by omega), if_pos k2, if_neg (by omega)]
            · rw [if_neg (fun h => k4 (we.2 h).2)]
              refine Ev.step (f := fun _ => some 1) (fun k => ?_) (Ev.now _)
              simp only [soundserviceref03_Cmp.j1]; rw [if_neg (by decide), if_neg (by omega), if_pos k2, if_pos (by omega)]
        · simp only [if_neg k2]
          rw [if_neg (fun h => by have := wl.2 h; omega), if_neg (fun h => k2 (we.2 h).1)]
          refine Ev.step (f := fun _ => some 1) (fun k => ?_) (Ev.now _)
          simp only [soundserviceref03_Cmp.j1]; rw [if_neg (by decide), if_pos (by omega)]
    · rw [if_neg (fun h => h2 h.2)]
      simp only [Bool.not_eq_true] at h2
      simp only [h2]
      refine Ev.step (f := fun _ => some 0) (fun k => ?_) (Ev.now _)
      simp only [soundserviceref03_Cmp.j0]; rw [if_pos (by decide)]
  · simp only [if_neg h1]
    rw [if_neg (fun h => h1 h.1)]
    refine Ev.step (f := fun _ => some 0) (fun k => ?_) (Ev.now _)
    simp only [soundserviceref03_Cmp.j0]; rw [if_pos trivial]
end Go.Proofs.YthnmmiofhjbkeaaX
