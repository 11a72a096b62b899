/-
  The greatest common divisor of two numbers; which ratios are valid.
-/
import Derived.Test.YthnmmiofhjbkeaaPAx2
import Derived.Test.YthnmmiofhjbkeaaXPlain
namespace Go.Proofs.YthnmmiofhjbkeaaX
open Go.RowKit Go.Proofs.Ythnmmiofhjbkeaa.PA Go.Proofs.YthnmmiofhjbkeaaW.PrintWords Go.Proofs.YthnmmiofhjbkeaaW.PrintLast Go.Proofs.YthnmmiofhjbkeaaW.PrintMore

/-- The greatest common divisor of two numbers that are not negative. -/
def gcdI (a b : Int) : Int := (Nat.gcd a.toNat b.toNat : Int)
theorem gcdI_comm (a b : Int) : gcdI a b = gcdI b a := by unfold gcdI; rw [Nat.gcd_comm]
theorem gcdI_pos {a b : Int} (ha : 1 ≤ a) : 1 ≤ gcdI a b := by
  unfold gcdI
  have := Nat.gcd_pos_of_pos_left b.toNat (show 0 < a.toNat by omega)
  omega
theorem gcdI_self {a : Int} (ha : 1 ≤ a) : gcdI a a = a := by
  unfold gcdI; rw [Nat.gcd_self]; omega
theorem gcdI_dvd {a b : Int} (ha : 0 ≤ a) : gcdI a b ∣ a := by
  unfold gcdI
  have := Nat.gcd_dvd_left a.toNat b.toNat
  have := Int.natCast_dvd_natCast.2 this
  rwa [Int.toNat_of_nonneg ha] at this
theorem gcdI_dvd' {a b : Int} (hb : 0 ≤ b) : gcdI a b ∣ b := by rw [gcdI_comm]; exact gcdI_dvd hb
theorem gcdI_step {a b : Int} (ha : 0 ≤ a) (hb : 0 < b) : gcdI b (a % b) = gcdI a b := by
  unfold gcdI
  obtain ⟨m, rfl⟩ := Int.eq_ofNat_of_zero_le ha
  obtain ⟨n, rfl⟩ := Int.eq_ofNat_of_zero_le (Int.le_of_lt hb)
  have : ((m : Int) % (n : Int)).toNat = m % n := by rw [← Int.natCast_emod]; exact Int.toNat_natCast _
  rw [this, Int.toNat_natCast, Int.toNat_natCast, Nat.gcd_comm, ← Nat.gcd_rec, Nat.gcd_comm]
/-- What is left of two numbers without their common divisor has none. -/
theorem gcdI_rest {a b : Int} (ha : 1 ≤ a) (hb : 1 ≤ b) : gcdI (a / gcdI a b) (b / gcdI a b) = 1 := by
  unfold gcdI
  obtain ⟨m, rfl⟩ := Int.eq_ofNat_of_zero_le (show 0 ≤ a by omega)
  obtain ⟨n, rfl⟩ := Int.eq_ofNat_of_zero_le (show 0 ≤ b by omega)
  simp only [Int.toNat_natCast]
  rw [← Int.natCast_ediv, ← Int.natCast_ediv, Int.toNat_natCast, Int.toNat_natCast]
  rw [Nat.gcd_div (Nat.gcd_dvd_left m n) (Nat.gcd_dvd_right m n), Nat.div_self (Nat.gcd_pos_of_pos_left n (by omega))]
  rfl
theorem quot_pos {a g : Int} (ha : 1 ≤ a) (hg : 1 ≤ g) (h : g ∣ a) : 1 ≤ a / g ∧ a / g ≤ a ∧ a / g * g = a := by
  have e := Int.ediv_mul_cancel h
  have l := Int.ediv_le_self g (show 0 ≤ a by omega)
  refine ⟨?_, l, e⟩
  have h0 : 0 ≤ a / g := Int.ediv_nonneg (by omega) (by omega)
  have : a / g ≠ 0 := by intro h; rw [h, Int.zero_mul] at e; omega
  omega

theorem gcd_l0 (d : Nat) : ∀ a b : Int, 0 ≤ a → 0 ≤ b → b.toNat ≤ d → Ev (fun k => ratio_divisor.l0 k a b) (gcdI a b) := by
  induction d with
  | zero =>
    intro a b ha hb hd
    obtain rfl : b = 0 := by omega
    refine ⟨1, fun k hk => ?_⟩
    obtain ⟨j, rfl⟩ : ∃ j, k = j + 1 := ⟨k - 1, by omega⟩
    simp only [ratio_divisor.l0]
    rw [if_pos trivial]; unfold gcdI; simp; omega
  | succ d ih =>
    intro a b ha hb hd
    by_cases h0 : b = 0
    · refine Ev.step (f := fun _ => some a) (fun k => ?_) ?_
      · simp only [ratio_divisor.l0]; rw [if_pos h0]
      · subst h0
        have : gcdI a 0 = a := by unfold gcdI; simp; omega
        rw [this]; exact Ev.now _
    · have hm := Int.emod_lt_of_pos a (show 0 < b by omega)
      have hm0 := Int.emod_nonneg a h0
      refine Ev.step (f := fun k => ratio_divisor.l0 k b (a % b)) (fun k => ?_) ?_
      · simp only [ratio_divisor.l0]; rw [if_neg h0, tmod_pos ha]
      · rw [← gcdI_step ha (show 0 < b by omega)]
        exact ih b (a % b) hb hm0 (by omega)
theorem gcd_ev {a b : Int} (ha : 0 ≤ a) (hb : 0 ≤ b) : Ev (fun k => ratio_divisor.f k a b) (gcdI a b) := gcd_l0 b.toNat a b ha hb (Nat.le_refl _)
/-- The greatest term of a ratio is 2^36. -/
def validS (a b : Int) : Bool := decide (1 ≤ a ∧ 1 ≤ b ∧ a ≤ 68719476736 ∧ b ≤ 68719476736 ∧ gcdI a b = 1)
theorem validS_iff {a b : Int} : validS a b = true ↔ 1 ≤ a ∧ 1 ≤ b ∧ a ≤ 68719476736 ∧ b ≤ 68719476736 ∧ gcdI a b = 1 := by unfold validS; exact decide_eq_true_iff
theorem valid_ev (a b : Int) : Ev (fun k => ratio_Valid.f k a b) (validS a b) := by
  unfold ratio_Valid.f validS
  by_cases h1 : a ≥ 1
  · by_cases h2 : b ≥ 1
    · by_cases h3 : a ≤ 68719476736
      · by_cases h4 : b ≤ 68719476736
        · simp only [if_pos h1, if_pos h2, if_pos h3, if_pos h4]
          refine Ev.bind (gcd_ev (a := a) (b := b) (by omega) (by omega)) ?_
          have : (gcdI a b == 1) = decide (1 ≤ a ∧ 1 ≤ b ∧ a ≤ 68719476736 ∧ b ≤ 68719476736 ∧ gcdI a b = 1) := by
            rw [Bool.eq_iff_iff]; simp; omega
          rw [this]; exact Ev.now _
        · simp only [if_pos h1, if_pos h2, if_pos h3, if_neg h4]
          rw [decide_eq_false (by omega)]; exact Ev.now _
      · simp only [if_pos h1, if_pos h2, if_neg h3]
        rw [decide_eq_false (by omega)]; exact Ev.now _
    · simp only [if_pos h1, if_neg h2]
      rw [decide_eq_false (by omega)]; exact Ev.now _
  · simp only [if_neg h1]
    rw [decide_eq_false (by omega)]; exact Ev.now _

end Go.Proofs.YthnmmiofhjbkeaaX
