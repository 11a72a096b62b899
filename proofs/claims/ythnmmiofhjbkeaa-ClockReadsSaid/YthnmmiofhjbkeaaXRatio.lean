/-
  What the printed functions of ratio (and of its reference) compute: greatest common divisor, validity, lowest terms, floor, rest, ceiling.
-/
import Derived.Test.YthnmmiofhjbkeaaPAx11
import Derived.Test.YthnmmiofhjbkeaaPAx2
import Derived.Test.YthnmmiofhjbkeaaPAx21
import Derived.Test.YthnmmiofhjbkeaaPAx4
import Derived.Test.YthnmmiofhjbkeaaPAx7
import Derived.Test.YthnmmiofhjbkeaaPAx9
import Derived.Test.YthnmmiofhjbkeaaXDiv
import Derived.Test.YthnmmiofhjbkeaaXGcd
namespace Go.Proofs.YthnmmiofhjbkeaaX
open Go.RowKit Go.Proofs.Ythnmmiofhjbkeaa.PA Go.Proofs.YthnmmiofhjbkeaaW.PrintWords Go.Proofs.YthnmmiofhjbkeaaW.PrintLast Go.Proofs.YthnmmiofhjbkeaaW.PrintMore

theorem gcd_r0 (d : Nat) : ∀ a b : Int, 0 ≤ a → 0 ≤ b → b.toNat ≤ d → Ev (fun k => soundserviceref03_gcd.l0 k a b) (gcdI a b) := by
  induction d with
  | zero =>
    intro a b ha hb hd
    obtain rfl : b = 0 := by omega
    refine Ev.step (f := fun _ => some a) (fun k => ?_) ?_
    · simp only [soundserviceref03_gcd.l0]; rw [if_pos trivial]
    · have : gcdI a 0 = a := by unfold gcdI; simp; omega
      rw [this]; exact Ev.now _
  | succ d ih =>
    intro a b ha hb hd
    by_cases h0 : b = 0
    · refine Ev.step (f := fun _ => some a) (fun k => ?_) ?_
      · simp only [soundserviceref03_gcd.l0]; rw [if_pos h0]
      · subst h0
        have : gcdI a 0 = a := by unfold gcdI; simp; omega
        rw [this]; exact Ev.now _
    · have hm := Int.emod_lt_of_pos a (show 0 < b by omega)
      have hm0 := Int.emod_nonneg a h0
      refine Ev.step (f := fun k => soundserviceref03_gcd.l0 k b (a % b)) (fun k => ?_) ?_
      · simp only [soundserviceref03_gcd.l0]; rw [if_neg h0, tmod_pos ha]
      · rw [← gcdI_step ha (show 0 < b by omega)]
        exact ih b (a % b) hb hm0 (by omega)
theorem gcd_ev' {a b : Int} (ha : 0 ≤ a) (hb : 0 ≤ b) : Ev (fun k => soundserviceref03_gcd.f k a b) (gcdI a b) := gcd_r0 b.toNat a b ha hb (Nat.le_refl _)

/-- The ratio of two numbers in lowest terms, or the error. -/
def makeS (a b : Int) : Int × Int × Int :=
  if a < 1 ∨ b < 1 then (0, 0, 1) else if a / gcdI a b > 68719476736 ∨ b / gcdI a b > 68719476736 then (0, 0, 2) else (a / gcdI a b, b / gcdI a b, 0)
theorem make_ev' {a b : Int} (ha : a ≤ 9223372036854775807) (hb : b ≤ 9223372036854775807) : Ev (fun k => soundserviceref03_Make.f k a b) (makeS a b) := by
  unfold soundserviceref03_Make.f makeS
  by_cases h1 : a < 1
  · simp only [if_pos h1]
    rw [if_pos (Or.inl h1)]
    refine Ev.step (f := fun _ => some (0, 0, 1)) (fun k => ?_) (Ev.now _)
    simp only [soundserviceref03_Make.j0]; rw [if_pos trivial]
  · simp only [if_neg h1]
    by_cases h2 : b < 1
    · rw [if_pos (Or.inr h2)]
      refine Ev.step (f := fun _ => some (0, 0, 1)) (fun k => ?_) (Ev.now _)
      simp only [soundserviceref03_Make.j0]; rw [if_pos (decide_eq_true h2)]
    · rw [if_neg (by omega)]
      have g1 := gcdI_pos (a := a) (b := b) (by omega)
      obtain ⟨p1, p2, p3⟩ := quot_pos (a := a) (by omega) g1 (gcdI_dvd (by omega))
      obtain ⟨q1, q2, q3⟩ := quot_pos (a := b) (by omega) g1 (gcdI_dvd' (by omega))
      refine Ev.step (f := fun k => (soundserviceref03_gcd.f k a b).bind fun t102 => (if t102 = 0 then (none) else (if (wrap64 (Int.tdiv a t102)) > 68719476736 then (some (0, 0, 2)) else (if (wrap64 (Int.tdiv b t102)) > 68719476736 then (some (0, 0, 2)) else (some (wrap64 (Int.tdiv a t102), wrap64 (Int.tdiv b t102), 0)))))) (fun k => ?_) (Ev.bind (gcd_ev' (a := a) (b := b) (by omega) (by omega)) ?_)
      · simp only [soundserviceref03_Make.j0]; rw [if_neg (by rw [decide_eq_true_iff]; exact h2)]
      · rw [tdiv_pos (show 0 ≤ a by omega), tdiv_pos (show 0 ≤ b by omega), w64 (n := a / gcdI a b) (by omega) (by omega), w64 (n := b / gcdI a b) (by omega) (by omega), if_neg (by omega)]
        by_cases c1 : a / gcdI a b > 68719476736
        · rw [if_pos c1, if_pos (Or.inl c1)]; exact Ev.now _
        · by_cases c2 : b / gcdI a b > 68719476736
          · rw [if_neg c1, if_pos c2, if_pos (Or.inr c2)]; exact Ev.now _
          · rw [if_neg c1, if_neg c2, if_neg (by omega)]; exact Ev.now _
/-- Two terms in range make a valid ratio. -/
theorem makeS_valid {a b : Int} (ha : 1 ≤ a) (hb : 1 ≤ b) (ha' : a ≤ 68719476736) (hb' : b ≤ 68719476736) :
    ∃ g : Int, 1 ≤ g ∧ makeS a b = (a / g, b / g, 0) ∧ validS (a / g) (b / g) = true ∧ a / g ≤ a ∧ b / g ≤ b ∧ a / g * g = a ∧ b / g * g = b := by
  have g1 := gcdI_pos (a := a) (b := b) ha
  obtain ⟨p1, p2, p3⟩ := quot_pos ha g1 (gcdI_dvd (by omega))
  obtain ⟨q1, q2, q3⟩ := quot_pos hb g1 (gcdI_dvd' (by omega))
  refine ⟨gcdI a b, g1, ?_, validS_iff.2 ⟨p1, q1, by omega, by omega, gcdI_rest ha hb⟩, p2, q2, p3, q3⟩
  unfold makeS
  rw [if_neg (by omega), if_neg (by omega)]

/-- The range of the numbers that are multiplied. -/
def checkS (n a b : Int) : Int := if validS a b = true then (if n < -1125899906842624 ∨ n > 1125899906842624 then 2 else 0) else 1
theorem check_ev (n a b : Int) : Ev (fun k => ratio_check.f k n a b) (checkS n a b) := by
  unfold ratio_check.f checkS
  refine Ev.bind (valid_ev a b) ?_
  by_cases h : validS a b = true
  · rw [if_pos h, if_pos h]
    by_cases h1 : n < -1125899906842624
    · rw [if_pos h1, if_pos (Or.inl h1)]; exact Ev.now _
    · by_cases h2 : n > 1125899906842624
      · rw [if_neg h1, if_pos h2, if_pos (Or.inr h2)]; exact Ev.now _
      · rw [if_neg h1, if_neg h2, if_neg (by omega)]; exact Ev.now _
  · rw [if_neg h, if_neg h]; exact Ev.now _

/-- Quotient and rest of a multiple: rounded downwards, by the quotient of the absolute value. -/
theorem floor_neg {p b : Int} (hb : 0 < b) : -p / b = (if p % b = 0 then -(p / b) else -(p / b) - 1) ∧ -p % b = (if p % b = 0 then 0 else b - p % b) := by
  have e := Int.mul_ediv_add_emod p b
  have h0 := Int.emod_nonneg p (Int.ne_of_gt hb)
  have h1 := Int.emod_lt_of_pos p hb
  generalize p / b = q at *
  generalize hr : p % b = r at *
  by_cases c : r = 0
  · rw [if_pos c, if_pos c]
    have : -p = 0 + -q * b := by subst e; rw [c]; grind
    rw [this, Int.add_mul_ediv_right _ _ (Int.ne_of_gt hb), Int.add_mul_emod_self_right]
    simp
  · rw [if_neg c, if_neg c]
    have : -p = (b - r) + (-q - 1) * b := by subst e; grind
    rw [this, Int.add_mul_ediv_right _ _ (Int.ne_of_gt hb), Int.add_mul_emod_self_right, Int.ediv_eq_zero_of_lt (by omega) (by omega), Int.emod_eq_of_lt (by omega) (by omega)]
    omega
def divS (n a b : Int) : Int × Int × Bool := if -4611686018427387905 ≤ n * a / b ∧ n * a / b ≤ 4611686018427387904 ∧ (n < 0 → -4611686018427387904 ≤ -(-n * a / b)) then (n * a / b, n * a % b, true) else (0, 0, false)
theorem divide_ev {n a b : Int} (hn : -1125899906842624 ≤ n) (hn' : n ≤ 1125899906842624) (ha : 1 ≤ a) (ha' : a ≤ 68719476736) (hb : 1 ≤ b) (hb' : b ≤ 68719476736) : Ev (fun k => ratio_divide.f k n a b) (divS n a b) := by
  -- both signs: the absolute value m
  have core : ∀ m : Int, 0 ≤ m → m ≤ 1125899906842624 → (n < 0 → n = -m) → (¬ n < 0 → n = m) → Ev (fun k => ratio_divide.j0 k n m a b) (divS n a b) := by
    intro m hm hm' en ep
    have hp0 : 0 ≤ m * a := Int.mul_nonneg hm (by omega)
    have hp1 : m * a ≤ 1125899906842624 * 68719476736 := Int.mul_le_mul hm' ha' (by omega) (by omega)
    refine Ev.step (f := fun k => _) (fun k => by simp only [ratio_divide.j0]; rfl) ?_
    rw [u64 (n := a) (by omega) (by omega), u64 (n := b) (by omega) (by omega), mul64 hm (by omega) (by omega) (by omega)]
    simp only [Option.bind_some]
    have e := Int.mul_ediv_add_emod (m * a) b
    have r0 := Int.emod_nonneg (m * a) (show b ≠ 0 by omega)
    have r1 := Int.emod_lt_of_pos (m * a) (show 0 < b by omega)
    have q0 : 0 ≤ m * a / b := Int.ediv_nonneg hp0 (by omega)
    have fn := floor_neg (p := m * a) (show 0 < b by omega)
    have sign : n < 0 → n * a = -(m * a) ∧ -n * a = m * a := fun h => by rw [en h]; constructor <;> grind
    by_cases c : m * a / 18446744073709551616 ≥ b
    · simp only [if_pos c]
      have big : 18446744073709551616 ≤ m * a / b := by
        rw [Int.le_ediv_iff_mul_le (by omega)]
        omega
      have : divS n a b = (0, 0, false) := by
        unfold divS
        rw [if_neg]
        rintro ⟨h1, h2, h3⟩
        by_cases hs : n < 0
        · have := h3 hs
          rw [(sign hs).2] at this
          omega
        · rw [ep hs] at h2
          omega
      rw [this]; exact Ev.now _
    · simp only [if_neg c]
      refine Ev.bind (div64 (hi := m * a / 18446744073709551616) (lo := m * a % 18446744073709551616) (y := b) (by omega) (by omega) (by omega) (by omega) (by omega)) ?_
      have em : m * a / 18446744073709551616 * 18446744073709551616 + m * a % 18446744073709551616 = m * a := by omega
      rw [em]
      dsimp only
      by_cases c2 : m * a / b > 4611686018427387904
      · rw [if_pos c2]
        have : divS n a b = (0, 0, false) := by
          unfold divS
          rw [if_neg]
          rintro ⟨h1, h2, h3⟩
          by_cases hs : n < 0
          · have := h3 hs
            rw [(sign hs).2] at this
            omega
          · rw [ep hs] at h2
            omega
        rw [this]; exact Ev.now _
      · rw [if_neg c2, w64 (n := m * a % b) (by omega) (by omega), w64 (n := m * a / b) (by omega) (by omega), w64 (n := -(m * a / b)) (by omega) (by omega), w64 (n := -(m * a / b) - 1) (by omega) (by omega), w64 (n := b - m * a % b) (by omega) (by omega)]
        by_cases hs : n < 0
        · rw [if_pos hs]
          obtain ⟨f1, f2⟩ := fn
          obtain ⟨s1, s2⟩ := sign hs
          by_cases hz : m * a % b > 0
          · rw [if_pos hz]
            rw [if_neg (by omega)] at f1 f2
            have : divS n a b = (-(m * a / b) - 1, b - m * a % b, true) := by
              unfold divS
              rw [s1, s2, f1, f2, if_pos ⟨by omega, by omega, fun _ => by omega⟩]
            rw [this]; exact Ev.now _
          · rw [if_neg hz]
            rw [if_pos (by omega)] at f1 f2
            have : divS n a b = (-(m * a / b), m * a % b, true) := by
              unfold divS
              rw [s1, s2, f1, f2, if_pos ⟨by omega, by omega, fun _ => by omega⟩]
              have : m * a % b = 0 := by omega
              rw [this]
            rw [this]; exact Ev.now _
        · rw [if_neg hs]
          have : divS n a b = (m * a / b, m * a % b, true) := by
            unfold divS
            rw [ep hs, if_pos ⟨by omega, by omega, fun h => by omega⟩]
          rw [this]; exact Ev.now _
  unfold ratio_divide.f
  by_cases hs : n < 0
  · simp only [if_pos hs]
    have e1 : IntKind.u64.wrap (-(IntKind.u64.wrap n)) = -n := by rw [u64m, u64m]; omega
    rw [e1]
    exact core (-n) (by omega) (by omega) (fun _ => by omega) (fun h => absurd hs h)
  · simp only [if_neg hs]
    rw [u64 (n := n) (by omega) (by omega)]
    exact core n (by omega) (by omega) (fun h => absurd h hs) (fun _ => rfl)
end Go.Proofs.YthnmmiofhjbkeaaX
