/-
  Plain facts about whole numbers: no program in sight. The division step with two digits, shifts as products, quotients.
-/
import Derived.RowKit
import Derived.IntWalk
import Derived.Laws.BitsLemmas
namespace Go.Proofs.YthnmmiofhjbkeaaX
open Go.RowKit

theorem i64_of {a : Int} (h : (Lit.int .i64 a).wf = true) : -9223372036854775808 ≤ a ∧ a ≤ 9223372036854775807 := by
  simp [Lit.wf, IntKind.min, IntKind.max, IntKind.signed, IntKind.bits] at h; exact h
theorem w64 {n : Int} (h0 : -9223372036854775808 ≤ n) (h1 : n ≤ 9223372036854775807) : wrap64 n = n := by unfold wrap64; omega
theorem u64m (n : Int) : IntKind.u64.wrap n = n % 18446744073709551616 := by simp [IntKind.wrap, IntKind.bits, IntKind.signed]
theorem u64 {n : Int} (h0 : 0 ≤ n) (h1 : n < 18446744073709551616) : IntKind.u64.wrap n = n := by rw [u64m]; omega
theorem tdiv_pos {a b : Int} (ha : 0 ≤ a) : Int.tdiv a b = a / b := Int.tdiv_eq_ediv_of_nonneg ha
theorem tmod_pos {a b : Int} (ha : 0 ≤ a) : Int.tmod a b = a % b := Int.tmod_eq_emod_of_nonneg ha

/-- The high and the low word of a product, digit by digit. -/
theorem mul_words (a b : Int) (ha : 0 ≤ a) (ha' : a < 18446744073709551616) (hb : 0 ≤ b) (hb' : b < 18446744073709551616) :
    let a1 := a / 4294967296; let a0 := a % 4294967296; let b1 := b / 4294967296; let b0 := b % 4294967296
    let t := a1 * b0 + a0 * b0 / 4294967296
    let w1 := t % 4294967296 + a0 * b1
    (0 ≤ a1 ∧ a1 < 4294967296 ∧ 0 ≤ b1 ∧ b1 < 4294967296 ∧ 0 ≤ a0 ∧ a0 < 4294967296 ∧ 0 ≤ b0 ∧ b0 < 4294967296) ∧
    (0 ≤ a0 * b0 ∧ a0 * b0 < 18446744073709551616) ∧ (0 ≤ a1 * b0 ∧ a1 * b0 < 18446744073709551616) ∧ (0 ≤ a0 * b1 ∧ a0 * b1 < 18446744073709551616) ∧ (0 ≤ a1 * b1 ∧ a1 * b1 < 18446744073709551616) ∧
    (0 ≤ t ∧ t < 18446744073709551616) ∧ (0 ≤ w1 ∧ w1 < 18446744073709551616) ∧
    a1 * b1 + t / 4294967296 + w1 / 4294967296 = a * b / 18446744073709551616 ∧ 0 ≤ a * b / 18446744073709551616 ∧ a * b / 18446744073709551616 < 18446744073709551616 := by
  intro a1 a0 b1 b0 t w1
  have ea : a = a1 * 4294967296 + a0 := by omega
  have eb : b = b1 * 4294967296 + b0 := by omega
  have h1 : 0 ≤ a1 ∧ a1 ≤ 4294967295 := by omega
  have h2 : 0 ≤ a0 ∧ a0 ≤ 4294967295 := by omega
  have h3 : 0 ≤ b1 ∧ b1 ≤ 4294967295 := by omega
  have h4 : 0 ≤ b0 ∧ b0 ≤ 4294967295 := by omega
  have up : ∀ x y : Int, 0 ≤ x ∧ x ≤ 4294967295 → 0 ≤ y ∧ y ≤ 4294967295 → 0 ≤ x * y ∧ x * y ≤ 4294967295 * 4294967295 := fun x y hx hy =>
    ⟨Int.mul_nonneg hx.1 hy.1, Int.mul_le_mul hx.2 hy.2 hy.1 (by omega)⟩
  have p00 := up a0 b0 h2 h4
  have p10 := up a1 b0 h1 h4
  have p01 := up a0 b1 h2 h3
  have p11 := up a1 b1 h1 h3
  have et : t = a1 * b0 + a0 * b0 / 4294967296 := rfl
  have ew : w1 = t % 4294967296 + a0 * b1 := rfl
  have eab : a * b = a1 * b1 * 18446744073709551616 + a1 * b0 * 4294967296 + a0 * b1 * 4294967296 + a0 * b0 := by
    rw [ea, eb]; grind
  have ht : 0 ≤ t ∧ t < 18446744073709551616 := by omega
  have hw : 0 ≤ w1 ∧ w1 < 18446744073709551616 := by omega
  refine ⟨by omega, by omega, by omega, by omega, by omega, ht, hw, ?_, ?_, ?_⟩
  · rw [eab]; omega
  · rw [eab]; omega
  · rw [eab]; omega

/-- Two digits over a divisor of two digits whose high digit is great: the first guess is at most one too great .. -/
theorem guess_le {Y y1 y0 u q : Int} (hY : Y = y1 * 4294967296 + y0) (h0' : y0 < 4294967296) (h1 : 2147483648 ≤ y1) (hu : 0 ≤ u) (hu' : u < Y) (hq : q = u / y1) : 0 ≤ q ∧ q ≤ 4294967297 := by
  subst hq
  refine ⟨Int.ediv_nonneg hu (by omega), ?_⟩
  have : u / y1 < 4294967298 := by
    apply Int.ediv_lt_of_lt_mul (by omega)
    omega
  omega
/-- .. and it is no less than the digit. -/
theorem digit_facts {Y y1 y0 u un : Int} (hY : Y = y1 * 4294967296 + y0) (h0 : 0 ≤ y0) (h1 : 2147483648 ≤ y1) (hu : 0 ≤ u) (hu' : u < Y) (hn : 0 ≤ un) (hn' : un < 4294967296) :
    0 ≤ (u * 4294967296 + un) / Y ∧ (u * 4294967296 + un) / Y < 4294967296 ∧ (u * 4294967296 + un) / Y ≤ u / y1 ∧
    (∀ q r : Int, r = u - q * y1 → (q ≤ (u * 4294967296 + un) / Y ↔ q * y0 ≤ 4294967296 * r + un)) := by
  have hYp : 0 < Y := by omega
  have key : ∀ q r : Int, r = u - q * y1 → (q ≤ (u * 4294967296 + un) / Y ↔ q * y0 ≤ 4294967296 * r + un) := by
    intro q r hr
    rw [Int.le_ediv_iff_mul_le hYp]
    have e : q * Y = q * y1 * 4294967296 + q * y0 := by rw [hY]; grind
    rw [e]
    omega
  refine ⟨Int.ediv_nonneg (by omega) (by omega), ?_, ?_, key⟩
  · apply Int.ediv_lt_of_lt_mul hYp
    omega
  · rw [Int.le_ediv_iff_mul_le (by omega)]
    have hQ : (u * 4294967296 + un) / Y * Y ≤ u * 4294967296 + un := Int.ediv_mul_le _ (by omega)
    have hQ0 : 0 ≤ (u * 4294967296 + un) / Y := Int.ediv_nonneg (by omega) (by omega)
    generalize (u * 4294967296 + un) / Y = Q at *
    have e : Q * Y = Q * y1 * 4294967296 + Q * y0 := by rw [hY]; grind
    have : 0 ≤ Q * y0 := Int.mul_nonneg hQ0 h0
    omega
/-- A shift to the left as a product; normalizing. -/
theorem split_quot (N y s : Int) (hs : 0 < s) : N * s / (y * s) = N / y ∧ N * s % (y * s) = N % y * s :=
  ⟨Int.mul_ediv_mul_of_pos_left _ _ hs, by rw [Int.mul_comm N s, Int.mul_comm y s, Int.mul_emod_mul_of_pos _ _ hs, Int.mul_comm]⟩
/-- Two digits of a quotient, one after the other. -/
theorem two_digits {Y u u1 u0 : Int} (hY : 0 < Y) :
    ((u * 4294967296 + u1) * 4294967296 + u0) / Y = (u * 4294967296 + u1) / Y * 4294967296 + ((u * 4294967296 + u1) % Y * 4294967296 + u0) / Y ∧
    ((u * 4294967296 + u1) * 4294967296 + u0) % Y = ((u * 4294967296 + u1) % Y * 4294967296 + u0) % Y := by
  have e := Int.mul_ediv_add_emod (u * 4294967296 + u1) Y
  generalize u * 4294967296 + u1 = M at *
  generalize M / Y = Q at *
  generalize M % Y = R at *
  have e2 : M * 4294967296 + u0 = (R * 4294967296 + u0) + Q * 4294967296 * Y := by subst e; grind
  rw [e2, Int.add_mul_ediv_right _ _ (by omega), Int.add_mul_emod_self_right]
  exact ⟨by omega, rfl⟩
end Go.Proofs.YthnmmiofhjbkeaaX
