/-
  What the printed math/bits functions compute: the two words of a product (Mul64), the number of bits (Len64), quotient and rest of two words over one (Div64).
-/
import Derived.Test.YthnmmiofhjbkeaaPAx4
import Derived.Test.YthnmmiofhjbkeaaPAx5
import Derived.Test.YthnmmiofhjbkeaaPAx6
import Derived.Test.YthnmmiofhjbkeaaXPlain
namespace Go.Proofs.YthnmmiofhjbkeaaX
open Go.RowKit Go.Proofs.Ythnmmiofhjbkeaa.PA Go.Proofs.YthnmmiofhjbkeaaW.PrintWords Go.Proofs.YthnmmiofhjbkeaaW.PrintLast Go.Proofs.YthnmmiofhjbkeaaW.PrintMore

theorem u64_wraps (n : Int) (h0 : 0 ≤ n) (h1 : n < 2 ^ 64) : IntKind.u64.wrap n = n := u64 h0 (by simpa using h1)
theorem low32 {x : Int} (h0 : 0 ≤ x) (h1 : x < 18446744073709551616) : Go.bits .and .u64 x 4294967295 = x % 4294967296 := by
  have := Go.bits_mask .u64 64 (by decide) u64_wraps 32 (by decide) x h0 (by simpa using h1)
  simpa using this

theorem mul64 {a b : Int} (ha : 0 ≤ a) (ha' : a < 18446744073709551616) (hb : 0 ≤ b) (hb' : b < 18446744073709551616) :
    bits_Mul64.f a b = some (a * b / 18446744073709551616, a * b % 18446744073709551616) := by
  have m := mul_words a b ha ha' hb hb'
  dsimp only at m
  obtain ⟨⟨i1, i2, i3, i4, i5, i6, i7, i8⟩, ⟨j1, j2⟩, ⟨j3, j4⟩, ⟨j5, j6⟩, ⟨j7, j8⟩, ⟨k1, k2⟩, ⟨k3, k4⟩, e, e0, e1⟩ := m
  unfold bits_Mul64.f
  have l1 : 0 ≤ (a / 4294967296) * (b % 4294967296) + (a % 4294967296) * (b % 4294967296) / 4294967296 ∧ (a / 4294967296) * (b % 4294967296) + (a % 4294967296) * (b % 4294967296) / 4294967296 < 18446744073709551616 := ⟨k1, k2⟩
  rw [low32 ha ha', low32 hb hb', u64 j1 j2, u64 j3 j4, u64 j5 j6, u64 j7 j8, u64 k1 k2, low32 k1 k2, u64 k3 k4]
  rw [u64 (n := (a / 4294967296) * (b / 4294967296) + ((a / 4294967296) * (b % 4294967296) + (a % 4294967296) * (b % 4294967296) / 4294967296) / 4294967296) (by omega) (by omega)]
  rw [u64 (by omega) (by omega), u64m, e]

/-- The number of bits of a byte, by the table. -/
def tab8 : ByteArray := ⟨#[0, 1, 2, 2, 3, 3, 3, 3, 4, 4, 4, 4, 4, 4, 4, 4, 5, 5, 5, 5, 5, 5, 5, 5, 5, 5, 5, 5, 5, 5, 5, 5, 6, 6, 6, 6, 6, 6, 6, 6, 6, 6, 6, 6, 6, 6, 6, 6, 6, 6, 6, 6, 6, 6, 6, 6, 6, 6, 6, 6, 6, 6, 6, 6, 7, 7, 7, 7, 7, 7, 7, 7, 7, 7, 7, 7, 7, 7, 7, 7, 7, 7, 7, 7, 7, 7, 7, 7, 7, 7, 7, 7, 7, 7, 7, 7, 7, 7, 7, 7, 7, 7, 7, 7, 7, 7, 7, 7, 7, 7, 7, 7, 7, 7, 7, 7, 7, 7, 7, 7, 7, 7, 7, 7, 7, 7, 7, 7, 8, 8, 8, 8, 8, 8, 8, 8, 8, 8, 8, 8, 8, 8, 8, 8, 8, 8, 8, 8, 8, 8, 8, 8, 8, 8, 8, 8, 8, 8, 8, 8, 8, 8, 8, 8, 8, 8, 8, 8, 8, 8, 8, 8, 8, 8, 8, 8, 8, 8, 8, 8, 8, 8, 8, 8, 8, 8, 8, 8, 8, 8, 8, 8, 8, 8, 8, 8, 8, 8, 8, 8, 8, 8, 8, 8, 8, 8, 8, 8, 8, 8, 8, 8, 8, 8, 8, 8, 8, 8, 8, 8, 8, 8, 8, 8, 8, 8, 8, 8, 8, 8, 8, 8, 8, 8, 8, 8, 8, 8, 8, 8, 8, 8, 8, 8, 8, 8, 8, 8, 8, 8, 8, 8, 8, 8, 8, 8]⟩
set_option maxRecDepth 100000 in
theorem tab8_all : ∀ i : Fin 256, i.val ≠ 0 → 1 ≤ bt tab8 i.val ∧ bt tab8 i.val ≤ 8 ∧ 2 ^ ((bt tab8 i.val).toNat - 1) ≤ i.val ∧ i.val < 2 ^ (bt tab8 i.val).toNat := by decide +kernel
theorem tab8_at {x : Int} (h0 : 0 < x) (h1 : x < 256) : ∃ l : Nat, bt tab8 x = l ∧ 1 ≤ l ∧ l ≤ 8 ∧ (2 : Int) ^ (l - 1) ≤ x ∧ x < 2 ^ l := by
  obtain ⟨n, rfl⟩ := Int.eq_ofNat_of_zero_le (Int.le_of_lt h0)
  have hn : n < 256 := by omega
  obtain ⟨a, b, c, d⟩ := tab8_all ⟨n, hn⟩ (by show n ≠ 0; omega)
  dsimp only at a b c d
  refine ⟨(bt tab8 (n : Int)).toNat, by omega, by omega, by omega, ?_, ?_⟩
  · exact_mod_cast c
  · exact_mod_cast d
theorem bits_add {x l : Nat} {y : Int} (m : Nat) (h1 : 1 ≤ l) (e : (x : Int) = y / 2 ^ m) (hx : (2 : Int) ^ (l - 1) ≤ x) (hx' : (x : Int) < 2 ^ l) : (2 : Int) ^ (l + m - 1) ≤ y ∧ y < 2 ^ (l + m) := by
  have hp : (0 : Int) < 2 ^ m := by exact_mod_cast Nat.two_pow_pos m
  rw [e] at hx hx'
  rw [Int.le_ediv_iff_mul_le hp] at hx
  rw [Int.ediv_lt_iff_lt_mul hp] at hx'
  rw [show l + m - 1 = (l - 1) + m by omega, Int.pow_add, Int.pow_add]
  exact ⟨hx, hx'⟩

set_option maxRecDepth 100000 in
theorem j0_eq (k : Nat) (x0 x2 : Int) : bits_Len64.j0 (k + 1) x0 x2 =
    if x0 ≥ 65536 then (if (x0 / 65536) ≥ 256 then (if 0 ≤ (((x0 / 65536) / 256) % 256) then (if (((x0 / 65536) / 256) % 256) < 256 then (some (wrap64 ((wrap64 ((wrap64 (x2 + 16)) + 8)) + (wrap64 (bt tab8 (((x0 / 65536) / 256) % 256)))))) else (none)) else (none))
      else (if 0 ≤ ((x0 / 65536) % 256) then (if ((x0 / 65536) % 256) < 256 then (some (wrap64 ((wrap64 (x2 + 16)) + (wrap64 (bt tab8 ((x0 / 65536) % 256)))))) else (none)) else (none)))
    else (if x0 ≥ 256 then (if 0 ≤ ((x0 / 256) % 256) then (if ((x0 / 256) % 256) < 256 then (some (wrap64 ((wrap64 (x2 + 8)) + (wrap64 (bt tab8 ((x0 / 256) % 256)))))) else (none)) else (none))
      else (if 0 ≤ ((x0) % 256) then (if ((x0) % 256) < 256 then (some (wrap64 (x2 + (wrap64 (bt tab8 ((x0) % 256)))))) else (none)) else (none))) := by kernel_rfl
set_option maxRecDepth 100000 in
theorem len_j0 (k : Nat) {x n : Int} (h0 : 0 < x) (h1 : x < 4294967296) (hn : 0 ≤ n) (hn' : n ≤ 32) :
    ∃ l : Nat, bits_Len64.j0 (k + 1) x n = some (n + l) ∧ 1 ≤ l ∧ l ≤ 32 ∧ (2 : Int) ^ (l - 1) ≤ x ∧ x < 2 ^ l := by
  rw [j0_eq]
  by_cases c1 : x ≥ 65536
  · rw [if_pos c1]
    by_cases c2 : x / 65536 ≥ 256
    · rw [if_pos c2, if_pos (by omega), if_pos (by omega)]
      obtain ⟨l, e, a, b, c, d⟩ := tab8_at (x := x / 65536 / 256 % 256) (by omega) (by omega)
      rw [e, w64 (n := (l : Int)) (by omega) (by omega), w64 (n := n + 16) (by omega) (by omega), w64 (n := n + 16 + 8) (by omega) (by omega), w64 (by omega) (by omega)]
      have hx : ((x / 65536 / 256 % 256).toNat : Int) = x / 2 ^ 24 := by rw [show (2 : Int) ^ 24 = 16777216 by decide]; omega
      have := bits_add (x := (x / 65536 / 256 % 256).toNat) (y := x) 24 a hx (by rw [Int.toNat_of_nonneg (by omega)]; exact c) (by rw [Int.toNat_of_nonneg (by omega)]; exact d)
      exact ⟨l + 24, by congr 1; push_cast; omega, by omega, by omega, this⟩
    · rw [if_neg c2, if_pos (by omega), if_pos (by omega)]
      obtain ⟨l, e, a, b, c, d⟩ := tab8_at (x := x / 65536 % 256) (by omega) (by omega)
      rw [e, w64 (n := (l : Int)) (by omega) (by omega), w64 (n := n + 16) (by omega) (by omega), w64 (by omega) (by omega)]
      have hx : ((x / 65536 % 256).toNat : Int) = x / 2 ^ 16 := by rw [show (2 : Int) ^ 16 = 65536 by decide]; omega
      have := bits_add (x := (x / 65536 % 256).toNat) (y := x) 16 a hx (by rw [Int.toNat_of_nonneg (by omega)]; exact c) (by rw [Int.toNat_of_nonneg (by omega)]; exact d)
      exact ⟨l + 16, by congr 1; push_cast; omega, by omega, by omega, this⟩
  · rw [if_neg c1]
    by_cases c2 : x ≥ 256
    · rw [if_pos c2, if_pos (by omega), if_pos (by omega)]
      obtain ⟨l, e, a, b, c, d⟩ := tab8_at (x := x / 256 % 256) (by omega) (by omega)
      rw [e, w64 (n := (l : Int)) (by omega) (by omega), w64 (n := n + 8) (by omega) (by omega), w64 (by omega) (by omega)]
      have hx : ((x / 256 % 256).toNat : Int) = x / 2 ^ 8 := by rw [show (2 : Int) ^ 8 = 256 by decide]; omega
      have := bits_add (x := (x / 256 % 256).toNat) (y := x) 8 a hx (by rw [Int.toNat_of_nonneg (by omega)]; exact c) (by rw [Int.toNat_of_nonneg (by omega)]; exact d)
      exact ⟨l + 8, by congr 1; push_cast; omega, by omega, by omega, this⟩
    · rw [if_neg c2, if_pos (by omega), if_pos (by omega)]
      obtain ⟨l, e, a, b, c, d⟩ := tab8_at (x := x % 256) (by omega) (by omega)
      rw [e, w64 (n := (l : Int)) (by omega) (by omega), w64 (by omega) (by omega)]
      have hx : x % 256 = x := by omega
      rw [hx] at c d
      exact ⟨l, rfl, by omega, by omega, c, d⟩
theorem lead {y : Int} (h0 : 0 < y) (h1 : y < 18446744073709551616) :
    ∃ s : Nat, s ≤ 63 ∧ (∀ k, bits_LeadingZeros64.f (k + 1) y = some (s : Int)) ∧ 9223372036854775808 ≤ y * 2 ^ s ∧ y * 2 ^ s < 18446744073709551616 := by
  have key : ∃ l : Nat, (∀ k, bits_Len64.f (k + 1) y = some (l : Int)) ∧ 1 ≤ l ∧ l ≤ 64 ∧ (2 : Int) ^ (l - 1) ≤ y ∧ y < 2 ^ l := by
    unfold bits_Len64.f
    by_cases c : y ≥ 4294967296
    · obtain ⟨l, e, a, b, cc, d⟩ := len_j0 0 (x := y / 4294967296) (n := 32) (by omega) (by omega) (by omega) (by omega)
      have := bits_add (x := (y / 4294967296).toNat) (y := y) 32 a (by rw [show (2 : Int) ^ 32 = 4294967296 by decide]; omega) (by rw [Int.toNat_of_nonneg (by omega)]; exact cc) (by rw [Int.toNat_of_nonneg (by omega)]; exact d)
      refine ⟨l + 32, fun k => ?_, by omega, by omega, this⟩
      rw [if_pos c]
      obtain ⟨l', e', a', b', cc', d'⟩ := len_j0 k (x := y / 4294967296) (n := 32) (by omega) (by omega) (by omega) (by omega)
      have : l' = l := by
        have h1 : (2 : Int) ^ (l' - 1) < 2 ^ l := Int.lt_of_le_of_lt cc' d
        have h2 : (2 : Int) ^ (l - 1) < 2 ^ l' := Int.lt_of_le_of_lt cc d'
        have h1' : 2 ^ (l' - 1) < 2 ^ l := by exact_mod_cast h1
        have h2' : 2 ^ (l - 1) < 2 ^ l' := by exact_mod_cast h2
        have := (Nat.pow_lt_pow_iff_right (a := 2) (by decide)).1 h1'
        have := (Nat.pow_lt_pow_iff_right (a := 2) (by decide)).1 h2'
        omega
      rw [e', this]
      congr 1; push_cast; omega
    · obtain ⟨l, e, a, b, cc, d⟩ := len_j0 0 (x := y) (n := 0) (by omega) (by omega) (by omega) (by omega)
      refine ⟨l, fun k => ?_, by omega, by omega, cc, d⟩
      rw [if_neg c]
      obtain ⟨l', e', a', b', cc', d'⟩ := len_j0 k (x := y) (n := 0) (by omega) (by omega) (by omega) (by omega)
      have : l' = l := by
        have h1 : (2 : Int) ^ (l' - 1) < 2 ^ l := Int.lt_of_le_of_lt cc' d
        have h2 : (2 : Int) ^ (l - 1) < 2 ^ l' := Int.lt_of_le_of_lt cc d'
        have h1' : 2 ^ (l' - 1) < 2 ^ l := by exact_mod_cast h1
        have h2' : 2 ^ (l - 1) < 2 ^ l' := by exact_mod_cast h2
        have := (Nat.pow_lt_pow_iff_right (a := 2) (by decide)).1 h1'
        have := (Nat.pow_lt_pow_iff_right (a := 2) (by decide)).1 h2'
        omega
      rw [e', this]
      congr 1; omega
  obtain ⟨l, e, a, b, c, d⟩ := key
  refine ⟨64 - l, by omega, fun k => ?_, ?_, ?_⟩
  · unfold bits_LeadingZeros64.f
    rw [e k]
    simp only [Option.bind_some]
    rw [w64 (by omega) (by omega)]
    congr 1; omega
  · have hp : (0 : Int) < 2 ^ (64 - l) := by exact_mod_cast Nat.two_pow_pos _
    have := Int.mul_le_mul_of_nonneg_right c (Int.le_of_lt hp)
    rw [← Int.pow_add, show l - 1 + (64 - l) = 63 by omega, show (2 : Int) ^ 63 = 9223372036854775808 by decide] at this
    exact this
  · have hp : (0 : Int) < 2 ^ (64 - l) := by exact_mod_cast Nat.two_pow_pos _
    have := Int.mul_lt_mul_of_pos_right d hp
    rw [← Int.pow_add, show l + (64 - l) = 64 by omega, show (2 : Int) ^ 64 = 18446744073709551616 by decide] at this
    exact this
end Go.Proofs.YthnmmiofhjbkeaaX
