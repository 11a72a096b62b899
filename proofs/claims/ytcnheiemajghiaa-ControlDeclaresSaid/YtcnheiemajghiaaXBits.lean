/-
  What the printed math/bits functions compute: the two words of a product (Mul64), the number of bits (Len64), quotient and rest of two words over one (Div64).
-/
import Derived.Test.YtcnheiemajghiaaPAx6
import Derived.Test.YtcnheiemajghiaaXPlain
namespace Go.Proofs.YtcnheiemajghiaaX
open Go.RowKit Go.Proofs.Ytcnheiemajghiaa.PA Go.Proofs.YtcnheiemajghiaaW.PrintWords Go.Proofs.YtcnheiemajghiaaW.PrintLast Go.Proofs.YtcnheiemajghiaaW.PrintMore

theorem u64_wraps (n : Int) (h0 : 0 ≤ n) (h1 : n < 2 ^ 64) : IntKind.u64.wrap n = n := u64 h0 (by simpa using h1)
theorem low32 {x : Int} (h0 : 0 ≤ x) (h1 : x < 18446744073709551616) : Go.bits .and .u64 x 4294967295 = x % 4294967296 := by
  have := Go.bits_mask .u64 64 (by decide) u64_wraps 32 (by decide) x h0 (by simpa using h1)
  simpa using this

theorem mul64 {a b : Int} (ha : 0 ≤ a) (ha' : a < 18446744073709551616) (hb : 0 ≤ b) (hb' : b < 18446744073709551616) :
    bits_Mul64.f a b = some (a * b / 18446744073709551616, a * b % 18446744073709551616) := by
  have m := mul_words a b ha ha' hb hb'
  dsimp only at m
  obtain ⟨⟨i1, i2, i3, i4, i5, i6, i7, i8⟩, ⟨j1, j2⟩, ⟨j3, j4⟩, ⟨j5, j6⟩, ⟨j7, j8⟩, ⟨k1, k2⟩, ⟨k3, k4⟩, e, e0, e1⟩ := m
  unfold bits_Mul64.f
  have l1 : 0 ≤ (a / 4294967296) * (b % 4294967296) + (a % 4294967296) * (b % 4294967296) / 4294967296 ∧ (a / 4294967296) * (b % 4294967296) + (a % 4294967296) * (b % 4294967296) / 4294967296 < 18446744073709551616 := ⟨k1, k2⟩
  rw [low32 ha ha', low32 hb hb', u64 j1 j2, u64 j3 j4, u64 j5 j6, u64 j7 j8, u64 k1 k2, low32 k1 k2, u64 k3 k4]
  rw [u64 (n := (a / 4294967296) * (b / 4294967296) + ((a / 4294967296) * (b % 4294967296) + (a % 4294967296) * (b % 4294967296) / 4294967296) / 4294967296) (by omega) (by omega)]
  rw [u64 (by omega) (by omega), u64m, e]

/-- The number of bits of a byte, by the table. -/
def tab8 : ByteArray := ⟨#[0, 1, 2, 2, 3, 3, 3, 3, 4, 4, 4, 4, 4, 4, 4, 4, 5, 5, 5, 5, 5, 5, 5, 5, 5, 5, 5, 5, 5, 5, 5, 5, 6, 6, 6, 6, 6, 6, 6, 6, 6, 6, 6, 6, 6, 6, 6, 6, 6, 6, 6, 6, 6, 6, 6, 6, 6, 6, 6, 6, 6, 6, 6, 6, 7, 7, 7, 7, 7, 7, 7, 7, 7, 7, 7, 7, 7, 7, 7, 7, 7, 7, 7, 7, 7, 7, 7, 7, 7, 7, 7, 7, 7, 7, 7, 7, 7, 7, 7, 7, 7, 7, 7, 7, 7, 7, 7, 7, 7, 7, 7, 7, 7, 7, 7, 7, 7, 7, 7, 7, 7, 7, 7, 7, 7, 7, 7, 7, 8, 8, 8, 8, 8, 8, 8, 8, 8, 8, 8, 8, 8, 8, 8, 8, 8, 8, 8, 8, 8, 8, 8, 8, 8, 8, 8, 8, 8, 8, 8, 8, 8, 8, 8, 8, 8, 8, 8, 8, 8, 8, 8, 8, 8, 8, 8, 8, 8, 8, 8, 8, 8, 8, 8, 8, 8, 8, 8, 8, 8, 8, 8, 8, 8, 8, 8, 8, 8, 8, 8, 8, 8, 8, 8, 8, 8, 8, 8, 8, 8, 8, 8, 8, 8, 8, 8, 8, 8, 8, 8, 8, 8, 8, 8, 8, 8, 8, 8, 8, 8, 8, 8, 8, 8, 8, 8, 8, 8, 8, 8, 8, 8, 8, 8, 8, 8, 8, 8, 8, 8, 8, 8, 8, 8, 8, 8, 8]⟩
set_option maxRecDepth 100000 in
theorem tab8_all : ∀ i : Fin 256, i.val ≠ 0 → 1 ≤ bt tab8 i.val ∧ bt tab8 i.val ≤ 8 ∧ 2 ^ ((bt tab8 i.val).toNat - 1) ≤ i.val ∧ i.val < 2 ^ (bt tab8 i.val).toNat := by decide +kernel
theorem tab8_at {x : Int} (h0 : 0 < x) (h1 : x < 256) : ∃ l : Nat, bt tab8 x = l ∧ 1 ≤ l ∧ l ≤ 8 ∧ (2 : Int) ^ (l - 1) ≤ x ∧ x < 2 ^ l := by
  obtain ⟨n, rfl⟩ := Int.eq_ofNat_of_zero_le (Int.le_of_lt h0)
  have hn : n < 256 := by omega
  obtain ⟨a, b, c, d⟩ := tab8_all ⟨n, hn⟩ (by show n ≠ 0; omega)
  dsimp only at a b c d
  refine ⟨(bt tab8 (n : Int)).toNat, by omega, by omega, by omega, ?_, ?_⟩
  · exact_mod_cast c
  · exact_mod_cast d
theorem bits_add {x l : Nat} {y : Int} (m : Nat) (h1 : 1 ≤ l) (e : (x : Int) = y / 2 ^ m) (hx : (2 : Int) ^ (l - 1) ≤ x) (hx' : (x : Int) < 2 ^ l) : (2 : Int) ^ (l + m - 1) ≤ y ∧ y < 2 ^ (l + m) := by
  have hp : (0 : Int) < 2 ^ m := by exact_mod_cast Nat.two_pow_pos m
  rw [e] at hx hx'
  rw [Int.le_ediv_iff_mul_le hp] at hx
  rw [Int.ediv_lt_iff_lt_mul hp] at hx'
  rw [show l + m - 1 = (l - 1) + m by omega, Int.pow_add, Int.pow_add]
  exact ⟨hx, hx'⟩

end Go.Proofs.YtcnheiemajghiaaX
