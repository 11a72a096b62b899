/-
  The printed math/bits.Div64 computes the quotient and the rest of two words over one.
-/
import Derived.Test.YthnmmiofhjbkeaaPAx6
import Derived.Test.YthnmmiofhjbkeaaXBits
namespace Go.Proofs.YthnmmiofhjbkeaaX
open Go.RowKit Go.Proofs.Ythnmmiofhjbkeaa.PA Go.Proofs.YthnmmiofhjbkeaaW.PrintWords Go.Proofs.YthnmmiofhjbkeaaW.PrintLast Go.Proofs.YthnmmiofhjbkeaaW.PrintMore

/-- What one test of a digit tells. -/
theorem digit_test {Y y1 y0 u un Q q r : Int} (hQ : Q = (u * 4294967296 + un) / Y) (hY : Y = y1 * 4294967296 + y0) (h0 : 0 ≤ y0) (h0' : y0 < 4294967296) (h1 : 2147483648 ≤ y1)
    (hu : 0 ≤ u) (hu' : u < Y) (hn : 0 ≤ un) (hn' : un < 4294967296) (hq : Q ≤ q) (hq' : q ≤ 4294967297) (hr : r = u - q * y1) (hr0 : 0 ≤ r) (hr' : r < 4294967296) :
    (4294967296 ≤ q → Q < q) ∧ (q < 4294967296 → decide (IntKind.u64.wrap (q * y0) > IntKind.u64.wrap (IntKind.u64.wrap (4294967296 * r) + un)) = decide (Q < q)) ∧
    (Q < q → 4294967296 ≤ r + y1 → Q = q - 1) ∧ r + y1 = u - (q - 1) * y1 := by
  obtain ⟨d0, d1, d2, key⟩ := digit_facts hY h0 h1 hu hu' hn hn'
  rw [← hQ] at d0 d1 key
  have e1 : r + y1 = u - (q - 1) * y1 := by rw [hr]; grind
  refine ⟨fun h => by omega, fun h => ?_, fun h h2 => ?_, e1⟩
  · have a1 : 0 ≤ q * y0 := Int.mul_nonneg (by omega) h0
    have a2 : q * y0 ≤ 4294967295 * 4294967295 := Int.mul_le_mul (by omega) (by omega) h0 (by omega)
    rw [u64 a1 (by omega), u64 (n := 4294967296 * r) (by omega) (by omega), u64 (by omega) (by omega)]
    have := key q r hr
    rw [decide_eq_decide]
    omega
  · have := (key (q - 1) (r + y1) e1).2
    have a2 : (q - 1) * y0 ≤ 4294967296 * y0 := Int.mul_le_mul_of_nonneg_right (by omega) h0
    have := this (by omega)
    omega

theorem low_loop {Y s y1 y0 u un Q1 Q : Int} (hQ : Q = (u * 4294967296 + un) / Y) (hY : Y = y1 * 4294967296 + y0) (h0 : 0 ≤ y0) (h0' : y0 < 4294967296) (h1 : 2147483648 ≤ y1) (h1' : y1 < 4294967296)
    (hu : 0 ≤ u) (hu' : u < Y) (hn : 0 ≤ un) (hn' : un < 4294967296) (hs : 0 ≤ s) (hQ1 : 0 ≤ Q1) (hQ1' : Q1 < 4294967296) (d : Nat) :
    ∀ q r : Int, q - Q = d → Q ≤ q → q ≤ 4294967297 → r = u - q * y1 → 0 ≤ r → r < 4294967296 →
    Ev (fun k => bits_Div64.l1 k Y s y1 y0 un Q1 r u q) (Q1 * 4294967296 + Q, shr .u64 ((u * 4294967296 + un) % Y) s) := by
  have hYp : 0 < Y := by omega
  obtain ⟨d0, d1, d2, key⟩ := digit_facts hY h0 h1 hu hu' hn hn'
  rw [← hQ] at d0 d1 d2 key
  have fin1 : IntKind.u64.wrap (IntKind.u64.wrap (Q1 * 4294967296) + Q) = Q1 * 4294967296 + Q := by rw [u64 (n := Q1 * 4294967296) (by omega) (by omega), u64 (by omega) (by omega)]
  have fin2 : IntKind.u64.wrap (IntKind.u64.wrap (IntKind.u64.wrap (u * 4294967296) + un) - IntKind.u64.wrap (Q * Y)) = (u * 4294967296 + un) % Y := by
    have e := Int.mul_ediv_add_emod (u * 4294967296 + un) Y
    rw [← hQ] at e
    have b0 := Int.emod_nonneg (u * 4294967296 + un) (Int.ne_of_gt hYp)
    have b1 := Int.emod_lt_of_pos (u * 4294967296 + un) hYp
    rw [Int.mul_comm Q Y]
    generalize (u * 4294967296 + un) % Y = R at *
    generalize Y * Q = P at *
    simp only [u64m]
    omega
  induction d with
  | zero =>
    intro q r hd hq hq' hr hr0 hr'
    obtain ⟨t1, t2, t3, t4⟩ := digit_test hQ hY h0 h0' h1 hu hu' hn hn' hq hq' hr hr0 hr'
    have e : Q = q := by omega
    subst e
    refine Ev.step (f := fun k => bits_Div64.j4 k Y s y1 y0 un Q1 r u Q false) (fun k => ?_) (Ev.step (f := fun _ => some _) (fun k => ?_) (Ev.now _))
    · simp only [bits_Div64.l1]
      rw [if_neg (by omega), t2 (by omega), decide_eq_false (by omega)]
    · simp only [bits_Div64.j4]
      rw [if_neg (by decide), if_pos hs, fin1, fin2]
  | succ d ih =>
    intro q r hd hq hq' hr hr0 hr'
    obtain ⟨t1, t2, t3, t4⟩ := digit_test hQ hY h0 h0' h1 hu hu' hn hn' hq hq' hr hr0 hr'
    have hlt : Q < q := by omega
    refine Ev.step (f := fun k => bits_Div64.j4 k Y s y1 y0 un Q1 r u q true) (fun k => ?_) ?_
    · simp only [bits_Div64.l1]
      by_cases c : q ≥ 4294967296
      · rw [if_pos c]
      · rw [if_neg c, t2 (by omega), decide_eq_true hlt]
    · have wq : IntKind.u64.wrap (q - 1) = q - 1 := u64 (by omega) (by omega)
      have wr : IntKind.u64.wrap (r + y1) = r + y1 := u64 (by omega) (by omega)
      by_cases c : r + y1 ≥ 4294967296
      · have e := t3 hlt c
        refine Ev.step (f := fun _ => some _) (fun k => ?_) (Ev.now _)
        simp only [bits_Div64.j4]
        rw [if_pos trivial, wr, if_pos c, if_pos hs, wq, ← e, fin1, fin2]
      · refine Ev.step (f := fun k => bits_Div64.l1 k Y s y1 y0 un Q1 (r + y1) u (q - 1)) (fun k => ?_) (ih (q - 1) (r + y1) (by omega) (by omega) (by omega) t4 (by omega) (by omega))
        simp only [bits_Div64.j4]
        rw [if_pos trivial, wr, if_neg c, wq]

theorem high_loop {Y s y1 y0 u un Q u0 : Int} {R : Int × Int} (hQ : Q = (u * 4294967296 + un) / Y) (hY : Y = y1 * 4294967296 + y0) (h0 : 0 ≤ y0) (h0' : y0 < 4294967296) (h1 : 2147483648 ≤ y1) (h1' : y1 < 4294967296)
    (hu : 0 ≤ u) (hu' : u < Y) (hn : 0 ≤ un) (hn' : un < 4294967296) (hnext : Ev (fun k => bits_Div64.j2 k Y s y1 y0 u un u0 Q) R) (d : Nat) :
    ∀ q r : Int, q - Q = d → Q ≤ q → q ≤ 4294967297 → r = u - q * y1 → 0 ≤ r → r < 4294967296 →
    Ev (fun k => bits_Div64.l0 k Y s y1 y0 u un u0 q r) R := by
  obtain ⟨d0, d1, d2, key⟩ := digit_facts hY h0 h1 hu hu' hn hn'
  rw [← hQ] at d0 d1 d2 key
  induction d with
  | zero =>
    intro q r hd hq hq' hr hr0 hr'
    obtain ⟨t1, t2, t3, t4⟩ := digit_test hQ hY h0 h0' h1 hu hu' hn hn' hq hq' hr hr0 hr'
    have e : Q = q := by omega
    subst e
    refine Ev.step (f := fun k => bits_Div64.j1 k Y s y1 y0 u un u0 Q r false) (fun k => ?_) (Ev.step (f := fun k => bits_Div64.j2 k Y s y1 y0 u un u0 Q) (fun k => ?_) hnext)
    · simp only [bits_Div64.l0]
      rw [if_neg (by omega), t2 (by omega), decide_eq_false (by omega)]
    · simp only [bits_Div64.j1]
      rw [if_neg (by decide)]
  | succ d ih =>
    intro q r hd hq hq' hr hr0 hr'
    obtain ⟨t1, t2, t3, t4⟩ := digit_test hQ hY h0 h0' h1 hu hu' hn hn' hq hq' hr hr0 hr'
    have hlt : Q < q := by omega
    refine Ev.step (f := fun k => bits_Div64.j1 k Y s y1 y0 u un u0 q r true) (fun k => ?_) ?_
    · simp only [bits_Div64.l0]
      by_cases c : q ≥ 4294967296
      · rw [if_pos c]
      · rw [if_neg c, t2 (by omega), decide_eq_true hlt]
    · have wq : IntKind.u64.wrap (q - 1) = q - 1 := u64 (by omega) (by omega)
      have wr : IntKind.u64.wrap (r + y1) = r + y1 := u64 (by omega) (by omega)
      by_cases c : r + y1 ≥ 4294967296
      · have e := t3 hlt c
        refine Ev.step (f := fun k => bits_Div64.j2 k Y s y1 y0 u un u0 Q) (fun k => ?_) hnext
        simp only [bits_Div64.j1]
        rw [if_pos trivial, wr, if_pos c, wq, ← e]
      · refine Ev.step (f := fun k => bits_Div64.l0 k Y s y1 y0 u un u0 (q - 1) (r + y1)) (fun k => ?_) (ih (q - 1) (r + y1) (by omega) (by omega) (by omega) t4 (by omega) (by omega))
        simp only [bits_Div64.j1]
        rw [if_pos trivial, wr, if_neg c, wq]

/-- A first guess and its rest. -/
theorem guess {Y y1 y0 u un Q : Int} (hQ : Q = (u * 4294967296 + un) / Y) (hY : Y = y1 * 4294967296 + y0) (h0 : 0 ≤ y0) (h0' : y0 < 4294967296) (h1 : 2147483648 ≤ y1) (h1' : y1 < 4294967296)
    (hu : 0 ≤ u) (hu' : u < Y) (hM : Y < 18446744073709551616) (hn : 0 ≤ un) (hn' : un < 4294967296) :
    ∃ q r : Int, IntKind.u64.wrap (Int.tdiv u y1) = q ∧ IntKind.u64.wrap (u - IntKind.u64.wrap (q * y1)) = r ∧ Q ≤ q ∧ q ≤ 4294967297 ∧ r = u - q * y1 ∧ 0 ≤ r ∧ r < 4294967296 := by
  obtain ⟨d0, d1, d2, key⟩ := digit_facts hY h0 h1 hu hu' hn hn'
  obtain ⟨g0, g1⟩ := guess_le hY h0' h1 hu hu' rfl
  have e := Int.mul_ediv_add_emod u y1
  have b0 := Int.emod_nonneg u (show y1 ≠ 0 by omega)
  have b1 := Int.emod_lt_of_pos u (show 0 < y1 by omega)
  rw [Int.mul_comm] at e
  rw [← hQ] at d2
  refine ⟨u / y1, u - u / y1 * y1, ?_, ?_, d2, g1, rfl, by omega, by omega⟩
  · rw [tdiv_pos hu, u64 g0 (by omega)]
  · rw [u64 (n := u / y1 * y1) (Int.mul_nonneg g0 (by omega)) (by omega), u64 (by omega) (by omega)]

theorem div64 {hi lo y : Int} (h0 : 0 ≤ hi) (h1 : hi < y) (hy : y < 18446744073709551616) (l0 : 0 ≤ lo) (l1 : lo < 18446744073709551616) :
    Ev (fun k => bits_Div64.f k hi lo y) ((hi * 18446744073709551616 + lo) / y, (hi * 18446744073709551616 + lo) % y) := by
  unfold bits_Div64.f
  by_cases hz : hi = 0
  · refine Ev.congr (f := fun _ => some _) (fun k => ?_) (Ev.now _)
    rw [if_neg (by omega), if_neg (by omega), if_pos hz, hz, tdiv_pos l0, tmod_pos l0]
    have : lo / y ≤ lo := Int.ediv_le_self _ l0
    have : 0 ≤ lo / y := Int.ediv_nonneg l0 (by omega)
    rw [u64 (by omega) (by omega), Int.zero_mul, Int.zero_add]
  obtain ⟨s, hs, hl, n0, n1⟩ := lead (y := y) (by omega) hy
  have hp : (0 : Int) < 2 ^ s := by exact_mod_cast Nat.two_pow_pos s
  have hsp : (2 : Int) ^ s * 2 ^ (64 - s) = 18446744073709551616 := by
    rw [← Int.pow_add, show s + (64 - s) = 64 by omega]; decide
  have hp2 : (0 : Int) < 2 ^ (64 - s) := by exact_mod_cast Nat.two_pow_pos (64 - s)
  -- the shifted numbers
  have ey : shl .u64 y (s : Int) = y * 2 ^ s := by
    unfold shl
    rw [show min (s : Int).toNat IntKind.u64.bits = s from by simp only [IntKind.bits]; omega, u64 (by omega) n1]
  have ehi0 : 0 ≤ hi * 2 ^ s := Int.mul_nonneg h0 (Int.le_of_lt hp)
  have ehi1 : hi * 2 ^ s < y * 2 ^ s := Int.mul_lt_mul_of_pos_right h1 hp
  have ehi : shl .u64 hi (s : Int) = hi * 2 ^ s := by
    unfold shl
    rw [show min (s : Int).toNat IntKind.u64.bits = s from by simp only [IntKind.bits]; omega, u64 ehi0 (by omega)]
  have elo : shl .u64 lo (s : Int) = lo * 2 ^ s % 18446744073709551616 := by
    unfold shl
    rw [show min (s : Int).toNat IntKind.u64.bits = s from by simp only [IntKind.bits]; omega, u64m]
  have w1 : IntKind.u64.wrap (s : Int) = s := u64 (by omega) (by omega)
  have w2 : IntKind.u64.wrap (64 - (s : Int)) = 64 - s := u64 (by omega) (by omega)
  have esr : shr .u64 lo (64 - (s : Int)) = lo / 2 ^ (64 - s) := by
    unfold shr
    rw [show min (64 - (s : Int)).toNat IntKind.u64.bits = 64 - s from by simp only [IntKind.bits]; omega]
  have esr0 : 0 ≤ lo / 2 ^ (64 - s) := Int.ediv_nonneg l0 (Int.le_of_lt hp2)
  have esr1 : lo / 2 ^ (64 - s) < 2 ^ s := by
    apply Int.ediv_lt_of_lt_mul hp2
    omega
  have ejoin : Go.bits .or .u64 (hi * 2 ^ s) (lo / 2 ^ (64 - s)) = hi * 2 ^ s + lo / 2 ^ (64 - s) :=
    Go.bits_join .u64 64 (by decide) u64_wraps s _ _ ehi0 (Int.mul_emod_left _ _) (by rw [show (2 : Int) ^ 64 = 18446744073709551616 by decide]; omega) esr0 esr1
      (Int.lt_of_lt_of_le esr1 (by exact_mod_cast Nat.pow_le_pow_right (by decide) (by omega)))
  -- the whole shifted number
  have eN : (hi * 18446744073709551616 + lo) * 2 ^ s = (hi * 2 ^ s + lo / 2 ^ (64 - s)) * 18446744073709551616 + lo * 2 ^ s % 18446744073709551616 := by
    have a := Int.mul_ediv_add_emod (lo * 2 ^ s) 18446744073709551616
    have b : lo * 2 ^ s / 18446744073709551616 = lo / 2 ^ (64 - s) := by
      rw [← hsp, Int.mul_comm lo, Int.mul_ediv_mul_of_pos _ _ hp]
    rw [b] at a
    grind
  have hm0 : 0 ≤ lo * 2 ^ s % 18446744073709551616 := Int.emod_nonneg _ (by decide)
  have hm1 : lo * 2 ^ s % 18446744073709551616 < 18446744073709551616 := Int.emod_lt_of_pos _ (by decide)
  have hu1 : hi * 2 ^ s + lo / 2 ^ (64 - s) < y * 2 ^ s := by
    have : hi + 1 ≤ y := h1
    have := Int.mul_le_mul_of_nonneg_right this (Int.le_of_lt hp)
    rw [Int.add_mul, Int.one_mul] at this
    omega
  have hu0 : 0 ≤ hi * 2 ^ s + lo / 2 ^ (64 - s) := by omega
  obtain ⟨sq, sr⟩ := split_quot (hi * 18446744073709551616 + lo) y (2 ^ s) hp
  rw [eN] at sq sr
  rw [← sq]
  have erem : (hi * 18446744073709551616 + lo) % y = shr .u64 ((hi * 18446744073709551616 + lo) % y * 2 ^ s) (s : Int) := by
    unfold shr
    rw [show min (s : Int).toNat IntKind.u64.bits = s from by simp only [IntKind.bits]; omega, Int.mul_ediv_cancel _ (Int.ne_of_gt hp)]
  rw [erem, ← sr]
  generalize hY : y * 2 ^ s = Y at *
  generalize hi * 2 ^ s + lo / 2 ^ (64 - s) = u at *
  generalize lo * 2 ^ s % 18446744073709551616 = m at *
  -- digits of the rest
  have em : u * 18446744073709551616 + m = (u * 4294967296 + m / 4294967296) * 4294967296 + m % 4294967296 := by omega
  rw [em]
  obtain ⟨t1, t2⟩ := two_digits (Y := Y) (u := u) (u1 := m / 4294967296) (u0 := m % 4294967296) (by omega)
  rw [t1, t2]
  have y0 := Int.emod_nonneg Y (show (4294967296 : Int) ≠ 0 by decide)
  have y0' := Int.emod_lt_of_pos Y (show (0 : Int) < 4294967296 by decide)
  have hYe : Y = Y / 4294967296 * 4294967296 + Y % 4294967296 := by omega
  have hR0 := Int.emod_nonneg (u * 4294967296 + m / 4294967296) (show Y ≠ 0 by omega)
  have hR1 := Int.emod_lt_of_pos (u * 4294967296 + m / 4294967296) (show 0 < Y by omega)
  obtain ⟨dq0, dq1, _, _⟩ := digit_facts (un := m / 4294967296) hYe y0 (by omega) hu0 hu1 (by omega) (by omega)
  -- the second half
  have second : Ev (fun k => bits_Div64.j2 k Y (s : Int) (Y / 4294967296) (Y % 4294967296) u (m / 4294967296) (m % 4294967296) ((u * 4294967296 + m / 4294967296) / Y))
      ((u * 4294967296 + m / 4294967296) / Y * 4294967296 + ((u * 4294967296 + m / 4294967296) % Y * 4294967296 + m % 4294967296) / Y,
        shr .u64 (((u * 4294967296 + m / 4294967296) % Y * 4294967296 + m % 4294967296) % Y) (s : Int)) := by
    have e21 : IntKind.u64.wrap (IntKind.u64.wrap (IntKind.u64.wrap (u * 4294967296) + m / 4294967296) - IntKind.u64.wrap ((u * 4294967296 + m / 4294967296) / Y * Y)) = (u * 4294967296 + m / 4294967296) % Y := by
      have e := Int.mul_ediv_add_emod (u * 4294967296 + m / 4294967296) Y
      rw [Int.mul_comm] at e
      generalize (u * 4294967296 + m / 4294967296) % Y = R at *
      generalize (u * 4294967296 + m / 4294967296) / Y * Y = P at *
      simp only [u64m]
      omega
    obtain ⟨q, r, g1, g2, g3, g4, g5, g6, g7⟩ := guess (Y := Y) (u := (u * 4294967296 + m / 4294967296) % Y) (un := m % 4294967296) rfl hYe y0 y0' (by omega) (by omega) hR0 hR1 n1 (by omega) (by omega)
    refine Ev.step (f := fun k => bits_Div64.l1 k Y (s : Int) (Y / 4294967296) (Y % 4294967296) (m % 4294967296) ((u * 4294967296 + m / 4294967296) / Y) r ((u * 4294967296 + m / 4294967296) % Y) q) (fun k => ?_)
      (low_loop rfl hYe y0 y0' (by omega) (by omega) hR0 hR1 (by omega) (by omega) (by omega) dq0 dq1 (q - ((u * 4294967296 + m / 4294967296) % Y * 4294967296 + m % 4294967296) / Y).toNat q r (by omega) g3 g4 g5 g6 g7)
    simp only [bits_Div64.j2]
    rw [if_neg (by omega), e21, g1, g2]
  obtain ⟨q, r, g1, g2, g3, g4, g5, g6, g7⟩ := guess (Y := Y) (u := u) (un := m / 4294967296) rfl hYe y0 y0' (by omega) (by omega) hu0 hu1 n1 (by omega) (by omega)
  have first := high_loop (s := (s : Int)) rfl hYe y0 y0' (by omega) (by omega) hu0 hu1 (by omega) (by omega) second (q - (u * 4294967296 + m / 4294967296) / Y).toNat q r (by omega) g3 g4 g5 g6 g7
  obtain ⟨K, hK⟩ := first
  refine ⟨K + 1, fun k hk => ?_⟩
  obtain ⟨j, rfl⟩ : ∃ j, k = j + 1 := ⟨k - 1, by omega⟩
  dsimp only
  rw [if_neg (by omega), if_neg (by omega), if_neg hz, hl j]
  simp only [Option.bind_some]
  rw [w1, w2, if_pos (by omega), if_pos (by omega), ey, if_neg (by omega), ehi, esr, ejoin, elo, low32 (by omega) n1, low32 hm0 hm1, g1, g2]
  exact hK (j + 1) (by omega)
end Go.Proofs.YthnmmiofhjbkeaaX
