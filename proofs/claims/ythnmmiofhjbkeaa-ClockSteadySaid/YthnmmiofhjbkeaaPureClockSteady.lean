/-
  The plain law behind ClockSteady: a clock with one segment keeps to its own rate with the jitter 1, over any times; what keeps to a declaration keeps to a weaker one.
  Conditions: none beyond the statement's own guards.
-/
import Derived.Test.YthnmmiofhjbkeaaPAx28
import Derived.Test.YthnmmiofhjbkeaaKSane
import Derived.Test.YthnmmiofhjbkeaaKRef
import Derived.Test.YthnmmiofhjbkeaaKKeeps
namespace Go.Proofs.Ythnmmiofhjbkeaa.Pure
open Go.RowKit Go.Proofs.Ythnmmiofhjbkeaa.PA Go.Proofs.YthnmmiofhjbkeaaX Go.Proofs.YthnmmiofhjbkeaaW.PrintWords Go.Proofs.YthnmmiofhjbkeaaW.PrintLast Go.Proofs.YthnmmiofhjbkeaaW.PrintMore
/-- A rest that comes and goes stays below the divisor. -/
theorem own_steady (a b p : Int) (hb : 1 ≤ b) (s : Nat → Int) (hs : ∀ k, s k = (3 + k * p) * a / b) :
    (∀ i j : Nat, ((s j - s 0) * (b * 65536) - j * p * (a * 65536)) - ((s i - s 0) * (b * 65536) - i * p * (a * 65536)) ≤ b * 65536) ∧
    (∀ i j : Nat, (j * p * (a * 65536) - (s j - s 0) * (b * 65536)) - (i * p * (a * 65536) - (s i - s 0) * (b * 65536)) ≤ b * 65536) := by
  have key : ∀ k : Nat, ∃ r : Int, 0 ≤ r ∧ r < b ∧ s k * (b * 65536) = (3 * a + k * p * a - r) * 65536 ∧ (k : Int) * p * (a * 65536) = k * p * a * 65536 := by
    intro k
    have h1 := Int.ediv_mul_add_emod ((3 + k * p) * a) b
    have h2 := Int.emod_nonneg ((3 + k * p) * a) (show b ≠ 0 by omega)
    have h3 := Int.emod_lt_of_pos ((3 + k * p) * a) (show 0 < b by omega)
    refine ⟨((3 + k * p) * a) % b, h2, h3, ?_, (Int.mul_assoc _ _ _).symm⟩
    rw [hs, ← Int.mul_assoc]
    have e : (3 + (k : Int) * p) * a = 3 * a + k * p * a := Int.add_mul _ _ _
    rw [e] at h1 ⊢
    omega
  constructor
  all_goals
    intro i j
    obtain ⟨r1, a1, a2, a3, a4⟩ := key i
    obtain ⟨r2, b1, b2, b3, b4⟩ := key j
    rw [Int.sub_mul, Int.sub_mul, a3, b3, a4, b4]
    omega
/-- What keeps to a declaration keeps to a weaker one. -/
theorem weaker_steady (x : Nat → Int) (p d m L L' : Int) (hp : 0 ≤ p) (hm : 0 ≤ m) (hL : L ≤ L') (n : Nat) (h : steady L (fun k => x k - k * p * (1 * (65536 + d))) n) : steady L' (fun k => x k - k * p * (1 * (65536 + (d + m)))) n := by
  intro i j hij hj
  have h1 := h i j hij hj
  simp only at h1 ⊢
  have e : ∀ k : Nat, (k : Int) * p * (1 * (65536 + (d + m))) = k * p * (1 * (65536 + d)) + k * p * m := by
    intro k
    rw [← Int.mul_add]
    congr 1
    omega
  have hk : (i : Int) * p * m ≤ j * p * m := Int.mul_le_mul_of_nonneg_right (Int.mul_le_mul_of_nonneg_right (by omega) hp) hm
  rw [e i, e j]
  omega
theorem weaker_steady' (x : Nat → Int) (p d m L L' : Int) (hp : 0 ≤ p) (hm : 0 ≤ m) (hL : L ≤ L') (n : Nat) (h : steady L (fun k => k * p * (1 * (65536 - d)) - x k) n) : steady L' (fun k => k * p * (1 * (65536 - (d + m))) - x k) n := by
  intro i j hij hj
  have h1 := h i j hij hj
  simp only at h1 ⊢
  have e : ∀ k : Nat, (k : Int) * p * (1 * (65536 - (d + m))) = k * p * (1 * (65536 - d)) - k * p * m := by
    intro k
    rw [← Int.mul_sub]
    congr 1
    omega
  have hk : (i : Int) * p * m ≤ j * p * m := Int.mul_le_mul_of_nonneg_right (Int.mul_le_mul_of_nonneg_right (by omega) hp) hm
  rw [e i, e j]
  omega
theorem steady_j1 (b : Bool) : Ev (fun k => soundservicelaw13_ClockSteady.j1 k b) b := by
  refine Ev.step (f := ?f1) (fun k => ?h1) ?g1
  case h1 => rw [soundservicelaw13_ClockSteady.j1]
  case g1 =>
    refine Ev.step (f := ?f2) (fun k => ?h2) ?g2
    case h2 => rw [soundservicelaw13_ClockSteady.j2]
    case g2 => exact Ev.now _
theorem ClockSteady : soundservicelaw13_ClockSteady.Pure := by
  intro seeds per tim dr mo hm hm2 hd h1 h2 h3 h4
  obtain ⟨p0, p1⟩ := u8_of h1
  obtain ⟨t0, t1⟩ := u8_of h2
  obtain ⟨d0, d1⟩ := u8_of h3
  obtain ⟨m0, m1⟩ := u8_of h4
  refine Ev.rounds (g := fun k => soundservicelaw13_ClockSteady.f k seeds per tim dr mo) ?_
  unfold soundservicelaw13_ClockSteady.f
  refine Ev.bind sane13_ev ?_
  simp only [if_true]
  obtain ⟨l1, e1, b1⟩ := new_some (bytes_of hd)
  obtain ⟨a, b, l2, e2, ur, b2⟩ := rate_some b1
  obtain ⟨l, d', hcl, hv, _⟩ := clock_some b2
  rw [e1]
  simp only [Option.bind_some]
  rw [e2]
  simp only [Option.bind_some]
  clear e1 e2 hd
  have hp : ∃ p : Int, p = 1 + per ∧ 1 ≤ p ∧ p ≤ 256 := ⟨1 + per, rfl, by omega, by omega⟩
  obtain ⟨p, hp, hp0, hp1⟩ := hp
  obtain ⟨n, hn⟩ := Int.eq_ofNat_of_zero_le (Int.emod_nonneg tim (show (20 : Int) ≠ 0 by decide))
  have hn1 : n < 20 := by omega
  have hnp : 0 ≤ (n : Int) * p ∧ (n : Int) * p ≤ 20 * 256 := ⟨Int.mul_nonneg (by omega) (by omega), Int.mul_le_mul (by omega) hp1 (by omega) (by decide)⟩
  have hdiv : (3 + n * p - 3) / p = n := by
    rw [show 3 + (n : Int) * p - 3 = n * p by omega]
    exact Int.mul_ediv_cancel _ (by omega)
  have hdiv2 : ((n : Int) * p - 0) / p = n := by
    rw [Int.sub_zero]
    exact Int.mul_ediv_cancel _ (by omega)
  rw [tmod_pos t0, hn, w64 (n := per) (by omega) (by omega), ← hp, w64 (n := p) (by omega) (by omega), w64 (n := (n : Int)) (by omega) (by omega), w64 (n := (n : Int) * p) (by omega) (by omega), w64 (n := 3 + (n : Int) * p) (by omega) (by omega)]
  refine Ev.bind (new_ev a b) ?_
  simp only [if_pos ur, if_true]
  have hv1 : vclockS [⟨0, ⟨a, b⟩⟩] = true := by simp [vclockS, goodS, ur]
  obtain ⟨v1, v2, v3, v4, _⟩ := usual_bounds ur
  obtain ⟨r, hr, hri⟩ := keeps_ev hv1 (usualS_iff.1 ur).1 (drift := 0) (p := p) (from_ := 3) (to_ := 3 + n * p) (jit := 1) (by decide) (by decide) hp0 (by decide) (by omega) (by omega) (by decide) (by decide) n hdiv (by omega)
  have hrt : r = true := by
    rw [hri]
    have hk : ∀ k : Nat, k ≤ n → (3 : Int) + k * p ≤ 1099511627776 := fun k hk => by
      have := Int.mul_le_mul_of_nonneg_right (show (k : Int) ≤ n by omega) (show 0 ≤ p by omega)
      omega
    have hs : ∀ k : Nat, k ≤ n → posS [⟨0, ⟨a, b⟩⟩] (3 + k * p) = (3 + k * p) * a / b := fun k hkn => by
      have := Int.mul_nonneg (show (0 : Int) ≤ k by omega) (show 0 ≤ p by omega)
      rw [posS_eq hv1 (by omega), posR_one _ _ _ (hk k hkn)]
    have hs0 : posS [⟨0, ⟨a, b⟩⟩] 3 = (3 + (0 : Nat) * p) * a / b := by
      have := hs 0 (by omega)
      simpa using this
    obtain ⟨k1, k2⟩ := own_steady a b p v2 (fun k => (3 + k * p) * a / b) (fun _ => rfl)
    constructor
    · intro i j hij hj
      have := k1 i j
      unfold highS
      rw [hs i (by omega), hs j hj, hs0, Int.add_zero, Int.one_mul]
      exact this
    · intro i j hij hj
      have := k2 i j
      unfold lowS
      rw [hs i (by omega), hs j hj, hs0, Int.sub_zero, Int.one_mul]
      exact this
  refine Ev.bind hr ?_
  rw [hrt]
  refine Ev.step (f := ?f) (fun k => ?h) ?g
  case h =>
    rw [soundservicelaw13_ClockSteady.j0, if_neg (by decide)]
  case g =>
    refine Ev.bind hcl (Ev.bind (make_ev' (a := 1) (b := 1) (by decide) (by decide)) ?_)
    have hmk : makeS 1 1 = (1, 1, 0) := by decide +kernel
    have hvl : validS 1 1 = true := by decide +kernel
    rw [hmk, w64 (n := dr) (by omega) (by omega), w64 (n := mo) (by omega) (by omega), w64 (n := dr + mo) (by omega) (by omega), w64 (n := (n : Int) * p) (by omega) (by omega)]
    obtain ⟨r1, hr1, hri1⟩ := keeps_ev hv hvl (drift := dr) (p := p) (from_ := 0) (to_ := n * p) (jit := 5) (by omega) (by omega) hp0 (by decide) (by omega) (by omega) (by decide) (by decide) n hdiv2 (by omega)
    obtain ⟨r2, hr2, hri2⟩ := keeps_ev hv hvl (drift := dr + mo) (p := p) (from_ := 0) (to_ := n * p) (jit := 6) (by omega) (by omega) hp0 (by decide) (by omega) (by omega) (by decide) (by decide) n hdiv2 (by omega)
    refine Ev.bind hr1 ?_
    cases r1 with
    | false => exact steady_j1 _
    | true =>
      simp only [if_true]
      obtain ⟨s1, s2⟩ := hri1.1 rfl
      have : r2 = true := hri2.2 ⟨weaker_steady (fun k => (posS l (0 + k * p) - posS l 0) * (1 * 65536)) p dr mo _ _ (by omega) m0 (by decide) n s1, weaker_steady' (fun k => (posS l (0 + k * p) - posS l 0) * (1 * 65536)) p dr mo _ _ (by omega) m0 (by decide) n s2⟩
      rw [this] at hr2
      refine Ev.bind hr2 ?_
      exact steady_j1 _
end Go.Proofs.Ythnmmiofhjbkeaa.Pure
