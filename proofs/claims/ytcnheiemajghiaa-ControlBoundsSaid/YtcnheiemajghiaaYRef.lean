/-
  What the reference computes for Possible, given, Bound, Demand and Plan: the same.
-/
import Derived.Test.YtcnheiemajghiaaPAx13
import Derived.Test.YtcnheiemajghiaaPAx14
import Derived.Test.YtcnheiemajghiaaPAx15
import Derived.Test.YtcnheiemajghiaaPAx16
import Derived.Test.YtcnheiemajghiaaPAx4
import Derived.Test.YtcnheiemajghiaaYBound
namespace Go.Proofs.YtcnheiemajghiaaX
open Go.RowKit Go.Proofs.Ytcnheiemajghiaa.PA Go.Proofs.YtcnheiemajghiaaW.PrintWords Go.Proofs.YtcnheiemajghiaaW.PrintLast Go.Proofs.YtcnheiemajghiaaW.PrintMore
theorem rgcd_l0 (k : Nat) : ∀ a b, soundserviceref03_gcd.l0 k a b = ratio_divisor.l0 k a b := by
  induction k with
  | zero => intro a b; simp only [soundserviceref03_gcd.l0, ratio_divisor.l0]
  | succ k ih => intro a b; simp only [soundserviceref03_gcd.l0, ratio_divisor.l0, ih]
theorem rgcd_ev {a b : Int} (ha : 0 ≤ a) (hb : 0 ≤ b) : Ev (fun k => soundserviceref03_gcd.f k a b) (gcdI a b) := by
  unfold soundserviceref03_gcd.f
  simp only [rgcd_l0]
  exact gcd_l0 b.toNat a b ha hb (Nat.le_refl _)
theorem valid_ev' (a b : Int) : Ev (fun k => soundserviceref03_Valid.f k a b) (validS a b) := by
  unfold soundserviceref03_Valid.f validS
  by_cases h1 : a ≥ 1
  · by_cases h2 : b ≥ 1
    · by_cases h3 : a ≤ 68719476736
      · by_cases h4 : b ≤ 68719476736
        · simp only [if_pos h1, if_pos h2, if_pos h3, if_pos h4]
          refine Ev.bind (rgcd_ev (a := a) (b := b) (by omega) (by omega)) ?_
          have : (gcdI a b == 1) = decide (1 ≤ a ∧ 1 ≤ b ∧ a ≤ 68719476736 ∧ b ≤ 68719476736 ∧ gcdI a b = 1) := by
            rw [Bool.eq_iff_iff]; simp; omega
          rw [this]; exact Ev.now _
        · simp only [if_pos h1, if_pos h2, if_pos h3, if_neg h4]
          rw [decide_eq_false (by omega)]; exact Ev.now _
      · simp only [if_pos h1, if_pos h2, if_neg h3]
        rw [decide_eq_false (by omega)]; exact Ev.now _
    · simp only [if_pos h1, if_neg h2]
      rw [decide_eq_false (by omega)]; exact Ev.now _
  · simp only [if_neg h1]
    rw [decide_eq_false (by omega)]; exact Ev.now _
theorem rvalid18 (t d g m : Int) : soundserviceref18_Valid.f t d g m = some (validC t d g m) := by
  unfold soundserviceref18_Valid.f validC
  repeat' split
  all_goals (congr 1; first | (rw [decide_eq_decide]; omega) | (symm; rw [decide_eq_false_iff_not]; omega))
theorem rposs_ev (p q : Int) : Ev (fun k => soundserviceref18_Possible.f k p q) (possS p q) := by
  unfold soundserviceref18_Possible.f possS
  refine Ev.bind (valid_ev' p q) ?_
  by_cases hv : validS p q = true
  · obtain ⟨p1, q1, p2, q2, _⟩ := validS_iff.1 hv
    simp only [hv, if_true, true_and]
    by_cases c : q ≤ 768000
    · rw [if_pos c, w64 (n := 64 * p) (by omega) (by omega), w64 (n := 524288 * q) (by omega) (by omega)]
      by_cases c2 : 64 * p ≥ q
      · rw [if_pos c2]
        have : decide (p ≤ 524288 * q) = decide (q ≤ 768000 ∧ q ≤ p * 64 ∧ p ≤ q * 64 * 8192) := by rw [decide_eq_decide]; omega
        rw [this]; exact Ev.now _
      · rw [if_neg c2, decide_eq_false (by omega)]; exact Ev.now _
    · rw [if_neg c, decide_eq_false (by omega)]; exact Ev.now _
  · simp only [if_neg hv]
    rw [decide_eq_false (fun h => hv h.1)]; exact Ev.now _
theorem rdecl_ev (p q k j : Int) : Ev (fun n => soundserviceref18_given.f n p q k j) (declS p q k j) := by
  unfold soundserviceref18_given.f declS
  refine Ev.bind (rposs_ev p q) ?_
  by_cases hv : possS p q = true
  · simp only [hv, if_true, true_and]
    by_cases c1 : k ≥ 0
    · by_cases c2 : k ≤ 4096
      · by_cases c3 : j ≥ 0
        · rw [if_pos c1, if_pos c2, if_pos c3]
          have : decide (j ≤ 65536) = decide (0 ≤ k ∧ k ≤ 4096 ∧ 0 ≤ j ∧ j ≤ 65536) := by rw [decide_eq_decide]; omega
          rw [this]; exact Ev.now _
        · rw [if_pos c1, if_pos c2, if_neg c3, decide_eq_false (by omega)]; exact Ev.now _
      · rw [if_pos c1, if_neg c2, decide_eq_false (by omega)]; exact Ev.now _
    · rw [if_neg c1, decide_eq_false (by omega)]; exact Ev.now _
  · simp only [if_neg hv]
    rw [decide_eq_false (fun h => hv h.1)]; exact Ev.now _
theorem rup_eq (a b : Int) : soundserviceref18_up.f a b = control_up.f a b := rfl
theorem rsway_some {p q n : Int} (hp : 1 ≤ p) (hp' : p ≤ 68719476736) (hq : 1 ≤ q) (hq' : q ≤ 768000) (hn : 0 ≤ n) (hn' : n ≤ 8192) : soundserviceref18_sway.f p q n = some (wobS p q n) := by
  unfold soundserviceref18_sway.f wobS
  have e : 2 * p * n = 2 * n * p := by rw [Int.mul_assoc, Int.mul_comm p n, ← Int.mul_assoc]
  have p0 : 0 ≤ 2 * n * p := Int.mul_nonneg (by omega) (by omega)
  have p1 : 2 * n * p ≤ 16384 * 68719476736 := Int.mul_le_mul (by omega) hp' (by omega) (by omega)
  rw [w64 (n := 2 * p) (by omega) (by omega), e, w64 (n := 2 * n * p) (by omega) (by omega), w64 (n := q * 65536) (by omega) (by omega), show q * 65536 = 65536 * q by omega, rup_eq, up_some p0 (by omega) (by omega) (by omega)]
  rfl
theorem rbound_ev (t d g m p q k j s : Int) : Ev (fun n => soundserviceref18_Bound.f n t d g m p q k j s) (boundS t d g m p q k j s) := by
  have no : ¬ (validC t d g m = true ∧ declS p q k j = true ∧ 0 ≤ s ∧ s ≤ 65536) → Ev (fun n => soundserviceref18_Bound.j0 n k j s true t d g m p q) (boundS t d g m p q k j s) := by
    intro h
    unfold boundS; rw [if_neg h]
    refine Ev.step (f := fun _ => some (0, 1)) (fun n => ?_) (Ev.now _)
    simp only [soundserviceref18_Bound.j0]; rw [if_pos trivial]
  unfold soundserviceref18_Bound.f
  rw [rvalid18]
  simp only [Option.bind_some]
  by_cases hv : validC t d g m = true
  · simp only [if_pos hv]
    refine Ev.bind (rdecl_ev p q k j) ?_
    by_cases hd : declS p q k j = true
    · simp only [if_pos hd]
      by_cases c1 : s < 0
      · simp only [if_pos c1]; exact no (by omega)
      · simp only [if_neg c1]
        by_cases c2 : s > 65536
        · rw [decide_eq_true c2]; exact no (by omega)
        · rw [decide_eq_false c2]
          obtain ⟨⟨t0, t1, d0, d1, g0, g1, m0, m1⟩, ⟨p0, p1, q0, q1⟩, k0, k1, j0, j1, eu, u0, u1, ew, w0, w1⟩ := nums hv hd
          unfold boundS; rw [if_pos ⟨hv, hd, by omega, by omega⟩]
          refine Ev.step (f := fun n => _) (fun n => by simp only [soundserviceref18_Bound.j0]; rw [if_neg (by decide)]) ?_
          have pm0 : 0 ≤ m * (65536 - k) := Int.mul_nonneg m0 (by omega)
          have pm1 : m * (65536 - k) ≤ 4096 * 65536 := Int.mul_le_mul m1 (by omega) (by omega) (by omega)
          rw [w64 (n := 65536 - k) (by omega) (by omega), w64 (n := m * (65536 - k)) (by omega) (by omega), w64 (n := 65536 * k) (by omega) (by omega), w64 (n := k + m) (by omega) (by omega)]
          by_cases c3 : m * (65536 - k) < 65536 * k
          · rw [if_pos c3, if_pos c3]; exact Ev.now _
          · have ew' := rsway_some (p := p) (q := q) (n := k + m) p0 p1 q0 q1 (by omega) (by omega)
            rw [if_neg c3, if_neg c3, rup_eq, eu, ew']
            simp only [Option.bind_some]
            rw [w64 (n := d + upS m g) (by omega) (by omega)]
            have x0 : 0 ≤ mx s (d + upS m g) ∧ mx s (d + upS m g) ≤ 131072 := by unfold mx; split <;> omega
            rw [w64 (n := 2 * j) (by omega) (by omega), w64 (n := mx s (d + upS m g) + wobS p q (k + m)) (by omega) (by omega), w64 (n := mx s (d + upS m g) + wobS p q (k + m) + 2 * j) (by omega) (by omega), w64 (by omega) (by omega)]
            exact Ev.now _
    · simp only [Bool.not_eq_true] at hd
      simp only [hd]
      exact no (fun h => by rw [hd] at h; exact absurd h.2.1 (by decide))
  · simp only [Bool.not_eq_true] at hv
    simp only [hv]
    exact no (fun h => by rw [hv] at h; exact absurd h.1 (by decide))
theorem rdemand_ev (t d g m p q k j : Int) : Ev (fun n => soundserviceref18_Demand.f n t d g m p q k j) (demandS t d g m p q k j) := by
  unfold soundserviceref18_Demand.f demandS
  refine Ev.bind (rbound_ev t d g m p q k j 0) ?_
  by_cases c : (boundS t d g m p q k j 0).2 = 0
  · obtain ⟨hv, hd, _, _, _⟩ := boundS_ok c
    obtain ⟨⟨t0, t1, d0, d1, g0, g1, m0, m1⟩, ⟨p0, p1, q0, q1⟩, k0, k1, j0, j1, eu, u0, u1, ew, w0, w1⟩ := nums hv hd
    have u := upS_self (a := p) (b := q) (by omega) (by omega)
    have u' := upS_nonneg (a := p) (b := q) (by omega) (by omega)
    have ew' := rsway_some (p := p) (q := q) (n := k + m) p0 p1 q0 q1 (by omega) (by omega)
    rw [if_pos c, if_pos c, rup_eq, up_some (by omega) (by omega) (by omega) (by omega), w64 (n := k + m) (by omega) (by omega), ew']
    simp only [Option.bind_some]
    rw [w64 (n := 2 * j) (by omega) (by omega), w64 (n := upS p q + wobS p q (k + m)) (by omega) (by omega), w64 (n := upS p q + wobS p q (k + m) + 2 * j) (by omega) (by omega), w64 (by omega) (by omega)]
    exact Ev.now _
  · rw [if_neg c, if_neg c]; exact Ev.now _
theorem rplan_ev (p q k j d g : Int) : Ev (fun n => soundserviceref18_Plan.f n p q k j d g) (planS p q k j d g) := by
  have no : ¬ (declS p q k j = true ∧ 0 ≤ d ∧ d ≤ 65536 ∧ 1 ≤ g ∧ g ≤ 4096) → Ev (fun n => soundserviceref18_Plan.j0 n k j d g true p q) (planS p q k j d g) := by
    intro h
    unfold planS; rw [if_neg h]
    refine Ev.step (f := fun _ => some (0, 0, 0, 0, 0, 1)) (fun n => ?_) (Ev.now _)
    simp only [soundserviceref18_Plan.j0]; rw [if_pos trivial]
  unfold soundserviceref18_Plan.f
  refine Ev.bind (rdecl_ev p q k j) ?_
  by_cases hd : declS p q k j = true
  · simp only [if_pos hd]
    by_cases c1 : d < 0
    · simp only [if_pos c1]; exact no (by omega)
    · simp only [if_neg c1]
      by_cases c2 : d > 65536
      · simp only [if_pos c2]; exact no (by omega)
      · simp only [if_neg c2]
        by_cases c3 : g < 1
        · simp only [if_pos c3]; exact no (by omega)
        · simp only [if_neg c3]
          by_cases c4 : g > 4096
          · rw [decide_eq_true c4]; exact no (by omega)
          · rw [decide_eq_false c4]
            obtain ⟨hp, k0, k1, j0, j1⟩ := declS_iff.1 hd
            obtain ⟨hp, q3, _, _⟩ := possS_iff.1 hp
            obtain ⟨p1, q1, p2, q2, _⟩ := validS_iff.1 hp
            unfold planS; rw [if_pos ⟨hd, by omega, by omega, by omega, by omega⟩]
            refine Ev.step (f := fun n => _) (fun n => by simp only [soundserviceref18_Plan.j0]; rw [if_neg (by decide)]) ?_
            rw [w64 (n := 65536 * k) (by omega) (by omega), w64 (n := 65536 - k) (by omega) (by omega), rup_eq, up_some (by omega) (by omega) (by omega) (by omega)]
            simp only [Option.bind_some]
            change Ev (fun n => if mostS k > 4096 then _ else _) _
            by_cases c5 : mostS k > 4096
            · simp only [if_pos c5]; exact Ev.now _
            · obtain ⟨w1, w2, w3⟩ := wob_some (p := p) (q := q) (n := k) p1 p2 q1 q3 (by omega) (by omega)
              have w1' := rsway_some (p := p) (q := q) (n := k) p1 p2 q1 q3 (by omega) (by omega)
              simp only [if_neg c5]
              have es : soundserviceref18_Start.f p q k j = some (wobS p q k + j + 1) := by
                unfold soundserviceref18_Start.f
                rw [w1']
                simp only [Option.bind_some]
                rw [w64 (n := wobS p q k + j) (by omega) (by omega), w64 (n := wobS p q k + j + 1) (by omega) (by omega)]
              rw [es]
              simp only [Option.bind_some]
              have mo0 : 0 ≤ mostS k := upS_nonneg (by omega) (by omega)
              have hv : validC 0 d g (mostS k) = true := validC_iff.2 (by omega)
              have mo1 := upS_ge (a := 65536 * k) (b := 65536 - k) (by omega)
              by_cases c6 : wobS p q k + j + 1 > 65536
              · simp only [if_pos c6]
                have e1 : (boundS 0 d g (mostS k) p q k j (wobS p q k + j + 1)).2 = 1 := by
                  unfold boundS; rw [if_neg (by omega)]
                rw [if_neg (fun h => by rw [e1] at h; exact absurd h.1 (by decide))]
                exact Ev.now _
              · simp only [if_neg c6]
                have ok : ∀ s, 0 ≤ s → s ≤ 65536 → (boundS 0 d g (mostS k) p q k j s).2 = 0 := by
                  intro s s0 s1
                  unfold boundS
                  rw [if_pos ⟨hv, hd, s0, s1⟩, if_neg (by unfold mostS; omega)]
                have okb := ok (wobS p q k + j + 1) (by omega) (by omega)
                have okd : (demandS 0 d g (mostS k) p q k j).2 = 0 := by
                  unfold demandS; rw [if_pos (ok 0 (by omega) (by omega))]
                refine Ev.bind (rbound_ev 0 d g (mostS k) p q k j (wobS p q k + j + 1)) (Ev.bind (rdemand_ev 0 d g (mostS k) p q k j) ?_)
                obtain ⟨b0, b1⟩ := boundS_in 0 d g (mostS k) p q k j (wobS p q k + j + 1)
                obtain ⟨e0, e1⟩ := demandS_in 0 d g (mostS k) p q k j
                generalize boundS 0 d g (mostS k) p q k j (wobS p q k + j + 1) = B at *
                generalize demandS 0 d g (mostS k) p q k j = D at *
                rw [w64 (n := 2 * B.1) (by omega) (by omega), w64 (n := D.1 + 2 * B.1) (by omega) (by omega), w64 (n := D.1 + B.1) (by omega) (by omega), w64 (n := D.1 + B.1 + B.1) (by omega) (by omega)]
                by_cases c8 : D.1 + 2 * B.1 > 65536
                · rw [if_pos c8, if_neg (by omega)]; exact Ev.now _
                · rw [if_neg c8, if_pos ⟨okb, okd, by omega⟩]; exact Ev.now _
  · simp only [if_neg hd]
    exact no (fun h => hd h.1)
end Go.Proofs.YtcnheiemajghiaaX
