/-
  The plain law behind ClockChanges: a change of the rate at a time changes nothing before it; a change to the same rate takes away at most one frame, for ever.
  Conditions: none beyond the statement's own guards.
-/
import Derived.Test.YthnmmiofhjbkeaaPAx19
import Derived.Test.YthnmmiofhjbkeaaKSane
import Derived.Test.YthnmmiofhjbkeaaKDice
namespace Go.Proofs.Ythnmmiofhjbkeaa.Pure
open Go.RowKit Go.Proofs.Ythnmmiofhjbkeaa.PA Go.Proofs.YthnmmiofhjbkeaaX Go.Proofs.YthnmmiofhjbkeaaW.PrintWords Go.Proofs.YthnmmiofhjbkeaaW.PrintLast Go.Proofs.YthnmmiofhjbkeaaW.PrintMore
theorem one_valid {a b : Int} (h : usualS a b = true) : vclockS [⟨0, ⟨a, b⟩⟩] = true := by simp [vclockS, goodS, h]
theorem two_valid {a b c d u : Int} (h : usualS a b = true) (h2 : usualS c d = true) (hu : 0 < u) (hu' : u ≤ 1099511627776) : vclockS [⟨0, ⟨a, b⟩⟩, ⟨u, ⟨c, d⟩⟩] = true := by simp [vclockS, goodS, h, h2, hu, hu']
theorem changed {a b c d u : Int} (h : usualS a b = true) (h2 : usualS c d = true) (hu : 0 < u) (hu' : u ≤ 1099511627776) : changeS [⟨0, ⟨a, b⟩⟩] u c d = ([⟨0, ⟨a, b⟩⟩, ⟨u, ⟨c, d⟩⟩], 0) := by
  unfold changeS
  rw [if_pos (one_valid h), if_neg (by simp [rd_T61]; omega), if_pos h2, if_neg (by simp)]
  rfl
theorem ClockChanges : soundservicelaw13_ClockChanges.Pure := by
  intro l t u hm hm2 hl ht hu
  obtain ⟨t0, t1⟩ := u16_of ht
  obtain ⟨u0, u1⟩ := u16_of hu
  refine Ev.rounds (g := fun k => soundservicelaw13_ClockChanges.f k l t u) ?_
  unfold soundservicelaw13_ClockChanges.f
  refine Ev.bind sane13_ev ?_
  simp only [if_true]
  obtain ⟨l1, e1, b1⟩ := new_some (bytes_of hl)
  obtain ⟨a, b, l2, e2, ur, b2⟩ := rate_some b1
  obtain ⟨c, d, l3, e3, us, b3⟩ := rate_some b2
  rw [e1]
  simp only [Option.bind_some]
  rw [e2]
  simp only [Option.bind_some]
  rw [tmod_pos t0, tmod_pos u0, w64 (n := t % 500) (by omega) (by omega), w64 (n := u % 900) (by omega) (by omega), w64 (n := 1 + t % 500) (by omega) (by omega), w64 (n := 1 + t % 500 + u % 900) (by omega) (by omega)]
  generalize hf : 1 + t % 500 = f
  generalize hw : u % 900 = w
  refine Ev.bind (new_ev a b) ?_
  rw [if_pos ur]
  simp only
  refine Ev.bind (change_ev [⟨0, ⟨a, b⟩⟩] (by simp) f a b) ?_
  rw [changed ur ur (by omega) (by omega), e3]
  simp only [Option.bind_some]
  refine Ev.bind (change_ev [⟨0, ⟨a, b⟩⟩] (by simp) f c d) ?_
  rw [changed ur us (by omega) (by omega)]
  simp only [if_true]
  refine Ev.step (f := ?f) (fun k => ?h) ?g
  case h =>
    rw [soundservicelaw13_ClockChanges.j0, if_neg (by decide)]
  case g =>
    have p1 := Position_ev (one_valid ur) (t := f + w) (by omega) (by omega)
    have p2 := Position_ev (two_valid (u := f) ur ur (by omega) (by omega)) (t := f + w) (by omega) (by omega)
    have p3 := Position_ev (one_valid ur) (t := f) (by omega) (by omega)
    have p4 := Position_ev (two_valid (u := f) ur us (by omega) (by omega)) (t := f) (by omega) (by omega)
    refine Ev.bind p1 (Ev.bind p2 (Ev.bind p3 (Ev.bind p4 ?_)))
    rw [posS_eq (one_valid ur) (by omega), posS_eq (one_valid ur) (by omega), posS_eq (two_valid ur ur (by omega) (by omega)) (by omega), posS_eq (two_valid ur us (by omega) (by omega)) (by omega), posR_one _ _ _ (by omega), posR_one _ _ _ (by omega), posR_two _ _ _ _ _ _ (by omega), posR_two _ _ _ _ _ _ (by omega), if_neg (show ¬ f + w < f by omega), if_neg (show ¬ f < f by omega)]
    simp only [if_true]
    obtain ⟨v1, v2, _⟩ := usual_bounds ur
    have h1 := Int.ediv_mul_add_emod (f * a) b
    have h2 := Int.emod_nonneg (f * a) (show b ≠ 0 by omega)
    have h3 := Int.emod_lt_of_pos (f * a) (show 0 < b by omega)
    have g1 := Int.ediv_mul_add_emod (w * a) b
    have g2 := Int.emod_nonneg (w * a) (show b ≠ 0 by omega)
    have g3 := Int.emod_lt_of_pos (w * a) (show 0 < b by omega)
    have q1 := usual_quot ur (show 0 ≤ f by omega)
    have q2 := usual_quot ur (show 0 ≤ w by omega)
    rw [show f + w - f = w by omega, show f - f = 0 by omega]
    have hlo : f * a / b + w * a / b ≤ (f + w) * a / b := by
      rw [Int.le_ediv_iff_mul_le (by omega), Int.add_mul, Int.add_mul]
      omega
    have hhi : (f + w) * a / b < f * a / b + w * a / b + 2 := by
      apply Int.ediv_lt_of_lt_mul (by omega)
      rw [Int.add_mul, Int.add_mul, Int.add_mul]
      omega
    have hz : f * a / b + 0 * c / d = f * a / b := by simp
    rw [hz, w64 (n := f * a / b + w * a / b + 1) (by omega) (by omega)]
    by_cases hc : (f + w) * a / b = f * a / b + w * a / b
    · rw [if_pos hc, beq_self_eq_true]
      exact Ev.now _
    · rw [if_neg hc, if_pos (by omega), beq_self_eq_true]
      exact Ev.now _
end Go.Proofs.Ythnmmiofhjbkeaa.Pure
