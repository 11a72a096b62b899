/-
  The plain law behind ClockDoubles: a clock with twice the rate has counted twice the frames, or one more.
  Conditions: none beyond the statement's own guards.
-/
import Derived.Test.YthnmmiofhjbkeaaPAx21
import Derived.Test.YthnmmiofhjbkeaaKSane
namespace Go.Proofs.Ythnmmiofhjbkeaa.Pure
open Go.RowKit Go.Proofs.Ythnmmiofhjbkeaa.PA Go.Proofs.YthnmmiofhjbkeaaX Go.Proofs.YthnmmiofhjbkeaaW.PrintWords Go.Proofs.YthnmmiofhjbkeaaW.PrintLast Go.Proofs.YthnmmiofhjbkeaaW.PrintMore
theorem u8_of {a : Int} (h : (Lit.int .u8 a).wf = true) : 0 ≤ a ∧ a ≤ 255 := by
  simp [Lit.wf, IntKind.min, IntKind.max, IntKind.signed, IntKind.bits] at h; exact h
theorem u32_of {a : Int} (h : (Lit.int .u32 a).wf = true) : 0 ≤ a ∧ a ≤ 4294967295 := by
  simp [Lit.wf, IntKind.min, IntKind.max, IntKind.signed, IntKind.bits] at h; exact h
/-- A small ratio in lowest terms is one that a clock may have; it is worth what it was made of. -/
theorem made_small {a b : Int} (ha : 1 ≤ a) (ha' : a ≤ 512) (hb : 1 ≤ b) (hb' : b ≤ 256) : ∃ x y, makeS a b = (x, y, 0) ∧ usualS x y = true ∧ ∀ t : Int, t * x / y = t * a / b := by
  obtain ⟨g, hg, hm, hv, x1, y1, x2, y2⟩ := makeS_valid ha hb (by omega) (by omega)
  obtain ⟨w1, w2, _⟩ := validS_iff.1 hv
  generalize a / g = x at *
  generalize b / g = y at *
  refine ⟨x, y, hm, usualS_iff.2 ⟨hv, by omega, by omega⟩, fun t => ?_⟩
  rw [← x2, ← y2, ← Int.mul_assoc, Int.mul_ediv_mul_of_pos_left _ _ (by omega)]
theorem ClockDoubles : soundservicelaw13_ClockDoubles.Pure := by
  intro a b t ha hb ht
  obtain ⟨a0, a1⟩ := u8_of ha
  obtain ⟨b0, b1⟩ := u8_of hb
  obtain ⟨t0, t1⟩ := u32_of ht
  refine Ev.rounds (g := fun k => soundservicelaw13_ClockDoubles.f k a b t) ?_
  unfold soundservicelaw13_ClockDoubles.f
  refine Ev.bind sane13_ev ?_
  simp only [if_true]
  rw [w64 (n := a) (by omega) (by omega), w64 (n := b) (by omega) (by omega), w64 (n := t) (by omega) (by omega), w64 (n := 1 + a) (by omega) (by omega), w64 (n := 1 + b) (by omega) (by omega), w64 (n := 2 * a) (by omega) (by omega), w64 (n := 2 + 2 * a) (by omega) (by omega)]
  obtain ⟨x, y, e1, u1, q1⟩ := made_small (a := 1 + a) (b := 1 + b) (by omega) (by omega) (by omega) (by omega)
  obtain ⟨z, v, e2, u2, q2⟩ := made_small (a := 2 + 2 * a) (b := 1 + b) (by omega) (by omega) (by omega) (by omega)
  refine Ev.bind (make_ev' (a := 1 + a) (b := 1 + b) (by omega) (by omega)) (Ev.bind (make_ev' (a := 2 + 2 * a) (b := 1 + b) (by omega) (by omega)) ?_)
  rw [e1, e2]
  simp only
  refine Ev.bind (new_ev x y) (Ev.bind (new_ev z v) ?_)
  rw [if_pos u1, if_pos u2]
  simp only
  have hv1 : vclockS [⟨0, ⟨x, y⟩⟩] = true := by simp [vclockS, goodS, u1]
  have hv2 : vclockS [⟨0, ⟨z, v⟩⟩] = true := by simp [vclockS, goodS, u2]
  refine Ev.bind (Position_ev hv1 t0 (by omega)) (Ev.bind (Position_ev hv2 t0 (by omega)) ?_)
  rw [posS_eq hv1 t0, posS_eq hv2 t0, posR_one _ _ _ (by omega), posR_one _ _ _ (by omega), q1, q2]
  simp only [if_true]
  have hq0 : 0 ≤ t * (1 + a) / (1 + b) := Int.ediv_nonneg (Int.mul_nonneg t0 (by omega)) (by omega)
  have hq1 : t * (1 + a) / (1 + b) ≤ t * (1 + a) := Int.ediv_le_self _ (Int.mul_nonneg t0 (by omega))
  have hq2 : t * (1 + a) ≤ 4294967295 * 256 := Int.mul_le_mul t1 (by omega) (by omega) (by omega)
  have he : t * (2 + 2 * a) = 2 * (t * (1 + a)) := by rw [show 2 + 2 * a = 2 * (1 + a) by omega, ← Int.mul_assoc, Int.mul_comm t 2, Int.mul_assoc]
  rw [he]
  generalize t * (1 + a) = p at *
  generalize hd : 1 + b = d at *
  have h1 := Int.ediv_mul_add_emod p d
  have h2 := Int.emod_nonneg p (show d ≠ 0 by omega)
  have h3 := Int.emod_lt_of_pos p (show 0 < d by omega)
  have hlo : 2 * (p / d) ≤ 2 * p / d := by
    rw [Int.le_ediv_iff_mul_le (by omega), Int.mul_assoc]
    omega
  have hhi : 2 * p / d < 2 * (p / d) + 2 := by
    apply Int.ediv_lt_of_lt_mul (by omega)
    rw [Int.add_mul, Int.mul_assoc]
    omega
  rw [w64 (n := 2 * (p / d)) (by omega) (by omega), w64 (n := 2 * (p / d) + 1) (by omega) (by omega)]
  by_cases c : 2 * p / d = 2 * (p / d)
  · rw [if_pos c]
    exact Ev.now _
  · rw [if_neg c, show (2 * p / d == 2 * (p / d) + 1) = true by rw [beq_iff_eq]; omega]
    exact Ev.now _
end Go.Proofs.Ythnmmiofhjbkeaa.Pure
