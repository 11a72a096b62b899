/-
  The reference's Floor, Ceil and Rest compute the same.
-/
import Derived.Test.YthnmmiofhjbkeaaPAx23
import Derived.Test.YthnmmiofhjbkeaaXFloor
import Derived.Test.YthnmmiofhjbkeaaXValidR
namespace Go.Proofs.YthnmmiofhjbkeaaX
open Go.RowKit Go.Proofs.Ythnmmiofhjbkeaa.PA Go.Proofs.YthnmmiofhjbkeaaW.PrintWords Go.Proofs.YthnmmiofhjbkeaaW.PrintLast Go.Proofs.YthnmmiofhjbkeaaW.PrintMore
theorem divide_ev' {n a b : Int} (hn : -1125899906842624 ≤ n) (hn' : n ≤ 1125899906842624) (ha : 1 ≤ a) (ha' : a ≤ 68719476736) (hb : 1 ≤ b) (hb' : b ≤ 68719476736) :
    Ev (fun k => soundserviceref03_divide.f k n a b) (if inS (n * a / b) then (n * a / b, n * a % b, true) else (0, 0, false)) := by
  have core : ∀ m : Int, 0 ≤ m → m ≤ 1125899906842624 → (n < 0 → n = -m) → (¬ n < 0 → n = m) → Ev (fun k => soundserviceref03_divide.j0 k m (decide (n < 0)) a b) (if inS (n * a / b) then (n * a / b, n * a % b, true) else (0, 0, false)) := by
    intro m hm hm' en ep
    have hp0 : 0 ≤ m * a := Int.mul_nonneg hm (by omega)
    have hp1 : m * a ≤ 1125899906842624 * 68719476736 := Int.mul_le_mul hm' ha' (by omega) (by omega)
    refine Ev.step (f := fun k => _) (fun k => by simp only [soundserviceref03_divide.j0]; rfl) ?_
    rw [u64 (n := a) (by omega) (by omega), u64 (n := b) (by omega) (by omega), mul64 hm (by omega) (by omega) (by omega)]
    simp only [Option.bind_some]
    have e := Int.mul_ediv_add_emod (m * a) b
    have r0 := Int.emod_nonneg (m * a) (show b ≠ 0 by omega)
    have r1 := Int.emod_lt_of_pos (m * a) (show 0 < b by omega)
    have q0 : 0 ≤ m * a / b := Int.ediv_nonneg hp0 (by omega)
    have fn := floor_neg (p := m * a) (show 0 < b by omega)
    have sign : n < 0 → n * a = -(m * a) := fun h => by rw [en h]; grind
    simp only [inS]
    have out : m * a / b > 4611686018427387904 → ¬ (-4611686018427387904 ≤ n * a / b ∧ n * a / b ≤ 4611686018427387904) := by
      intro big
      by_cases hs : n < 0
      · rw [sign hs, fn.1]; split <;> omega
      · rw [ep hs]; omega
    by_cases c : m * a / 18446744073709551616 ≥ b
    · simp only [if_pos c]
      have big : 18446744073709551616 ≤ m * a / b := by
        rw [Int.le_ediv_iff_mul_le (by omega)]
        omega
      rw [if_neg (out (by omega))]; exact Ev.now _
    · simp only [if_neg c]
      refine Ev.bind (div64 (hi := m * a / 18446744073709551616) (lo := m * a % 18446744073709551616) (y := b) (by omega) (by omega) (by omega) (by omega) (by omega)) ?_
      have em : m * a / 18446744073709551616 * 18446744073709551616 + m * a % 18446744073709551616 = m * a := by omega
      rw [em]
      dsimp only
      by_cases c2 : m * a / b > 4611686018427387904
      · rw [if_pos c2, if_neg (out c2)]; exact Ev.now _
      · rw [if_neg c2, w64 (n := m * a % b) (by omega) (by omega), w64 (n := m * a / b) (by omega) (by omega), w64 (n := -(m * a / b)) (by omega) (by omega), w64 (n := -(m * a / b) - 1) (by omega) (by omega), w64 (n := b - m * a % b) (by omega) (by omega)]
        by_cases hs : n < 0
        · rw [if_pos (decide_eq_true hs)]
          obtain ⟨f1, f2⟩ := fn
          have s1 := sign hs
          by_cases hz : m * a % b = 0
          · rw [if_pos hz]
            rw [if_pos hz] at f1 f2
            rw [s1, f1, f2, if_pos (by omega)]; exact Ev.now _
          · rw [if_neg hz]
            rw [if_neg hz] at f1 f2
            rw [s1, f1, f2]
            by_cases hq : m * a / b = 4611686018427387904
            · rw [if_pos hq, if_neg (by omega)]; exact Ev.now _
            · rw [if_neg hq, if_pos (by omega)]; exact Ev.now _
        · rw [if_neg (by rw [decide_eq_true_iff]; exact hs), ep hs, if_pos (by omega)]; exact Ev.now _
  unfold soundserviceref03_divide.f
  by_cases hs : n < 0
  · simp only [if_pos hs]
    have e1 : IntKind.u64.wrap (-(IntKind.u64.wrap n)) = -n := by rw [u64m, u64m]; omega
    rw [e1]
    exact core (-n) (by omega) (by omega) (fun _ => by omega) (fun h => absurd hs h)
  · simp only [if_neg hs]
    rw [u64 (n := n) (by omega) (by omega)]
    exact core n (by omega) (by omega) (fun h => absurd h hs) (fun _ => rfl)
theorem floor_ev' (n a b : Int) : Ev (fun k => soundserviceref03_Floor.f k n a b) (floorS n a b) := by
  unfold soundserviceref03_Floor.f floorS
  refine Ev.bind (valid_ev' a b) ?_
  by_cases hv : validS a b = true
  · simp only [if_pos hv]
    by_cases h0 : n < -1125899906842624
    · have : checkS n a b = 2 := by unfold checkS; rw [if_pos hv, if_pos (Or.inl h0)]
      simp only [if_pos h0]
      rw [this, if_neg (by decide)]
      refine Ev.step (f := fun _ => some (0, 2)) (fun k => ?_) (Ev.now _)
      simp only [soundserviceref03_Floor.j0]; rw [if_pos trivial]
    · simp only [if_neg h0]
      by_cases h1 : n > 1125899906842624
      · have : checkS n a b = 2 := by unfold checkS; rw [if_pos hv, if_pos (Or.inr h1)]
        rw [this, if_neg (by decide)]
        refine Ev.step (f := fun _ => some (0, 2)) (fun k => ?_) (Ev.now _)
        simp only [soundserviceref03_Floor.j0]; rw [if_pos (decide_eq_true h1)]
      · rw [if_pos (checkS_zero.2 ⟨hv, by omega, by omega⟩), decide_eq_false h1]
        obtain ⟨v1, v2, v3, v4, _⟩ := validS_iff.1 hv
        refine Ev.step (f := fun k => _) (fun k => by simp only [soundserviceref03_Floor.j0]; rw [if_neg (by decide)]) (Ev.bind (divide_ev' (n := n) (a := a) (b := b) (by omega) (by omega) v1 v3 v2 v4) ?_)
        by_cases c : inS (n * a / b)
        · simp only [if_pos c]; exact Ev.now _
        · simp only [if_neg c]; exact Ev.now _
  · have : checkS n a b = 1 := by unfold checkS; rw [if_neg hv]
    simp only [if_neg hv]
    rw [this, if_neg (by decide)]; exact Ev.now _
end Go.Proofs.YthnmmiofhjbkeaaX
