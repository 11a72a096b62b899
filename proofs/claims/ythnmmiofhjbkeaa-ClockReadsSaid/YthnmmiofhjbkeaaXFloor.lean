/-
  What the printed Floor, Ceil and Rest compute: quotients rounded downwards and upwards, rests, or the error.
-/
import Derived.Test.YthnmmiofhjbkeaaPAx4
import Derived.Test.YthnmmiofhjbkeaaPAx7
import Derived.Test.YthnmmiofhjbkeaaPAx9
import Derived.Test.YthnmmiofhjbkeaaXRatio
namespace Go.Proofs.YthnmmiofhjbkeaaX
open Go.RowKit Go.Proofs.Ythnmmiofhjbkeaa.PA Go.Proofs.YthnmmiofhjbkeaaW.PrintWords Go.Proofs.YthnmmiofhjbkeaaW.PrintLast Go.Proofs.YthnmmiofhjbkeaaW.PrintMore

/-- Is a quotient in range? -/
abbrev inS (f : Int) : Prop := -4611686018427387904 ≤ f ∧ f ≤ 4611686018427387904
def floorS (n a b : Int) : Int × Int := if checkS n a b = 0 then (if inS (n * a / b) then (n * a / b, 0) else (0, 2)) else (0, checkS n a b)
def restS (n a b : Int) : Int × Int := if checkS n a b = 0 then (if inS (n * a / b) then (n * a % b, 0) else (0, 2)) else (0, checkS n a b)
def ceilS (n a b : Int) : Int × Int := if checkS n a b = 0 then (if inS (-(-n * a / b)) then (-(-n * a / b), 0) else (0, 2)) else (0, checkS n a b)
theorem checkS_zero {n a b : Int} : checkS n a b = 0 ↔ validS a b = true ∧ -1125899906842624 ≤ n ∧ n ≤ 1125899906842624 := by
  unfold checkS
  by_cases h : validS a b = true
  · rw [if_pos h]
    by_cases c : n < -1125899906842624 ∨ n > 1125899906842624
    · rw [if_pos c]; simp; omega
    · rw [if_neg c]; simp [h]; omega
  · rw [if_neg h]; simp [h]
theorem floorS_ok {n a b : Int} (hv : validS a b = true) (h0 : -1125899906842624 ≤ n) (h1 : n ≤ 1125899906842624) (h : inS (n * a / b)) : floorS n a b = (n * a / b, 0) := by
  unfold floorS; rw [if_pos (checkS_zero.2 ⟨hv, h0, h1⟩), if_pos h]
theorem restS_ok {n a b : Int} (hv : validS a b = true) (h0 : -1125899906842624 ≤ n) (h1 : n ≤ 1125899906842624) (h : inS (n * a / b)) : restS n a b = (n * a % b, 0) := by
  unfold restS; rw [if_pos (checkS_zero.2 ⟨hv, h0, h1⟩), if_pos h]
theorem ceilS_ok {n a b : Int} (hv : validS a b = true) (h0 : -1125899906842624 ≤ n) (h1 : n ≤ 1125899906842624) (h : inS (-(-n * a / b))) : ceilS n a b = (-(-n * a / b), 0) := by
  unfold ceilS; rw [if_pos (checkS_zero.2 ⟨hv, h0, h1⟩), if_pos h]
/-- Rounded upwards it is the same, or one more where there is a rest. -/
theorem ceil_floor {n a b : Int} (hb : 0 < b) : -(-n * a / b) = (if n * a % b = 0 then n * a / b else n * a / b + 1) := by
  have := (floor_neg (p := n * a) hb).1
  rw [Int.neg_mul, this]
  split <;> omega
theorem both_ev (n a b : Int) : Ev (fun k => ratio_both.f k n a b) (if checkS n a b = 0 then (if inS (n * a / b) then (n * a / b, n * a % b, 0) else (0, 0, 2)) else (0, 0, checkS n a b)) := by
  unfold ratio_both.f
  refine Ev.bind (check_ev n a b) ?_
  by_cases hc : checkS n a b = 0
  · rw [if_pos hc]
    simp only [if_pos hc]
    obtain ⟨hv, h0, h1⟩ := checkS_zero.1 hc
    obtain ⟨v1, v2, v3, v4, _⟩ := validS_iff.1 hv
    refine Ev.bind (divide_ev h0 h1 v1 v3 v2 v4) ?_
    have cf := ceil_floor (n := n) (a := a) (show 0 < b by omega)
    unfold divS
    simp only [inS]
    by_cases c : -4611686018427387905 ≤ n * a / b ∧ n * a / b ≤ 4611686018427387904 ∧ (n < 0 → -4611686018427387904 ≤ -(-n * a / b))
    · rw [if_pos c]
      dsimp only
      rw [if_pos rfl]
      by_cases c2 : n * a / b < -4611686018427387904
      · rw [if_pos c2, if_neg (by omega)]; exact Ev.now _
      · rw [if_neg c2, if_pos (by omega)]; exact Ev.now _
    · rw [if_neg c]
      dsimp only
      rw [if_neg (by decide), if_neg]
      · exact Ev.now _
      · rintro ⟨c1, c2⟩
        apply c
        refine ⟨by omega, c2, fun _ => ?_⟩
        rw [cf]; split <;> omega
  · rw [if_neg hc]
    simp only [if_neg hc]
    exact Ev.now _
theorem floor_ev (n a b : Int) : Ev (fun k => ratio_Floor.f k n a b) (floorS n a b) := by
  unfold ratio_Floor.f floorS
  refine Ev.bind (both_ev n a b) ?_
  split
  · split <;> exact Ev.now _
  · exact Ev.now _
theorem ceil_ev (n a b : Int) : Ev (fun k => ratio_Ceil.f k n a b) (ceilS n a b) := by
  unfold ratio_Ceil.f ceilS
  refine Ev.bind (check_ev n a b) ?_
  by_cases hc : checkS n a b = 0
  · rw [if_pos hc]
    simp only [if_pos hc]
    obtain ⟨hv, h0, h1⟩ := checkS_zero.1 hc
    obtain ⟨v1, v2, v3, v4, _⟩ := validS_iff.1 hv
    refine Ev.bind (divide_ev h0 h1 v1 v3 v2 v4) ?_
    have cf := ceil_floor (n := n) (a := a) (show 0 < b by omega)
    have r0 := Int.emod_nonneg (n * a) (show b ≠ 0 by omega)
    unfold divS
    simp only [inS]
    by_cases c : -4611686018427387905 ≤ n * a / b ∧ n * a / b ≤ 4611686018427387904 ∧ (n < 0 → -4611686018427387904 ≤ -(-n * a / b))
    · simp only [if_pos c, if_true]
      by_cases hr : n * a % b > 0
      · rw [if_neg (by omega)] at cf
        rw [decide_eq_true hr]
        by_cases c2 : n * a / b + 1 < -4611686018427387904
        · rw [if_neg (by omega)]
          refine Ev.step (f := fun _ => some (0, 2)) (fun k => ?_) (Ev.now _)
          simp only [ratio_Ceil.j0]
          rw [if_pos trivial, if_pos trivial, w64 (by omega) (by omega), if_pos c2]
        · by_cases c3 : n * a / b + 1 > 4611686018427387904
          · rw [if_neg (by omega)]
            refine Ev.step (f := fun _ => some (0, 2)) (fun k => ?_) (Ev.now _)
            simp only [ratio_Ceil.j0]
            rw [if_pos trivial, if_pos trivial, w64 (by omega) (by omega), if_neg c2, if_pos c3]
          · rw [if_pos (by omega), cf]
            refine Ev.step (f := fun _ => some (n * a / b + 1, 0)) (fun k => ?_) (Ev.now _)
            simp only [ratio_Ceil.j0]
            rw [if_pos trivial, if_pos trivial, w64 (by omega) (by omega), if_neg c2, if_neg c3]
      · rw [if_pos (by omega)] at cf
        rw [decide_eq_false hr]
        by_cases c2 : n * a / b < -4611686018427387904
        · rw [if_neg (by omega)]
          refine Ev.step (f := fun _ => some (0, 2)) (fun k => ?_) (Ev.now _)
          simp only [ratio_Ceil.j0]
          rw [if_neg (by decide), if_pos trivial, if_pos c2]
        · rw [if_pos (by omega), cf]
          refine Ev.step (f := fun _ => some (n * a / b, 0)) (fun k => ?_) (Ev.now _)
          simp only [ratio_Ceil.j0]
          rw [if_neg (by decide), if_pos trivial, if_neg c2, if_neg (by omega)]
    · simp only [if_neg c]
      rw [if_neg]
      · refine Ev.step (f := fun _ => some (0, 2)) (fun k => ?_) (Ev.now _)
        simp only [ratio_Ceil.j0, Bool.false_eq_true, if_false]
      · rintro ⟨c1, c2⟩
        apply c
        rw [cf] at c1 c2
        refine ⟨?_, ?_, fun _ => ?_⟩
        · split at c1 <;> omega
        · split at c2 <;> omega
        · rw [cf]; exact c1
  · rw [if_neg hc]
    simp only [if_neg hc]
    exact Ev.now _
end Go.Proofs.YthnmmiofhjbkeaaX
