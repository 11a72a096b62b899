/-
  What the printed Valid and Adjust of control compute.
-/
import Derived.Test.YtcnheiemajghiaaPAx2
import Derived.Test.YtcnheiemajghiaaXPlain
namespace Go.Proofs.YtcnheiemajghiaaX
open Go.RowKit Go.Proofs.Ytcnheiemajghiaa.PA Go.Proofs.YtcnheiemajghiaaW.PrintWords Go.Proofs.YtcnheiemajghiaaW.PrintLast Go.Proofs.YtcnheiemajghiaaW.PrintMore
/-- A control: target, dead zone, gain, greatest adjustment. -/
def validC (t d g m : Int) : Bool := decide (0 ≤ t ∧ t ≤ 65536 ∧ 0 ≤ d ∧ d ≤ 65536 ∧ 1 ≤ g ∧ g ≤ 4096 ∧ 0 ≤ m ∧ m ≤ 4096)
theorem validC_iff {t d g m : Int} : validC t d g m = true ↔ 0 ≤ t ∧ t ≤ 65536 ∧ 0 ≤ d ∧ d ≤ 65536 ∧ 1 ≤ g ∧ g ≤ 4096 ∧ 0 ≤ m ∧ m ≤ 4096 := by unfold validC; exact decide_eq_true_iff
theorem cvalid (t d g m : Int) : control_Valid.f t d g m = some (validC t d g m) := by
  unfold control_Valid.f validC
  repeat' split
  all_goals (congr 1; first | (rw [decide_eq_decide]; omega) | (symm; rw [decide_eq_false_iff_not]; omega))
/-- How far an adjustment goes. -/
def sizeS (d g m x : Int) : Int := mn m (mx 0 (x - d) * g)
def adjS (t d g m n : Int) : Int := if validC t d g m = true ∧ 0 ≤ n ∧ n ≤ 2147483647 then (if n < t then -(sizeS d g m (t - n)) else sizeS d g m (n - t)) else 0
theorem sizeS_in {d g m x : Int} (hg : 1 ≤ g) (hm : 0 ≤ m) : 0 ≤ sizeS d g m x ∧ sizeS d g m x ≤ m := by
  have : 0 ≤ mx 0 (x - d) * g := Int.mul_nonneg (by unfold mx; split <;> omega) (by omega)
  unfold sizeS mn; split <;> omega
theorem csize {d g m x : Int} (d0 : 0 ≤ d) (d1 : d ≤ 65536) (g0 : 1 ≤ g) (g1 : g ≤ 4096) (x0 : -2147483648 ≤ x) (x1 : x ≤ 2147483648) : control_Adjust.size d g m x = sizeS d g m x := by
  unfold control_Adjust.size sizeS
  rw [w64 (n := x - d) (by omega) (by omega)]
  have b : 0 ≤ mx 0 (x - d) ∧ mx 0 (x - d) ≤ 2147483648 := by unfold mx; split <;> omega
  have p0 := Int.mul_nonneg b.1 (show 0 ≤ g by omega)
  have p1 : mx 0 (x - d) * g ≤ 2147483648 * 4096 := Int.mul_le_mul b.2 g1 (by omega) (by omega)
  rw [w64 (by omega) (by omega)]
theorem cadjust (t d g m n : Int) : control_Adjust.f t d g m n = some (adjS t d g m n) := by
  unfold control_Adjust.f adjS
  rw [cvalid]
  simp only [Option.bind_some]
  by_cases hv : validC t d g m = true
  · obtain ⟨t0, t1, d0, d1, g0, g1, m0, m1⟩ := validC_iff.1 hv
    rw [if_pos hv]
    by_cases c1 : n < 0
    · rw [if_pos c1, if_neg (by omega)]
    · by_cases c2 : n > 2147483647
      · rw [if_neg c1, if_pos c2, if_neg (by omega)]
      · rw [if_neg c1, if_neg c2, if_pos (show validC t d g m = true ∧ 0 ≤ n ∧ n ≤ 2147483647 from ⟨hv, by omega, by omega⟩)]
        by_cases c3 : n < t
        · rw [if_pos c3, if_pos c3, w64 (n := t - n) (by omega) (by omega), csize d0 d1 g0 g1 (by omega) (by omega)]
          have := sizeS_in (d := d) (x := t - n) g0 m0
          rw [w64 (by omega) (by omega)]
        · rw [if_neg c3, if_neg c3, w64 (n := n - t) (by omega) (by omega), csize d0 d1 g0 g1 (by omega) (by omega)]
  · rw [if_neg hv, if_neg (fun h => hv h.1)]
theorem csane : soundservicelaw18_sane.f = some true := by
  unfold soundservicelaw18_sane.f
  simp only [cvalid, cadjust, Option.bind_some]
  decide +kernel
end Go.Proofs.YtcnheiemajghiaaX
