/-
  The plain law behind ControlAdjusts: which controls are valid, and adjustments, as the reference has them.
  Conditions: none beyond the statement's own guards.
-/
import Derived.Test.YtcnheiemajghiaaPAx0
import Derived.Test.YtcnheiemajghiaaPAx3
import Derived.Test.YtcnheiemajghiaaPAx4
import Derived.Test.YtcnheiemajghiaaYAdjust
import Derived.Test.YtcnheiemajghiaaYMade
namespace Go.Proofs.Ytcnheiemajghiaa.Pure
open Go.RowKit Go.Proofs.Ytcnheiemajghiaa.PA Go.Proofs.YtcnheiemajghiaaX Go.Proofs.YtcnheiemajghiaaW.PrintWords Go.Proofs.YtcnheiemajghiaaW.PrintLast Go.Proofs.YtcnheiemajghiaaW.PrintMore
theorem rvalid (t d g m : Int) : soundserviceref18_Valid.f t d g m = some (validC t d g m) := by
  unfold soundserviceref18_Valid.f validC
  repeat' split
  all_goals (congr 1; first | (rw [decide_eq_decide]; omega) | (symm; rw [decide_eq_false_iff_not]; omega))
theorem radjust (t d g m n : Int) : Ev (fun k => soundserviceref18_Adjust.f k t d g m n) (adjS t d g m n) := by
  have no : ¬ (validC t d g m = true ∧ 0 ≤ n ∧ n ≤ 2147483647) → Ev (fun k => soundserviceref18_Adjust.j0 k n true t d g m) (adjS t d g m n) := by
    intro h
    unfold adjS
    rw [if_neg h]
    refine Ev.step (f := fun _ => some 0) (fun k => ?_) (Ev.now _)
    simp only [soundserviceref18_Adjust.j0]; rw [if_pos trivial]
  unfold soundserviceref18_Adjust.f
  rw [rvalid]
  simp only [Option.bind_some]
  by_cases hv : validC t d g m = true
  · simp only [if_pos hv]
    obtain ⟨t0, t1, d0, d1, g0, g1, m0, m1⟩ := validC_iff.1 hv
    by_cases c1 : n < 0
    · simp only [if_pos c1]; exact no (by omega)
    · simp only [if_neg c1]
      by_cases c2 : n > 2147483647
      · rw [decide_eq_true c2]; exact no (by omega)
      · rw [decide_eq_false c2]
        refine Ev.step (f := fun k => _) (fun k => by simp only [soundserviceref18_Adjust.j0]; rw [if_neg (by decide)]) ?_
        have ea : adjS t d g m n = if n < t then -(sizeS d g m (t - n)) else sizeS d g m (n - t) := by
          unfold adjS; rw [if_pos (show validC t d g m = true ∧ 0 ≤ n ∧ n ≤ 2147483647 from ⟨hv, by omega, by omega⟩)]
        rw [ea, w64 (n := n - t) (by omega) (by omega), w64 (n := n - t - d) (by omega) (by omega), w64 (n := -d) (by omega) (by omega), w64 (n := -(n - t)) (by omega) (by omega), w64 (n := -(n - t) - d) (by omega) (by omega)]
        have prod : ∀ y : Int, 0 ≤ y → y ≤ 2147483648 → wrap64 (y * g) = y * g := fun y h0 h1 => by
          have p0 := Int.mul_nonneg h0 (show 0 ≤ g by omega)
          have p1 : y * g ≤ 2147483648 * 4096 := Int.mul_le_mul h1 g1 (by omega) (by omega)
          exact w64 (by omega) (by omega)
        by_cases c3 : n - t > d
        · rw [if_pos c3, if_neg (by omega), prod _ (by omega) (by omega)]
          have : sizeS d g m (n - t) = mn m ((n - t - d) * g) := by unfold sizeS; rw [show mx 0 (n - t - d) = n - t - d by unfold mx; rw [if_pos (by omega)]]
          rw [this]; exact Ev.now _
        · rw [if_neg c3]
          by_cases c4 : n - t < -d
          · rw [if_pos c4, if_pos (by omega), prod _ (by omega) (by omega)]
            have : sizeS d g m (t - n) = mn m ((-(n - t) - d) * g) := by
              unfold sizeS; rw [show mx 0 (t - n - d) = -(n - t) - d by unfold mx; rw [if_pos (by omega)]; omega]
            rw [← this]
            have := sizeS_in (d := d) (x := t - n) g0 m0
            rw [w64 (by omega) (by omega)]; exact Ev.now _
          · rw [if_neg c4]
            have z : ∀ x, x ≤ d → sizeS d g m x = 0 := fun x hx => by
              unfold sizeS; rw [show mx 0 (x - d) = 0 by unfold mx; split <;> omega, Int.zero_mul]; unfold mn; split <;> omega
            by_cases c5 : n < t
            · rw [if_pos c5, z _ (by omega)]; exact Ev.now _
            · rw [if_neg c5, z _ (by omega)]; exact Ev.now _
  · simp only [if_neg hv]
    exact no (fun h => hv h.1)
theorem inner (x2 t d g m : Int) (xs : List S23) (N i : Int) (ys : List Int) (hl : (ys.length : Int) ≤ 3)
    (hnext : Ev (fun k => soundservicelaw18_ControlAdjusts.l0 k x2 xs N (wrap64 (i + 1))) true) (s : Nat) :
    ∀ j : Int, 0 ≤ j → j ≤ ys.length → (ys.length : Int) - j = s → Ev (fun k => soundservicelaw18_ControlAdjusts.l1 k x2 xs N i ys ys.length j t d g m) true := by
  induction s with
  | zero =>
    intro j h0 h1 hd
    refine Ev.step (f := fun k => _) (fun k => by simp only [soundservicelaw18_ControlAdjusts.l1]; rw [if_neg (by omega), cvalid, rvalid]) ?_
    simp only [Option.bind_some, bne_self_eq_false, Bool.false_eq_true, if_false]
    exact hnext
  | succ s ih =>
    intro j h0 h1 hd
    refine Ev.step (f := fun k => _) (fun k => by simp only [soundservicelaw18_ControlAdjusts.l1]; rw [if_pos (by omega), if_pos h0, if_pos (by omega), cadjust]) ?_
    simp only [Option.bind_some]
    refine Ev.bind (radjust _ _ _ _ _) ?_
    simp only [if_true]
    rw [w64 (by omega) (by omega)]
    exact ih (j + 1) (by omega) (by omega) (by omega)
theorem outer (x2 : Int) (xs : List S23) (hl : (xs.length : Int) ≤ 3) (s : Nat) :
    ∀ i : Int, 0 ≤ i → i ≤ xs.length → (xs.length : Int) - i = s → Ev (fun k => soundservicelaw18_ControlAdjusts.l0 k x2 xs xs.length i) true := by
  induction s with
  | zero =>
    intro i h0 h1 hd
    refine Ev.step (f := fun _ => some true) (fun k => by simp only [soundservicelaw18_ControlAdjusts.l0]; rw [if_neg (by omega)]) (Ev.now _)
  | succ s ih =>
    intro i h0 h1 hd
    refine Ev.step (f := fun k => _) (fun k => by simp only [soundservicelaw18_ControlAdjusts.l0]; rw [if_pos (by omega), if_pos h0, if_pos (by omega)]) ?_
    simp only [Option.bind_some]
    refine inner x2 _ _ _ _ xs _ i _ (by simp) ?_ 2 0 (by omega) (by omega) (by simp)
    rw [w64 (by omega) (by omega)]
    exact ih (i + 1) (by omega) (by omega) (by omega)
theorem ControlAdjusts : soundservicelaw18_ControlAdjusts.Pure := by
  intro t d g m l n _ _ _ _ _ _ hl _
  refine Ev.rounds (g := fun k => soundservicelaw18_ControlAdjusts.f k t d g m l n) ?_
  unfold soundservicelaw18_ControlAdjusts.f
  rw [csane]
  obtain ⟨l1, e1, b1⟩ := new_some (bytes_of hl)
  obtain ⟨t', d', g', m', p, q, k', j', l2, e2, _, _⟩ := made18_some b1
  rw [e1]
  simp only [Option.bind_some, if_true]
  rw [e2]
  simp only [Option.bind_some]
  exact outer n _ (by simp) 2 0 (by omega) (by omega) (by simp)
end Go.Proofs.Ytcnheiemajghiaa.Pure
