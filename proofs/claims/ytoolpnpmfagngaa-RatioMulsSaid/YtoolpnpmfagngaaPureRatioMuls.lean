/-
  The plain law behind RatioMuls: products, inverses and comparisons, or the error, are the reference's, for any ratios and for valid ones.
  Conditions: none beyond the statement's own guards.
-/
import Derived.Test.YtoolpnpmfagngaaPAx0
import Derived.Test.YtoolpnpmfagngaaPAx21
import Derived.Test.YtoolpnpmfagngaaXLaw03
import Derived.Test.YtoolpnpmfagngaaXMulR
namespace Go.Proofs.Ytoolpnpmfagngaa.Pure
open Go.RowKit Go.Proofs.Ytoolpnpmfagngaa.PA Go.Proofs.YtoolpnpmfagngaaX Go.Proofs.YtoolpnpmfagngaaW.PrintWords Go.Proofs.YtoolpnpmfagngaaW.PrintLast Go.Proofs.YtoolpnpmfagngaaW.PrintMore
theorem inner (x4 x5 r0 r1 s0 s1 : Int) (xs : List S23) (N i : Int) (ys : List S23) (hl : (ys.length : Int) ≤ 3)
    (hnext : Ev (fun k => soundservicelaw03_RatioMuls.l0 k x4 x5 xs N (wrap64 (i + 1)) r0 r1) true) (d : Nat) :
    ∀ j : Int, 0 ≤ j → j ≤ ys.length → (ys.length : Int) - j = d → Ev (fun k => soundservicelaw03_RatioMuls.l1 k x4 x5 xs N i ys ys.length j r0 r1 s0 s1) true := by
  induction d with
  | zero =>
    intro j h0 h1 hd
    refine Ev.step (f := fun k => _) (fun k => by simp only [soundservicelaw03_RatioMuls.l1]; rw [if_neg (by omega)]) hnext
  | succ d ih =>
    intro j h0 h1 hd
    refine Ev.step (f := fun k => _) (fun k => by simp only [soundservicelaw03_RatioMuls.l1]; rw [if_pos (by omega), if_pos h0, if_pos (by omega)]) ?_
    refine Ev.bind (mul_ev _ _ _ _) (Ev.bind (mul_ev' _ _ _ _) (Ev.bind (inv_ev _ _) (Ev.bind (inv_ev' _ _) ?_)))
    simp only [beq_self_eq_true, Bool.not_true, Bool.or_self, Bool.false_eq_true, if_false, if_true]
    refine Ev.bind (cmp_ev _ _ _ _) (Ev.bind (cmp_ev' _ _ _ _) ?_)
    simp only [bne_self_eq_false]
    refine Ev.step (f := fun k => _) (fun k => by simp only [soundservicelaw03_RatioMuls.j2]; rfl) ?_
    refine Ev.step (f := fun k => _) (fun k => by simp only [soundservicelaw03_RatioMuls.j3]; rw [if_neg (by decide), w64 (by omega) (by omega)]) ?_
    exact ih (j + 1) (by omega) (by omega) (by omega)
theorem outer (x4 x5 r0 r1 : Int) (xs : List S23) (hl : (xs.length : Int) ≤ 3) (d : Nat) :
    ∀ i : Int, 0 ≤ i → i ≤ xs.length → (xs.length : Int) - i = d → Ev (fun k => soundservicelaw03_RatioMuls.l0 k x4 x5 xs xs.length i r0 r1) true := by
  induction d with
  | zero =>
    intro i h0 h1 hd
    refine Ev.step (f := fun _ => some true) (fun k => by simp only [soundservicelaw03_RatioMuls.l0]; rw [if_neg (by omega)]) (Ev.now _)
  | succ d ih =>
    intro i h0 h1 hd
    refine Ev.step (f := fun k => _) (fun k => by simp only [soundservicelaw03_RatioMuls.l0]; rw [if_pos (by omega), if_pos h0, if_pos (by omega)]) ?_
    obtain ⟨a, b, h, _⟩ := made_ev x4 x5
    refine Ev.bind h ?_
    simp only [Option.bind_some]
    refine inner x4 x5 r0 r1 _ _ xs _ i _ (by simp) ?_ 3 0 (by omega) (by omega) (by simp)
    rw [w64 (by omega) (by omega)]
    exact ih (i + 1) (by omega) (by omega) (by omega)
theorem RatioMuls : soundservicelaw03_RatioMuls.Pure := by
  intro p q r s a b c d _ _ _ _ _ _ _ _
  refine Ev.rounds (g := fun k => soundservicelaw03_RatioMuls.f k p q r s a b c d) ?_
  unfold soundservicelaw03_RatioMuls.f
  refine Ev.bind sane_ev ?_
  obtain ⟨x, y, h, _⟩ := made_ev a b
  simp only [if_true]
  refine Ev.bind h ?_
  simp only [Option.bind_some]
  exact outer c d r s _ (by simp) 2 0 (by omega) (by omega) (by simp)
end Go.Proofs.Ytoolpnpmfagngaa.Pure
