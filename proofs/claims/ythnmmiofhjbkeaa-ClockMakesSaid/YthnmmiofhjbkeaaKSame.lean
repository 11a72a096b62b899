/-
  Equal clocks are the same.
-/
import Derived.Test.YthnmmiofhjbkeaaPAx14
import Derived.Test.YthnmmiofhjbkeaaKRef
namespace Go.Proofs.YthnmmiofhjbkeaaX
open Go.RowKit Go.Proofs.Ythnmmiofhjbkeaa.PA Go.Proofs.YthnmmiofhjbkeaaW.PrintWords Go.Proofs.YthnmmiofhjbkeaaW.PrintLast Go.Proofs.YthnmmiofhjbkeaaW.PrintMore
theorem same_l0 (l : List S61) (hl : (l.length : Int) ≤ 1000) : ∀ (d j : Nat), d = l.length - j → j ≤ l.length → Ev (fun k => soundserviceref13_Same.l0 k (l.length : Int) j l l) true := by
  intro d
  induction d with
  | zero =>
    intro j hd hj
    refine Ev.step (f := fun _ => some true) (fun k => ?_) (Ev.now _)
    rw [soundserviceref13_Same.l0, if_neg (by omega)]
  | succ d ih =>
    intro j hd hj
    refine Ev.step (f := fun k => soundserviceref13_Same.l0 k (l.length : Int) ((j + 1 : Nat) : Int) l l) (fun k => ?_) (ih (j + 1) (by omega) (by omega))
    have e1 : wrap64 ((j : Int) + 1) = ((j + 1 : Nat) : Int) := by rw [w64 (by omega) (by omega)]; omega
    rw [soundserviceref13_Same.l0, if_pos (by omega), if_pos (by omega), if_pos (by omega), if_pos (by omega), if_neg (by simp), e1]
theorem same_ev (l : List S61) (hl : (l.length : Int) ≤ 1000) : Ev (fun k => soundserviceref13_Same.f k l l) true := by
  unfold soundserviceref13_Same.f
  simp only [if_true]
  exact same_l0 l hl l.length 0 (by omega) (by omega)
end Go.Proofs.YthnmmiofhjbkeaaX
