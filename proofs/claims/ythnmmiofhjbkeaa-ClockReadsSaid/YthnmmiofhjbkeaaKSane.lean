/-
  The example of the chapter about clocks: it comes out as the document says.
-/
import Derived.Test.YthnmmiofhjbkeaaPAx10
import Derived.Test.YthnmmiofhjbkeaaPAx11
import Derived.Test.YthnmmiofhjbkeaaPAx2
import Derived.Test.YthnmmiofhjbkeaaPAx3
import Derived.Test.YthnmmiofhjbkeaaPAx4
import Derived.Test.YthnmmiofhjbkeaaPAx9
import Derived.Test.YthnmmiofhjbkeaaKTime
namespace Go.Proofs.YthnmmiofhjbkeaaX
open Go.RowKit Go.Proofs.Ythnmmiofhjbkeaa.PA Go.Proofs.YthnmmiofhjbkeaaW.PrintWords Go.Proofs.YthnmmiofhjbkeaaW.PrintLast Go.Proofs.YthnmmiofhjbkeaaW.PrintMore
theorem sane13_ev : Ev (fun k => soundservicelaw13_sane.f k) true := by
  have u1 : usualS 1 2 = true := by decide +kernel
  have u2 : usualS 1 1 = true := by decide +kernel
  have v1 : vclockS [⟨0, ⟨1, 2⟩⟩] = true := by decide +kernel
  have v2 : vclockS [⟨0, ⟨1, 2⟩⟩, ⟨3, ⟨1, 1⟩⟩] = true := by decide +kernel
  unfold soundservicelaw13_sane.f
  refine Ev.bind (new_ev 1 2) ?_
  rw [if_pos u1]
  refine Ev.bind (change_ev [⟨0, ⟨1, 2⟩⟩] (by decide) 3 1 1) ?_
  rw [show changeS [⟨0, ⟨1, 2⟩⟩] 3 1 1 = ([⟨0, ⟨1, 2⟩⟩, ⟨3, ⟨1, 1⟩⟩], 0) by
    unfold changeS
    rw [if_pos v1, if_neg (by decide), if_pos u2, if_neg (by decide)]
    rfl]
  have p5 : posS [⟨0, ⟨1, 2⟩⟩, ⟨3, ⟨1, 1⟩⟩] 5 = 3 := by rw [posS_eq v2 (by decide), posR_two _ _ _ _ _ _ (by decide)]; decide
  have p3 : posS [⟨0, ⟨1, 2⟩⟩, ⟨3, ⟨1, 1⟩⟩] 3 = 1 := by rw [posS_eq v2 (by decide), posR_two _ _ _ _ _ _ (by decide)]; decide
  have t2 : timeofS [⟨0, ⟨1, 2⟩⟩, ⟨3, ⟨1, 1⟩⟩] 2 = (4, 0) := by decide +kernel
  refine Ev.bind (Position_ev v2 (by decide) (by decide)) (Ev.bind (Position_ev v2 (by decide) (by decide)) (Ev.bind (timeof_ev v2 2) ?_))
  rw [p5, p3, if_neg (by decide), t2]
  simp only [if_true]
  refine Ev.bind (valid_clock _ (by decide)) ?_
  rw [v2]
  exact Ev.step (f := fun k => soundservicelaw13_sane.j1 k true) (fun k => by simp only [soundservicelaw13_sane.j0]) (Ev.step (f := fun _ => some true) (fun k => by simp only [soundservicelaw13_sane.j1]) (Ev.now _))
end Go.Proofs.YthnmmiofhjbkeaaX
