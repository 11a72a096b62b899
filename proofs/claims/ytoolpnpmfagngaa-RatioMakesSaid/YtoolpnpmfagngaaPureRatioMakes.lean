/-
  The plain law behind RatioMakes: the program's Make and Valid answer as the reference's do.
  Conditions: none beyond the statement's own guards.
-/
import Derived.Test.YtoolpnpmfagngaaPAx9
import Derived.Test.YtoolpnpmfagngaaXLaw03
import Derived.Test.YtoolpnpmfagngaaXFloorR
namespace Go.Proofs.Ytoolpnpmfagngaa.Pure
open Go.RowKit Go.Proofs.Ytoolpnpmfagngaa.PA Go.Proofs.YtoolpnpmfagngaaX Go.Proofs.YtoolpnpmfagngaaW.PrintWords Go.Proofs.YtoolpnpmfagngaaW.PrintLast Go.Proofs.YtoolpnpmfagngaaW.PrintMore
theorem RatioMakes : soundservicelaw03_RatioMakes.Pure := by
  intro p q a b _ _ ha hb
  have ha := (i64_of ha).2
  have hb := (i64_of hb).2
  refine Ev.rounds (g := fun k => soundservicelaw03_RatioMakes.f k p q a b) ?_
  unfold soundservicelaw03_RatioMakes.f
  obtain ⟨x, y, hm, hv, _, _⟩ := made_ev a b
  refine Ev.bind sane_ev ?_
  simp only [if_true]
  refine Ev.bind (make_ev ha hb) (Ev.bind (make_ev' ha hb) (Ev.bind (valid_ev p q) (Ev.bind (valid_ev' p q) ?_)))
  simp only [beq_self_eq_true, if_true]
  refine Ev.bind hm (Ev.bind (valid_ev x y) ?_)
  simp only [hv, Bool.and_self, if_true]
  exact Ev.now _
end Go.Proofs.Ytoolpnpmfagngaa.Pure
