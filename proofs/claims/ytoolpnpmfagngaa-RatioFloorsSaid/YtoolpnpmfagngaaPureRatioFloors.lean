/-
  The plain law behind RatioFloors: rounded multiples and rests, or the error, are the reference's, for any ratio and for valid ones.
  Conditions: none beyond the statement's own guards.
-/
import Derived.Test.YtoolpnpmfagngaaPAx0
import Derived.Test.YtoolpnpmfagngaaPAx12
import Derived.Test.YtoolpnpmfagngaaXLaw03
import Derived.Test.YtoolpnpmfagngaaXFloorR
namespace Go.Proofs.Ytoolpnpmfagngaa.Pure
open Go.RowKit Go.Proofs.Ytoolpnpmfagngaa.PA Go.Proofs.YtoolpnpmfagngaaX Go.Proofs.YtoolpnpmfagngaaW.PrintWords Go.Proofs.YtoolpnpmfagngaaW.PrintLast Go.Proofs.YtoolpnpmfagngaaW.PrintMore
theorem inner (x2 x3 n r0 r1 : Int) (ns : List Int) (N i : Int) (ys : List S23) (hl : (ys.length : Int) ≤ 3)
    (hnext : Ev (fun k => soundservicelaw03_RatioFloors.l0 k x2 x3 ns N (wrap64 (i + 1)) r0 r1) true) (d : Nat) :
    ∀ j : Int, 0 ≤ j → j ≤ ys.length → (ys.length : Int) - j = d → Ev (fun k => soundservicelaw03_RatioFloors.l1 k x2 x3 n ns N i ys ys.length j r0 r1) true := by
  induction d with
  | zero =>
    intro j h0 h1 hd
    refine Ev.step (f := fun k => _) (fun k => by simp only [soundservicelaw03_RatioFloors.l1]; rw [if_neg (by omega)]) hnext
  | succ d ih =>
    intro j h0 h1 hd
    refine Ev.step (f := fun k => _) (fun k => by simp only [soundservicelaw03_RatioFloors.l1]; rw [if_pos (by omega), if_pos h0, if_pos (by omega)]) ?_
    refine Ev.bind (floor_ev _ _ _) (Ev.bind (floor_ev' _ _ _) (Ev.bind (ceil_ev _ _ _) (Ev.bind (ceil_ev' _ _ _) (Ev.bind (rest_ev _ _ _) (Ev.bind (rest_ev' _ _ _) ?_)))))
    simp only [if_true]
    rw [w64 (by omega) (by omega)]
    exact ih (j + 1) (by omega) (by omega) (by omega)
theorem outer (x2 x3 r0 r1 : Int) (ns : List Int) (hl : (ns.length : Int) ≤ 3) (d : Nat) :
    ∀ i : Int, 0 ≤ i → i ≤ ns.length → (ns.length : Int) - i = d → Ev (fun k => soundservicelaw03_RatioFloors.l0 k x2 x3 ns ns.length i r0 r1) true := by
  induction d with
  | zero =>
    intro i h0 h1 hd
    refine Ev.step (f := fun _ => some true) (fun k => by simp only [soundservicelaw03_RatioFloors.l0]; rw [if_neg (by omega)]) (Ev.now _)
  | succ d ih =>
    intro i h0 h1 hd
    refine Ev.step (f := fun k => _) (fun k => by simp only [soundservicelaw03_RatioFloors.l0]; rw [if_pos (by omega), if_pos h0, if_pos (by omega)]) ?_
    obtain ⟨a, b, h, _⟩ := made_ev x2 x3
    obtain ⟨a', b', h', _⟩ := made_ev (Int.tmod x2 1000) (Int.tmod x3 1000)
    refine Ev.bind h (Ev.bind h' ?_)
    simp only [Option.bind_some]
    refine inner x2 x3 _ r0 r1 ns _ i _ (by simp) ?_ 3 0 (by omega) (by omega) (by simp)
    rw [w64 (by omega) (by omega)]
    exact ih (i + 1) (by omega) (by omega) (by omega)
theorem RatioFloors : soundservicelaw03_RatioFloors.Pure := by
  intro n r0 r1 a b _ _ _ _ _
  refine Ev.rounds (g := fun k => soundservicelaw03_RatioFloors.f k n r0 r1 a b) ?_
  unfold soundservicelaw03_RatioFloors.f
  refine Ev.bind sane_ev ?_
  simp only [if_true, Option.bind_some]
  exact outer a b r0 r1 _ (by simp) 3 0 (by omega) (by omega) (by simp)
end Go.Proofs.Ytoolpnpmfagngaa.Pure
