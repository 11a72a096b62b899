/-
  The plain law behind ControlBounds: bounds, demands and plans, or the error, as the reference has them.
  Conditions: none beyond the statement's own guards.
-/
import Derived.Test.YtcnheiemajghiaaPAx0
import Derived.Test.YtcnheiemajghiaaPAx17
import Derived.Test.YtcnheiemajghiaaPAx18
import Derived.Test.YtcnheiemajghiaaYRef
import Derived.Test.YtcnheiemajghiaaYMade
namespace Go.Proofs.Ytcnheiemajghiaa.Pure
open Go.RowKit Go.Proofs.Ytcnheiemajghiaa.PA Go.Proofs.YtcnheiemajghiaaX Go.Proofs.YtcnheiemajghiaaW.PrintWords Go.Proofs.YtcnheiemajghiaaW.PrintLast Go.Proofs.YtcnheiemajghiaaW.PrintMore
theorem inner (x3 x4 x5 x6 x7 x19 x20 : Int) (xs : List S23) (N i : Int) (ps : List S27) (M j : Int) (p0 q0 p1 q1 t d g m p q : Int) (ns : List S44) (hl : (ns.length : Int) ≤ 3)
    (hnext : Ev (fun k => soundservicelaw18_ControlBounds.l1 k x3 x4 x5 x6 x7 x19 x20 xs N i ps M (wrap64 (j + 1)) p0 q0 p1 q1 t d g m) true) (s : Nat) :
    ∀ h : Int, 0 ≤ h → h ≤ ns.length → (ns.length : Int) - h = s → Ev (fun k => soundservicelaw18_ControlBounds.l2 k x3 x4 x5 x6 x7 x19 x20 xs N i ps M j ns ns.length h p0 q0 p1 q1 t d g m p q) true := by
  induction s with
  | zero =>
    intro h h0 h1 hd
    refine Ev.step (f := fun k => _) (fun k => by simp only [soundservicelaw18_ControlBounds.l2]; rw [if_neg (by omega)]) ?_
    exact hnext
  | succ s ih =>
    intro h h0 h1 hd
    refine Ev.step (f := fun k => _) (fun k => by simp only [soundservicelaw18_ControlBounds.l2]; rw [if_pos (by omega), if_pos h0, if_pos (by omega)]) ?_
    refine Ev.bind (bound_ev _ _ _ _ _ _ _ _ _) (Ev.bind (rbound_ev _ _ _ _ _ _ _ _ _) (Ev.bind (demand_ev _ _ _ _ _ _ _ _) (Ev.bind (rdemand_ev _ _ _ _ _ _ _ _) ?_)))
    simp only [if_true, bne_self_eq_false]
    refine Ev.step (f := fun k => _) (fun k => by simp only [soundservicelaw18_ControlBounds.j3]; rfl) ?_
    refine Ev.step (f := fun k => _) (fun k => by simp only [soundservicelaw18_ControlBounds.j4]; rw [if_neg (by decide)]) ?_
    refine Ev.bind (plan_ev _ _ _ _ _ _) (Ev.bind (rplan_ev _ _ _ _ _ _) ?_)
    simp only [beq_self_eq_true, Bool.not_true, Bool.or_self, Bool.false_eq_true, if_false, if_true, bne_self_eq_false]
    refine Ev.step (f := fun k => _) (fun k => by simp only [soundservicelaw18_ControlBounds.j5]; rfl) ?_
    refine Ev.step (f := fun k => _) (fun k => by simp only [soundservicelaw18_ControlBounds.j6]; rw [if_neg (by decide)]) ?_
    rw [w64 (by omega) (by omega)]
    exact ih (h + 1) (by omega) (by omega) (by omega)
theorem middle (x3 x4 x5 x6 x7 x19 x20 : Int) (xs : List S23) (N i : Int) (p0 q0 p1 q1 t d g m : Int) (ps : List S27) (hl : (ps.length : Int) ≤ 3)
    (hnext : Ev (fun k => soundservicelaw18_ControlBounds.l0 k x3 x4 x5 x6 x7 x19 x20 xs N (wrap64 (i + 1)) p0 q0 p1 q1) true) (s : Nat) :
    ∀ j : Int, 0 ≤ j → j ≤ ps.length → (ps.length : Int) - j = s → Ev (fun k => soundservicelaw18_ControlBounds.l1 k x3 x4 x5 x6 x7 x19 x20 xs N i ps ps.length j p0 q0 p1 q1 t d g m) true := by
  induction s with
  | zero =>
    intro j h0 h1 hd
    refine Ev.step (f := fun k => _) (fun k => by simp only [soundservicelaw18_ControlBounds.l1]; rw [if_neg (by omega)]) ?_
    exact hnext
  | succ s ih =>
    intro j h0 h1 hd
    refine Ev.step (f := fun k => _) (fun k => by simp only [soundservicelaw18_ControlBounds.l1]; rw [if_pos (by omega), if_pos h0, if_pos (by omega)]) ?_
    simp only [Option.bind_some]
    refine inner x3 x4 x5 x6 x7 x19 x20 xs N i ps _ j p0 q0 p1 q1 t d g m _ _ _ (by simp) ?_ 2 0 (by omega) (by omega) (by simp)
    rw [w64 (by omega) (by omega)]
    exact ih (j + 1) (by omega) (by omega) (by omega)
theorem outer (x3 x4 x5 x6 x7 x19 x20 p0 q0 p1 q1 : Int) (xs : List S23) (hl : (xs.length : Int) ≤ 3) (s : Nat) :
    ∀ i : Int, 0 ≤ i → i ≤ xs.length → (xs.length : Int) - i = s → Ev (fun k => soundservicelaw18_ControlBounds.l0 k x3 x4 x5 x6 x7 x19 x20 xs xs.length i p0 q0 p1 q1) true := by
  induction s with
  | zero =>
    intro i h0 h1 hd
    refine Ev.step (f := fun _ => some true) (fun k => by simp only [soundservicelaw18_ControlBounds.l0]; rw [if_neg (by omega)]) (Ev.now _)
  | succ s ih =>
    intro i h0 h1 hd
    refine Ev.step (f := fun k => _) (fun k => by simp only [soundservicelaw18_ControlBounds.l0]; rw [if_pos (by omega), if_pos h0, if_pos (by omega)]) ?_
    simp only [Option.bind_some]
    refine middle x3 x4 x5 x6 x7 x19 x20 xs _ i p0 q0 p1 q1 _ _ _ _ _ (by simp) ?_ 2 0 (by omega) (by omega) (by simp)
    rw [w64 (by omega) (by omega)]
    exact ih (i + 1) (by omega) (by omega) (by omega)
theorem ControlBounds : soundservicelaw18_ControlBounds.Pure := by
  intro t d g m p q l a3 a4 a5 a6 a7 _ _ _ _ _ _ _ _ hl _ _ _ _ _
  refine Ev.rounds (g := fun k => soundservicelaw18_ControlBounds.f k t d g m p q l a3 a4 a5 a6 a7) ?_
  unfold soundservicelaw18_ControlBounds.f
  rw [csane]
  obtain ⟨l1, e1, b1⟩ := new_some (bytes_of hl)
  obtain ⟨t', d', g', m', p', q', k', j', l2, e2, _, _⟩ := made18_some b1
  rw [e1]
  simp only [Option.bind_some, if_true]
  rw [e2]
  simp only [Option.bind_some]
  exact outer _ _ _ _ _ _ _ _ _ _ _ _ (by simp) 2 0 (by omega) (by omega) (by simp)
end Go.Proofs.Ytcnheiemajghiaa.Pure
