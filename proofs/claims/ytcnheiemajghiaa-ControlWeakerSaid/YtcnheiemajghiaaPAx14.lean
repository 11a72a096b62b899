/- Walks of functions of the program: each does what its Lean function says. Written by a program of this session (wip/xprint), which runs the printer of the kit with changes. -/
import Derived.Test.YtcnheiemajghiaaPAx0
import Derived.Test.YtcnheiemajghiaaPAx1
import Derived.Test.YtcnheiemajghiaaPAx2
import Derived.Test.YtcnheiemajghiaaPAx3
import Derived.Test.YtcnheiemajghiaaPAx7
import Derived.Test.YtcnheiemajghiaaPAx11
import Derived.Test.YtcnheiemajghiaaPAx12
namespace Go.Proofs.Ytcnheiemajghiaa.PA
open Go.RowKit Go.Proofs.YtcnheiemajghiaaW.PrintWords Go.Proofs.YtcnheiemajghiaaW.PrintLast Go.Proofs.YtcnheiemajghiaaW.PrintMore
attribute [local go_sem] max2_int min2_int max_two min_two max_three min_three max_four min_four   -- for this text's walks alone
set_option linter.unusedVariables false
set_option linter.unusedSimpArgs false

/-! ### soundservicelaw18_ControlWeaker: function 7 -/
mutual
def soundservicelaw18_ControlWeaker.j1 : Nat → Bool → Option (Bool)
 | 0, _ => none
 | k + 1, x8 => some x8
def soundservicelaw18_ControlWeaker.j0 : Nat → Bool → Option (Bool)
 | 0, _ => none
 | k + 1, x8 => soundservicelaw18_ControlWeaker.j1 k x8
end
def soundservicelaw18_ControlWeaker.f (k : Nat) (l0 : List Int) (a1 : Int) (a2 : Int) (a3 : Int) : Option (Bool) := (soundservicelaw18_sane.f).bind fun t294 => (if t294 = true then ((soundservicemade_New.f l0).bind fun t295 => ((soundservicelaw18_made.f t295).bind fun bt297 => ((control_Bound.f k 0 3 5 2000 bt297.2.2.2.2.1 bt297.2.2.2.2.2.1 (wrap64 (a1)) (wrap64 (a2)) (wrap64 (a3))).bind fun bt309 => ((control_Bound.f k 0 3 5 2000 bt297.2.2.2.2.1 bt297.2.2.2.2.2.1 (wrap64 ((wrap64 (a1)) + (wrap64 (a3)))) (wrap64 (a2)) (wrap64 (a3))).bind fun bt311 => ((control_Bound.f k 0 3 5 2000 bt297.2.2.2.2.1 bt297.2.2.2.2.2.1 (wrap64 (a1)) (wrap64 ((wrap64 (a2)) + (wrap64 (a3)))) (wrap64 (2 * (wrap64 (a3))))).bind fun bt313 => ((control_Demand.f k 0 3 5 2000 bt297.2.2.2.2.1 bt297.2.2.2.2.2.1 (wrap64 (a1)) (wrap64 (a2))).bind fun bt315 => ((control_Demand.f k 0 3 5 2000 bt297.2.2.2.2.1 bt297.2.2.2.2.2.1 (wrap64 ((wrap64 (a1)) + (wrap64 (a3)))) (wrap64 ((wrap64 (a2)) + (wrap64 (a3))))).bind fun bt317 => ((control_Plan.f k bt297.2.2.2.2.1 bt297.2.2.2.2.2.1 (wrap64 (a1)) (wrap64 (a2)) 4 9).bind fun bt319 => ((control_Plan.f k bt297.2.2.2.2.1 bt297.2.2.2.2.2.1 (wrap64 ((wrap64 (a1)) + (wrap64 (a3)))) (wrap64 ((wrap64 (a2)) + (wrap64 (a3)))) 4 9).bind fun bt326 => (if bt309.2 = 0 then (if bt311.2 = 0 then (if bt313.2 = 0 then (if bt315.2 = 0 then (if bt317.2 = 0 then (if bt309.1 ≤ bt311.1 then (if bt309.1 ≤ bt313.1 then (if bt315.1 ≤ bt317.1 then (if bt319.2.2.2.2.2 = 0 then (if bt326.2.2.2.2.2 = 0 then (if bt319.1 ≤ bt326.1 then (if bt319.2.2.2.2.1 ≤ bt326.2.2.2.2.1 then (soundservicelaw18_ControlWeaker.j0 k (decide (bt319.2.2.2.1 ≤ bt326.2.2.2.1))) else (soundservicelaw18_ControlWeaker.j0 k false)) else (soundservicelaw18_ControlWeaker.j0 k false)) else (soundservicelaw18_ControlWeaker.j0 k true)) else (soundservicelaw18_ControlWeaker.j0 k true)) else (soundservicelaw18_ControlWeaker.j0 k false)) else (soundservicelaw18_ControlWeaker.j0 k false)) else (soundservicelaw18_ControlWeaker.j0 k false)) else (soundservicelaw18_ControlWeaker.j0 k false)) else (soundservicelaw18_ControlWeaker.j0 k false)) else (soundservicelaw18_ControlWeaker.j0 k false)) else (soundservicelaw18_ControlWeaker.j0 k false)) else (soundservicelaw18_ControlWeaker.j0 k false))))))))))) else (some false))
theorem soundservicelaw18_ControlWeaker.mono_l : ∀ k, (∀ y0, LeO (soundservicelaw18_ControlWeaker.j1 k y0) (soundservicelaw18_ControlWeaker.j1 (k + 1) y0)) ∧ (∀ y0, LeO (soundservicelaw18_ControlWeaker.j0 k y0) (soundservicelaw18_ControlWeaker.j0 (k + 1) y0))
 | 0 => ⟨fun _ r h => by simp [soundservicelaw18_ControlWeaker.j1] at h, fun _ r h => by simp [soundservicelaw18_ControlWeaker.j0] at h⟩
 | k + 1 => by
  obtain ⟨ih0, ih1⟩ := soundservicelaw18_ControlWeaker.mono_l k
  refine ⟨?_, ?_⟩
  ·intro y0
   unfold soundservicelaw18_ControlWeaker.j1
   repeat' first
   | (with_reducible exact ih0 _)
   | (with_reducible exact ih1 _)
   | (with_reducible exact control_Bound.mono _ _ _ _ _ _ _ _ _ _)
   | (with_reducible exact control_Demand.mono _ _ _ _ _ _ _ _ _)
   | (with_reducible exact control_Plan.mono _ _ _ _ _ _ _)
   | (with_reducible exact LeO.refl _)
   | (with_reducible exact LeO.none _)
   | (with_reducible refine LeO.ite ?_ ?_)
   | (with_reducible refine LeO.bind ?_ (fun _ => ?_))
   | exact ih0 _
   | exact ih1 _
   | exact control_Bound.mono _ _ _ _ _ _ _ _ _ _
   | exact control_Demand.mono _ _ _ _ _ _ _ _ _
   | exact control_Plan.mono _ _ _ _ _ _ _
   | exact LeO.none _
   | refine LeO.ite ?_ ?_
   | refine LeO.bind ?_ (fun _ => ?_)
  ·intro y0
   unfold soundservicelaw18_ControlWeaker.j0
   repeat' first
   | (with_reducible exact ih0 _)
   | (with_reducible exact ih1 _)
   | (with_reducible exact control_Bound.mono _ _ _ _ _ _ _ _ _ _)
   | (with_reducible exact control_Demand.mono _ _ _ _ _ _ _ _ _)
   | (with_reducible exact control_Plan.mono _ _ _ _ _ _ _)
   | (with_reducible exact LeO.refl _)
   | (with_reducible exact LeO.none _)
   | (with_reducible refine LeO.ite ?_ ?_)
   | (with_reducible refine LeO.bind ?_ (fun _ => ?_))
   | exact ih0 _
   | exact ih1 _
   | exact control_Bound.mono _ _ _ _ _ _ _ _ _ _
   | exact control_Demand.mono _ _ _ _ _ _ _ _ _
   | exact control_Plan.mono _ _ _ _ _ _ _
   | exact LeO.none _
   | refine LeO.ite ?_ ?_
   | refine LeO.bind ?_ (fun _ => ?_)
theorem soundservicelaw18_ControlWeaker.mono : ∀ a0 a1 a2 a3 k, LeO (soundservicelaw18_ControlWeaker.f k a0 a1 a2 a3) (soundservicelaw18_ControlWeaker.f (k + 1) a0 a1 a2 a3) := by
 intro a0 a1 a2 a3 k
 obtain ⟨ih0, ih1⟩ := soundservicelaw18_ControlWeaker.mono_l k
 unfold soundservicelaw18_ControlWeaker.f
 repeat' first
   | (with_reducible exact ih0 _)
   | (with_reducible exact ih1 _)
   | (with_reducible exact control_Bound.mono _ _ _ _ _ _ _ _ _ _)
   | (with_reducible exact control_Demand.mono _ _ _ _ _ _ _ _ _)
   | (with_reducible exact control_Plan.mono _ _ _ _ _ _ _)
   | (with_reducible exact LeO.refl _)
   | (with_reducible exact LeO.none _)
   | (with_reducible refine LeO.ite ?_ ?_)
   | (with_reducible refine LeO.bind ?_ (fun _ => ?_))
   | exact ih0 _
   | exact ih1 _
   | exact control_Bound.mono _ _ _ _ _ _ _ _ _ _
   | exact control_Demand.mono _ _ _ _ _ _ _ _ _
   | exact control_Plan.mono _ _ _ _ _ _ _
   | exact LeO.none _
   | refine LeO.ite ?_ ?_
   | refine LeO.bind ?_ (fun _ => ?_)
set_option maxHeartbeats 8000000 in
set_option maxRecDepth 100000 in
theorem soundservicelaw18_ControlWeaker.calls (k : Nat) (A0 : Option Addr) (c0 : Nat) (l0 : List Int) (a1 : Int) (a2 : Int) (a3 : Int) (r : Bool) (w : World) (hr0 : Kd.C (Kd.int .u8) w A0 l0.length l0) (hc0 : l0.length ≤ c0) (h : soundservicelaw18_ControlWeaker.f k l0 a1 a2 a3 = some r) :
  Calls Try.prog 7 #[.slice A0 l0.length c0, .int .u8 a1, .int .u8 a2, .int .u8 a3] w fun e w' => e = .returned (.bool r) ∧ Below w.heap.size w w' := by
 have hu23 := Try.underlying23
 have hu27 := Try.underlying27
 have HR0 := Aside0.mk hr0
 have HC0 := Aside0.mk hc0
 clear hr0 hc0
 have HB := Aside0.mk (Below.refl w.heap.size w)
 have H : ((soundservicelaw18_sane.f).bind fun t294 => (if t294 = true then ((soundservicemade_New.f l0).bind fun t295 => ((soundservicelaw18_made.f t295).bind fun bt297 => ((control_Bound.f k 0 3 5 2000 bt297.2.2.2.2.1 bt297.2.2.2.2.2.1 (wrap64 (a1)) (wrap64 (a2)) (wrap64 (a3))).bind fun bt309 => ((control_Bound.f k 0 3 5 2000 bt297.2.2.2.2.1 bt297.2.2.2.2.2.1 (wrap64 ((wrap64 (a1)) + (wrap64 (a3)))) (wrap64 (a2)) (wrap64 (a3))).bind fun bt311 => ((control_Bound.f k 0 3 5 2000 bt297.2.2.2.2.1 bt297.2.2.2.2.2.1 (wrap64 (a1)) (wrap64 ((wrap64 (a2)) + (wrap64 (a3)))) (wrap64 (2 * (wrap64 (a3))))).bind fun bt313 => ((control_Demand.f k 0 3 5 2000 bt297.2.2.2.2.1 bt297.2.2.2.2.2.1 (wrap64 (a1)) (wrap64 (a2))).bind fun bt315 => ((control_Demand.f k 0 3 5 2000 bt297.2.2.2.2.1 bt297.2.2.2.2.2.1 (wrap64 ((wrap64 (a1)) + (wrap64 (a3)))) (wrap64 ((wrap64 (a2)) + (wrap64 (a3))))).bind fun bt317 => ((control_Plan.f k bt297.2.2.2.2.1 bt297.2.2.2.2.2.1 (wrap64 (a1)) (wrap64 (a2)) 4 9).bind fun bt319 => ((control_Plan.f k bt297.2.2.2.2.1 bt297.2.2.2.2.2.1 (wrap64 ((wrap64 (a1)) + (wrap64 (a3)))) (wrap64 ((wrap64 (a2)) + (wrap64 (a3)))) 4 9).bind fun bt326 => (if bt309.2 = 0 then (if bt311.2 = 0 then (if bt313.2 = 0 then (if bt315.2 = 0 then (if bt317.2 = 0 then (if bt309.1 ≤ bt311.1 then (if bt309.1 ≤ bt313.1 then (if bt315.1 ≤ bt317.1 then (if bt319.2.2.2.2.2 = 0 then (if bt326.2.2.2.2.2 = 0 then (if bt319.1 ≤ bt326.1 then (if bt319.2.2.2.2.1 ≤ bt326.2.2.2.2.1 then (soundservicelaw18_ControlWeaker.j0 k (decide (bt319.2.2.2.1 ≤ bt326.2.2.2.1))) else (soundservicelaw18_ControlWeaker.j0 k false)) else (soundservicelaw18_ControlWeaker.j0 k false)) else (soundservicelaw18_ControlWeaker.j0 k true)) else (soundservicelaw18_ControlWeaker.j0 k true)) else (soundservicelaw18_ControlWeaker.j0 k false)) else (soundservicelaw18_ControlWeaker.j0 k false)) else (soundservicelaw18_ControlWeaker.j0 k false)) else (soundservicelaw18_ControlWeaker.j0 k false)) else (soundservicelaw18_ControlWeaker.j0 k false)) else (soundservicelaw18_ControlWeaker.j0 k false)) else (soundservicelaw18_ControlWeaker.j0 k false)) else (soundservicelaw18_ControlWeaker.j0 k false))))))))))) else (some false))) = some r := h
 clear h
 replace H := Option.bind_eq_some_iff.mp H
 obtain ⟨t294, A50, H⟩ := H
 replace H : (if t294 = true then ((soundservicemade_New.f l0).bind fun t295 => ((soundservicelaw18_made.f t295).bind fun bt297 => ((control_Bound.f k 0 3 5 2000 bt297.2.2.2.2.1 bt297.2.2.2.2.2.1 (wrap64 (a1)) (wrap64 (a2)) (wrap64 (a3))).bind fun bt309 => ((control_Bound.f k 0 3 5 2000 bt297.2.2.2.2.1 bt297.2.2.2.2.2.1 (wrap64 ((wrap64 (a1)) + (wrap64 (a3)))) (wrap64 (a2)) (wrap64 (a3))).bind fun bt311 => ((control_Bound.f k 0 3 5 2000 bt297.2.2.2.2.1 bt297.2.2.2.2.2.1 (wrap64 (a1)) (wrap64 ((wrap64 (a2)) + (wrap64 (a3)))) (wrap64 (2 * (wrap64 (a3))))).bind fun bt313 => ((control_Demand.f k 0 3 5 2000 bt297.2.2.2.2.1 bt297.2.2.2.2.2.1 (wrap64 (a1)) (wrap64 (a2))).bind fun bt315 => ((control_Demand.f k 0 3 5 2000 bt297.2.2.2.2.1 bt297.2.2.2.2.2.1 (wrap64 ((wrap64 (a1)) + (wrap64 (a3)))) (wrap64 ((wrap64 (a2)) + (wrap64 (a3))))).bind fun bt317 => ((control_Plan.f k bt297.2.2.2.2.1 bt297.2.2.2.2.2.1 (wrap64 (a1)) (wrap64 (a2)) 4 9).bind fun bt319 => ((control_Plan.f k bt297.2.2.2.2.1 bt297.2.2.2.2.2.1 (wrap64 ((wrap64 (a1)) + (wrap64 (a3)))) (wrap64 ((wrap64 (a2)) + (wrap64 (a3)))) 4 9).bind fun bt326 => (if bt309.2 = 0 then (if bt311.2 = 0 then (if bt313.2 = 0 then (if bt315.2 = 0 then (if bt317.2 = 0 then (if bt309.1 ≤ bt311.1 then (if bt309.1 ≤ bt313.1 then (if bt315.1 ≤ bt317.1 then (if bt319.2.2.2.2.2 = 0 then (if bt326.2.2.2.2.2 = 0 then (if bt319.1 ≤ bt326.1 then (if bt319.2.2.2.2.1 ≤ bt326.2.2.2.2.1 then (soundservicelaw18_ControlWeaker.j0 k (decide (bt319.2.2.2.1 ≤ bt326.2.2.2.1))) else (soundservicelaw18_ControlWeaker.j0 k false)) else (soundservicelaw18_ControlWeaker.j0 k false)) else (soundservicelaw18_ControlWeaker.j0 k true)) else (soundservicelaw18_ControlWeaker.j0 k true)) else (soundservicelaw18_ControlWeaker.j0 k false)) else (soundservicelaw18_ControlWeaker.j0 k false)) else (soundservicelaw18_ControlWeaker.j0 k false)) else (soundservicelaw18_ControlWeaker.j0 k false)) else (soundservicelaw18_ControlWeaker.j0 k false)) else (soundservicelaw18_ControlWeaker.j0 k false)) else (soundservicelaw18_ControlWeaker.j0 k false)) else (soundservicelaw18_ControlWeaker.j0 k false))))))))))) else (some false)) = some r := H
 have A5 := Aside0.mk A50
 clear A50
 by_cases c6 : t294 = true
 ·subst c6
  have H1 : ((soundservicemade_New.f l0).bind fun t295 => ((soundservicelaw18_made.f t295).bind fun bt297 => ((control_Bound.f k 0 3 5 2000 bt297.2.2.2.2.1 bt297.2.2.2.2.2.1 (wrap64 (a1)) (wrap64 (a2)) (wrap64 (a3))).bind fun bt309 => ((control_Bound.f k 0 3 5 2000 bt297.2.2.2.2.1 bt297.2.2.2.2.2.1 (wrap64 ((wrap64 (a1)) + (wrap64 (a3)))) (wrap64 (a2)) (wrap64 (a3))).bind fun bt311 => ((control_Bound.f k 0 3 5 2000 bt297.2.2.2.2.1 bt297.2.2.2.2.2.1 (wrap64 (a1)) (wrap64 ((wrap64 (a2)) + (wrap64 (a3)))) (wrap64 (2 * (wrap64 (a3))))).bind fun bt313 => ((control_Demand.f k 0 3 5 2000 bt297.2.2.2.2.1 bt297.2.2.2.2.2.1 (wrap64 (a1)) (wrap64 (a2))).bind fun bt315 => ((control_Demand.f k 0 3 5 2000 bt297.2.2.2.2.1 bt297.2.2.2.2.2.1 (wrap64 ((wrap64 (a1)) + (wrap64 (a3)))) (wrap64 ((wrap64 (a2)) + (wrap64 (a3))))).bind fun bt317 => ((control_Plan.f k bt297.2.2.2.2.1 bt297.2.2.2.2.2.1 (wrap64 (a1)) (wrap64 (a2)) 4 9).bind fun bt319 => ((control_Plan.f k bt297.2.2.2.2.1 bt297.2.2.2.2.2.1 (wrap64 ((wrap64 (a1)) + (wrap64 (a3)))) (wrap64 ((wrap64 (a2)) + (wrap64 (a3)))) 4 9).bind fun bt326 => (if bt309.2 = 0 then (if bt311.2 = 0 then (if bt313.2 = 0 then (if bt315.2 = 0 then (if bt317.2 = 0 then (if bt309.1 ≤ bt311.1 then (if bt309.1 ≤ bt313.1 then (if bt315.1 ≤ bt317.1 then (if bt319.2.2.2.2.2 = 0 then (if bt326.2.2.2.2.2 = 0 then (if bt319.1 ≤ bt326.1 then (if bt319.2.2.2.2.1 ≤ bt326.2.2.2.2.1 then (soundservicelaw18_ControlWeaker.j0 k (decide (bt319.2.2.2.1 ≤ bt326.2.2.2.1))) else (soundservicelaw18_ControlWeaker.j0 k false)) else (soundservicelaw18_ControlWeaker.j0 k false)) else (soundservicelaw18_ControlWeaker.j0 k true)) else (soundservicelaw18_ControlWeaker.j0 k true)) else (soundservicelaw18_ControlWeaker.j0 k false)) else (soundservicelaw18_ControlWeaker.j0 k false)) else (soundservicelaw18_ControlWeaker.j0 k false)) else (soundservicelaw18_ControlWeaker.j0 k false)) else (soundservicelaw18_ControlWeaker.j0 k false)) else (soundservicelaw18_ControlWeaker.j0 k false)) else (soundservicelaw18_ControlWeaker.j0 k false)) else (soundservicelaw18_ControlWeaker.j0 k false))))))))))) = some r := by rw [if_pos rfl] at H; exact H
  clear H
  have H := H1
  clear H1
  replace H := Option.bind_eq_some_iff.mp H
  obtain ⟨t295, A70, H⟩ := H
  replace H : ((soundservicelaw18_made.f t295).bind fun bt297 => ((control_Bound.f k 0 3 5 2000 bt297.2.2.2.2.1 bt297.2.2.2.2.2.1 (wrap64 (a1)) (wrap64 (a2)) (wrap64 (a3))).bind fun bt309 => ((control_Bound.f k 0 3 5 2000 bt297.2.2.2.2.1 bt297.2.2.2.2.2.1 (wrap64 ((wrap64 (a1)) + (wrap64 (a3)))) (wrap64 (a2)) (wrap64 (a3))).bind fun bt311 => ((control_Bound.f k 0 3 5 2000 bt297.2.2.2.2.1 bt297.2.2.2.2.2.1 (wrap64 (a1)) (wrap64 ((wrap64 (a2)) + (wrap64 (a3)))) (wrap64 (2 * (wrap64 (a3))))).bind fun bt313 => ((control_Demand.f k 0 3 5 2000 bt297.2.2.2.2.1 bt297.2.2.2.2.2.1 (wrap64 (a1)) (wrap64 (a2))).bind fun bt315 => ((control_Demand.f k 0 3 5 2000 bt297.2.2.2.2.1 bt297.2.2.2.2.2.1 (wrap64 ((wrap64 (a1)) + (wrap64 (a3)))) (wrap64 ((wrap64 (a2)) + (wrap64 (a3))))).bind fun bt317 => ((control_Plan.f k bt297.2.2.2.2.1 bt297.2.2.2.2.2.1 (wrap64 (a1)) (wrap64 (a2)) 4 9).bind fun bt319 => ((control_Plan.f k bt297.2.2.2.2.1 bt297.2.2.2.2.2.1 (wrap64 ((wrap64 (a1)) + (wrap64 (a3)))) (wrap64 ((wrap64 (a2)) + (wrap64 (a3)))) 4 9).bind fun bt326 => (if bt309.2 = 0 then (if bt311.2 = 0 then (if bt313.2 = 0 then (if bt315.2 = 0 then (if bt317.2 = 0 then (if bt309.1 ≤ bt311.1 then (if bt309.1 ≤ bt313.1 then (if bt315.1 ≤ bt317.1 then (if bt319.2.2.2.2.2 = 0 then (if bt326.2.2.2.2.2 = 0 then (if bt319.1 ≤ bt326.1 then (if bt319.2.2.2.2.1 ≤ bt326.2.2.2.2.1 then (soundservicelaw18_ControlWeaker.j0 k (decide (bt319.2.2.2.1 ≤ bt326.2.2.2.1))) else (soundservicelaw18_ControlWeaker.j0 k false)) else (soundservicelaw18_ControlWeaker.j0 k false)) else (soundservicelaw18_ControlWeaker.j0 k true)) else (soundservicelaw18_ControlWeaker.j0 k true)) else (soundservicelaw18_ControlWeaker.j0 k false)) else (soundservicelaw18_ControlWeaker.j0 k false)) else (soundservicelaw18_ControlWeaker.j0 k false)) else (soundservicelaw18_ControlWeaker.j0 k false)) else (soundservicelaw18_ControlWeaker.j0 k false)) else (soundservicelaw18_ControlWeaker.j0 k false)) else (soundservicelaw18_ControlWeaker.j0 k false)) else (soundservicelaw18_ControlWeaker.j0 k false)))))))))) = some r := H
  have A7 := Aside0.mk A70
  clear A70
  replace H := Option.bind_eq_some_iff.mp H
  obtain ⟨⟨t297, t298, t299, t300, t301, t302, t303, t304, t305⟩, A80, H⟩ := H
  replace H : ((control_Bound.f k 0 3 5 2000 t301 t302 (wrap64 (a1)) (wrap64 (a2)) (wrap64 (a3))).bind fun bt309 => ((control_Bound.f k 0 3 5 2000 t301 t302 (wrap64 ((wrap64 (a1)) + (wrap64 (a3)))) (wrap64 (a2)) (wrap64 (a3))).bind fun bt311 => ((control_Bound.f k 0 3 5 2000 t301 t302 (wrap64 (a1)) (wrap64 ((wrap64 (a2)) + (wrap64 (a3)))) (wrap64 (2 * (wrap64 (a3))))).bind fun bt313 => ((control_Demand.f k 0 3 5 2000 t301 t302 (wrap64 (a1)) (wrap64 (a2))).bind fun bt315 => ((control_Demand.f k 0 3 5 2000 t301 t302 (wrap64 ((wrap64 (a1)) + (wrap64 (a3)))) (wrap64 ((wrap64 (a2)) + (wrap64 (a3))))).bind fun bt317 => ((control_Plan.f k t301 t302 (wrap64 (a1)) (wrap64 (a2)) 4 9).bind fun bt319 => ((control_Plan.f k t301 t302 (wrap64 ((wrap64 (a1)) + (wrap64 (a3)))) (wrap64 ((wrap64 (a2)) + (wrap64 (a3)))) 4 9).bind fun bt326 => (if bt309.2 = 0 then (if bt311.2 = 0 then (if bt313.2 = 0 then (if bt315.2 = 0 then (if bt317.2 = 0 then (if bt309.1 ≤ bt311.1 then (if bt309.1 ≤ bt313.1 then (if bt315.1 ≤ bt317.1 then (if bt319.2.2.2.2.2 = 0 then (if bt326.2.2.2.2.2 = 0 then (if bt319.1 ≤ bt326.1 then (if bt319.2.2.2.2.1 ≤ bt326.2.2.2.2.1 then (soundservicelaw18_ControlWeaker.j0 k (decide (bt319.2.2.2.1 ≤ bt326.2.2.2.1))) else (soundservicelaw18_ControlWeaker.j0 k false)) else (soundservicelaw18_ControlWeaker.j0 k false)) else (soundservicelaw18_ControlWeaker.j0 k true)) else (soundservicelaw18_ControlWeaker.j0 k true)) else (soundservicelaw18_ControlWeaker.j0 k false)) else (soundservicelaw18_ControlWeaker.j0 k false)) else (soundservicelaw18_ControlWeaker.j0 k false)) else (soundservicelaw18_ControlWeaker.j0 k false)) else (soundservicelaw18_ControlWeaker.j0 k false)) else (soundservicelaw18_ControlWeaker.j0 k false)) else (soundservicelaw18_ControlWeaker.j0 k false)) else (soundservicelaw18_ControlWeaker.j0 k false))))))))) = some r := H
  have A8 := Aside0.mk A80
  clear A80
  replace H := Option.bind_eq_some_iff.mp H
  obtain ⟨⟨t309, t310⟩, A90, H⟩ := H
  replace H : ((control_Bound.f k 0 3 5 2000 t301 t302 (wrap64 ((wrap64 (a1)) + (wrap64 (a3)))) (wrap64 (a2)) (wrap64 (a3))).bind fun bt311 => ((control_Bound.f k 0 3 5 2000 t301 t302 (wrap64 (a1)) (wrap64 ((wrap64 (a2)) + (wrap64 (a3)))) (wrap64 (2 * (wrap64 (a3))))).bind fun bt313 => ((control_Demand.f k 0 3 5 2000 t301 t302 (wrap64 (a1)) (wrap64 (a2))).bind fun bt315 => ((control_Demand.f k 0 3 5 2000 t301 t302 (wrap64 ((wrap64 (a1)) + (wrap64 (a3)))) (wrap64 ((wrap64 (a2)) + (wrap64 (a3))))).bind fun bt317 => ((control_Plan.f k t301 t302 (wrap64 (a1)) (wrap64 (a2)) 4 9).bind fun bt319 => ((control_Plan.f k t301 t302 (wrap64 ((wrap64 (a1)) + (wrap64 (a3)))) (wrap64 ((wrap64 (a2)) + (wrap64 (a3)))) 4 9).bind fun bt326 => (if t310 = 0 then (if bt311.2 = 0 then (if bt313.2 = 0 then (if bt315.2 = 0 then (if bt317.2 = 0 then (if t309 ≤ bt311.1 then (if t309 ≤ bt313.1 then (if bt315.1 ≤ bt317.1 then (if bt319.2.2.2.2.2 = 0 then (if bt326.2.2.2.2.2 = 0 then (if bt319.1 ≤ bt326.1 then (if bt319.2.2.2.2.1 ≤ bt326.2.2.2.2.1 then (soundservicelaw18_ControlWeaker.j0 k (decide (bt319.2.2.2.1 ≤ bt326.2.2.2.1))) else (soundservicelaw18_ControlWeaker.j0 k false)) else (soundservicelaw18_ControlWeaker.j0 k false)) else (soundservicelaw18_ControlWeaker.j0 k true)) else (soundservicelaw18_ControlWeaker.j0 k true)) else (soundservicelaw18_ControlWeaker.j0 k false)) else (soundservicelaw18_ControlWeaker.j0 k false)) else (soundservicelaw18_ControlWeaker.j0 k false)) else (soundservicelaw18_ControlWeaker.j0 k false)) else (soundservicelaw18_ControlWeaker.j0 k false)) else (soundservicelaw18_ControlWeaker.j0 k false)) else (soundservicelaw18_ControlWeaker.j0 k false)) else (soundservicelaw18_ControlWeaker.j0 k false)))))))) = some r := H
  have A9 := Aside0.mk A90
  clear A90
  replace H := Option.bind_eq_some_iff.mp H
  obtain ⟨⟨t311, t312⟩, A100, H⟩ := H
  replace H : ((control_Bound.f k 0 3 5 2000 t301 t302 (wrap64 (a1)) (wrap64 ((wrap64 (a2)) + (wrap64 (a3)))) (wrap64 (2 * (wrap64 (a3))))).bind fun bt313 => ((control_Demand.f k 0 3 5 2000 t301 t302 (wrap64 (a1)) (wrap64 (a2))).bind fun bt315 => ((control_Demand.f k 0 3 5 2000 t301 t302 (wrap64 ((wrap64 (a1)) + (wrap64 (a3)))) (wrap64 ((wrap64 (a2)) + (wrap64 (a3))))).bind fun bt317 => ((control_Plan.f k t301 t302 (wrap64 (a1)) (wrap64 (a2)) 4 9).bind fun bt319 => ((control_Plan.f k t301 t302 (wrap64 ((wrap64 (a1)) + (wrap64 (a3)))) (wrap64 ((wrap64 (a2)) + (wrap64 (a3)))) 4 9).bind fun bt326 => (if t310 = 0 then (if t312 = 0 then (if bt313.2 = 0 then (if bt315.2 = 0 then (if bt317.2 = 0 then (if t309 ≤ t311 then (if t309 ≤ bt313.1 then (if bt315.1 ≤ bt317.1 then (if bt319.2.2.2.2.2 = 0 then (if bt326.2.2.2.2.2 = 0 then (if bt319.1 ≤ bt326.1 then (if bt319.2.2.2.2.1 ≤ bt326.2.2.2.2.1 then (soundservicelaw18_ControlWeaker.j0 k (decide (bt319.2.2.2.1 ≤ bt326.2.2.2.1))) else (soundservicelaw18_ControlWeaker.j0 k false)) else (soundservicelaw18_ControlWeaker.j0 k false)) else (soundservicelaw18_ControlWeaker.j0 k true)) else (soundservicelaw18_ControlWeaker.j0 k true)) else (soundservicelaw18_ControlWeaker.j0 k false)) else (soundservicelaw18_ControlWeaker.j0 k false)) else (soundservicelaw18_ControlWeaker.j0 k false)) else (soundservicelaw18_ControlWeaker.j0 k false)) else (soundservicelaw18_ControlWeaker.j0 k false)) else (soundservicelaw18_ControlWeaker.j0 k false)) else (soundservicelaw18_ControlWeaker.j0 k false)) else (soundservicelaw18_ControlWeaker.j0 k false))))))) = some r := H
  have A10 := Aside0.mk A100
  clear A100
  replace H := Option.bind_eq_some_iff.mp H
  obtain ⟨⟨t313, t314⟩, A110, H⟩ := H
  replace H : ((control_Demand.f k 0 3 5 2000 t301 t302 (wrap64 (a1)) (wrap64 (a2))).bind fun bt315 => ((control_Demand.f k 0 3 5 2000 t301 t302 (wrap64 ((wrap64 (a1)) + (wrap64 (a3)))) (wrap64 ((wrap64 (a2)) + (wrap64 (a3))))).bind fun bt317 => ((control_Plan.f k t301 t302 (wrap64 (a1)) (wrap64 (a2)) 4 9).bind fun bt319 => ((control_Plan.f k t301 t302 (wrap64 ((wrap64 (a1)) + (wrap64 (a3)))) (wrap64 ((wrap64 (a2)) + (wrap64 (a3)))) 4 9).bind fun bt326 => (if t310 = 0 then (if t312 = 0 then (if t314 = 0 then (if bt315.2 = 0 then (if bt317.2 = 0 then (if t309 ≤ t311 then (if t309 ≤ t313 then (if bt315.1 ≤ bt317.1 then (if bt319.2.2.2.2.2 = 0 then (if bt326.2.2.2.2.2 = 0 then (if bt319.1 ≤ bt326.1 then (if bt319.2.2.2.2.1 ≤ bt326.2.2.2.2.1 then (soundservicelaw18_ControlWeaker.j0 k (decide (bt319.2.2.2.1 ≤ bt326.2.2.2.1))) else (soundservicelaw18_ControlWeaker.j0 k false)) else (soundservicelaw18_ControlWeaker.j0 k false)) else (soundservicelaw18_ControlWeaker.j0 k true)) else (soundservicelaw18_ControlWeaker.j0 k true)) else (soundservicelaw18_ControlWeaker.j0 k false)) else (soundservicelaw18_ControlWeaker.j0 k false)) else (soundservicelaw18_ControlWeaker.j0 k false)) else (soundservicelaw18_ControlWeaker.j0 k false)) else (soundservicelaw18_ControlWeaker.j0 k false)) else (soundservicelaw18_ControlWeaker.j0 k false)) else (soundservicelaw18_ControlWeaker.j0 k false)) else (soundservicelaw18_ControlWeaker.j0 k false)))))) = some r := H
  have A11 := Aside0.mk A110
  clear A110
  replace H := Option.bind_eq_some_iff.mp H
  obtain ⟨⟨t315, t316⟩, A120, H⟩ := H
  replace H : ((control_Demand.f k 0 3 5 2000 t301 t302 (wrap64 ((wrap64 (a1)) + (wrap64 (a3)))) (wrap64 ((wrap64 (a2)) + (wrap64 (a3))))).bind fun bt317 => ((control_Plan.f k t301 t302 (wrap64 (a1)) (wrap64 (a2)) 4 9).bind fun bt319 => ((control_Plan.f k t301 t302 (wrap64 ((wrap64 (a1)) + (wrap64 (a3)))) (wrap64 ((wrap64 (a2)) + (wrap64 (a3)))) 4 9).bind fun bt326 => (if t310 = 0 then (if t312 = 0 then (if t314 = 0 then (if t316 = 0 then (if bt317.2 = 0 then (if t309 ≤ t311 then (if t309 ≤ t313 then (if t315 ≤ bt317.1 then (if bt319.2.2.2.2.2 = 0 then (if bt326.2.2.2.2.2 = 0 then (if bt319.1 ≤ bt326.1 then (if bt319.2.2.2.2.1 ≤ bt326.2.2.2.2.1 then (soundservicelaw18_ControlWeaker.j0 k (decide (bt319.2.2.2.1 ≤ bt326.2.2.2.1))) else (soundservicelaw18_ControlWeaker.j0 k false)) else (soundservicelaw18_ControlWeaker.j0 k false)) else (soundservicelaw18_ControlWeaker.j0 k true)) else (soundservicelaw18_ControlWeaker.j0 k true)) else (soundservicelaw18_ControlWeaker.j0 k false)) else (soundservicelaw18_ControlWeaker.j0 k false)) else (soundservicelaw18_ControlWeaker.j0 k false)) else (soundservicelaw18_ControlWeaker.j0 k false)) else (soundservicelaw18_ControlWeaker.j0 k false)) else (soundservicelaw18_ControlWeaker.j0 k false)) else (soundservicelaw18_ControlWeaker.j0 k false)) else (soundservicelaw18_ControlWeaker.j0 k false))))) = some r := H
  have A12 := Aside0.mk A120
  clear A120
  replace H := Option.bind_eq_some_iff.mp H
  obtain ⟨⟨t317, t318⟩, A130, H⟩ := H
  replace H : ((control_Plan.f k t301 t302 (wrap64 (a1)) (wrap64 (a2)) 4 9).bind fun bt319 => ((control_Plan.f k t301 t302 (wrap64 ((wrap64 (a1)) + (wrap64 (a3)))) (wrap64 ((wrap64 (a2)) + (wrap64 (a3)))) 4 9).bind fun bt326 => (if t310 = 0 then (if t312 = 0 then (if t314 = 0 then (if t316 = 0 then (if t318 = 0 then (if t309 ≤ t311 then (if t309 ≤ t313 then (if t315 ≤ t317 then (if bt319.2.2.2.2.2 = 0 then (if bt326.2.2.2.2.2 = 0 then (if bt319.1 ≤ bt326.1 then (if bt319.2.2.2.2.1 ≤ bt326.2.2.2.2.1 then (soundservicelaw18_ControlWeaker.j0 k (decide (bt319.2.2.2.1 ≤ bt326.2.2.2.1))) else (soundservicelaw18_ControlWeaker.j0 k false)) else (soundservicelaw18_ControlWeaker.j0 k false)) else (soundservicelaw18_ControlWeaker.j0 k true)) else (soundservicelaw18_ControlWeaker.j0 k true)) else (soundservicelaw18_ControlWeaker.j0 k false)) else (soundservicelaw18_ControlWeaker.j0 k false)) else (soundservicelaw18_ControlWeaker.j0 k false)) else (soundservicelaw18_ControlWeaker.j0 k false)) else (soundservicelaw18_ControlWeaker.j0 k false)) else (soundservicelaw18_ControlWeaker.j0 k false)) else (soundservicelaw18_ControlWeaker.j0 k false)) else (soundservicelaw18_ControlWeaker.j0 k false)))) = some r := H
  have A13 := Aside0.mk A130
  clear A130
  replace H := Option.bind_eq_some_iff.mp H
  obtain ⟨⟨t319, t320, t321, t322, t323, t324⟩, A140, H⟩ := H
  replace H : ((control_Plan.f k t301 t302 (wrap64 ((wrap64 (a1)) + (wrap64 (a3)))) (wrap64 ((wrap64 (a2)) + (wrap64 (a3)))) 4 9).bind fun bt326 => (if t310 = 0 then (if t312 = 0 then (if t314 = 0 then (if t316 = 0 then (if t318 = 0 then (if t309 ≤ t311 then (if t309 ≤ t313 then (if t315 ≤ t317 then (if t324 = 0 then (if bt326.2.2.2.2.2 = 0 then (if t319 ≤ bt326.1 then (if t323 ≤ bt326.2.2.2.2.1 then (soundservicelaw18_ControlWeaker.j0 k (decide (t322 ≤ bt326.2.2.2.1))) else (soundservicelaw18_ControlWeaker.j0 k false)) else (soundservicelaw18_ControlWeaker.j0 k false)) else (soundservicelaw18_ControlWeaker.j0 k true)) else (soundservicelaw18_ControlWeaker.j0 k true)) else (soundservicelaw18_ControlWeaker.j0 k false)) else (soundservicelaw18_ControlWeaker.j0 k false)) else (soundservicelaw18_ControlWeaker.j0 k false)) else (soundservicelaw18_ControlWeaker.j0 k false)) else (soundservicelaw18_ControlWeaker.j0 k false)) else (soundservicelaw18_ControlWeaker.j0 k false)) else (soundservicelaw18_ControlWeaker.j0 k false)) else (soundservicelaw18_ControlWeaker.j0 k false))) = some r := H
  have A14 := Aside0.mk A140
  clear A140
  replace H := Option.bind_eq_some_iff.mp H
  obtain ⟨⟨t326, t327, t328, t329, t330, t331⟩, A150, H⟩ := H
  replace H : (if t310 = 0 then (if t312 = 0 then (if t314 = 0 then (if t316 = 0 then (if t318 = 0 then (if t309 ≤ t311 then (if t309 ≤ t313 then (if t315 ≤ t317 then (if t324 = 0 then (if t331 = 0 then (if t319 ≤ t326 then (if t323 ≤ t330 then (soundservicelaw18_ControlWeaker.j0 k (decide (t322 ≤ t329))) else (soundservicelaw18_ControlWeaker.j0 k false)) else (soundservicelaw18_ControlWeaker.j0 k false)) else (soundservicelaw18_ControlWeaker.j0 k true)) else (soundservicelaw18_ControlWeaker.j0 k true)) else (soundservicelaw18_ControlWeaker.j0 k false)) else (soundservicelaw18_ControlWeaker.j0 k false)) else (soundservicelaw18_ControlWeaker.j0 k false)) else (soundservicelaw18_ControlWeaker.j0 k false)) else (soundservicelaw18_ControlWeaker.j0 k false)) else (soundservicelaw18_ControlWeaker.j0 k false)) else (soundservicelaw18_ControlWeaker.j0 k false)) else (soundservicelaw18_ControlWeaker.j0 k false)) = some r := H
  have A15 := Aside0.mk A150
  clear A150
  have HC16 := Aside0.mk H
  clear H
  go_enter Try.func7, Try.ntmps7
  go_upto_region 13 with (first | ((with_reducible refine gate_callee (f := 10) rfl ?_); refine goesL_ (some 33) rfl rfl Try.func10 (by kernel_rfl) rfl #[] rfl (by (try simp only [List.map_toArray, List.map_cons, List.map_nil]); first | done | rfl | (simp only [List.length_drop, List.length_take]; rfl)) ?_; (with_reducible refine (soundservicelaw18_sane.calls  true _ A5.out).mono ?_); rintro e w17 ⟨rfl, hb⟩; refine ⟨_, rfl, ?_⟩; have n0_ := Aside0.mk (below_step (by repeat (first | (with_reducible first | exact HB.out | apply below_alloc | apply pw_below_drewN | apply below_drew1) | exact HB.out)) hb); clear HB; have HB := n0_; clear n0_; (try clear hb); (try clear hb2); (try clear hk); (try clear hi)) | ((with_reducible refine gate_callee (f := 12) rfl ?_); refine goesL_ (some 37) rfl rfl Try.func12 (by kernel_rfl) rfl #[.slice A0 l0.length c0] rfl (by (try simp only [List.map_toArray, List.map_cons, List.map_nil]); first | done | rfl | (simp only [List.length_drop, List.length_take]; rfl)) ?_; (with_reducible refine (soundservicemade_New.calls _ _ l0 t295 w _ ?side1 ?side2 ?side3 A7.out).mono ?_); (case side1 => repeat (first | (with_reducible first | exact HB.out | apply below_alloc | apply pw_below_drewN | apply below_drew1) | exact HB.out)); (case side2 => exact HR0.out); (case side3 => exact HC0.out); rintro e w18 ⟨g296, rfl, hi, hb, hb2⟩; refine ⟨_, rfl, ?_⟩; have n0_ := Aside0.mk (hb); have n1_ := Aside0.mk (hi); clear HB; have HB := n0_; have HI296 := n1_; clear n0_ n1_; (try clear hb); (try clear hb2); (try clear hk); (try clear hi)) | ((with_reducible refine gate_callee (f := 11) rfl ?_); refine goesL_ (some 38) rfl rfl Try.func11 (by kernel_rfl) rfl #[.pointer (some ⟨g296, 0, none⟩)] rfl (by (try simp only [List.map_toArray, List.map_cons, List.map_nil]); first | done | rfl | (simp only [List.length_drop, List.length_take]; rfl)) ?_; (with_reducible refine (soundservicelaw18_made.calls g296 t295 t297 t298 t299 t300 t301 t302 t303 t304 t305 w _ ?side1 ?side2 A8.out).mono ?_); (case side1 => repeat (first | (with_reducible first | exact HI296.out | apply IsS59.alloc | apply IsS59.drewN | apply IsS59.drew) | exact HI296.out)); (case side2 => repeat (first | (with_reducible first | exact HB.out | apply below_alloc | apply pw_below_drewN | apply below_drew1 | refine below_set ?_ (IsS59.ge HI296.out)) | exact HB.out)); rintro e w19 ⟨rfl, hi, hb, hk⟩; refine ⟨_, rfl, ?_⟩; have n0_ := Aside0.mk (hb); have n1_ := Aside0.mk (hi); clear HB; clear HI296; have HB := n0_; have HI296 := n1_; clear n0_ n1_; (try clear hb); (try clear hb2); (try clear hk); (try clear hi)) | ((with_reducible refine gate_dst (N := 9) rfl ?_); refine box_event ?hg (N := 9) ?hd (cs := #[.int .i64 0, .int .i64 0, .int .i64 0, .int .i64 0]) (t := 23) ?hr ?_; (case hd => rfl); (case hg => rfl); (case hr => first | (go_simp; done) | (go_simp; rfl)); intro gb306 hg w20 hbox hb; have n0_ := Aside0.mk (IsS59.below (by repeat (first | (with_reducible first | exact HI296.out | apply IsS59.alloc | apply IsS59.drewN | apply IsS59.drew) | exact HI296.out)) hb); have n1_ := Aside0.mk (below_step (by repeat (first | (with_reducible first | exact HB.out | apply below_alloc | apply pw_below_drewN | apply below_drew1 | refine below_set ?_ (IsS59.ge HI296.out)) | exact HB.out)) hb); have n2_ := Aside0.mk (hbox); have n3_ := Aside0.mk ((by rw [hg]; exact (below_size (by repeat (first | (with_reducible first | exact HB.out | apply below_alloc | apply pw_below_drewN | apply below_drew1 | refine below_set ?_ (IsS59.ge HI296.out)) | exact HB.out))) : w.heap.size ≤ gb306)); have n4_ := Aside0.mk ((by rw [hg]; exact (below_size (by repeat (first | (with_reducible first | exact HB.out | apply below_alloc | apply pw_below_drewN | apply below_drew1 | refine below_set ?_ (IsS59.ge HI296.out)) | exact HB.out))) : w.heap.size ≤ gb306)); have n5_ := Aside0.mk ((by rw [hg]; exact Nat.ne_of_lt (IsS59.lt (show IsS59 w _ g296 t305 from by repeat (first | (with_reducible first | exact HI296.out | apply IsS59.alloc | apply IsS59.drewN | apply IsS59.drew) | exact HI296.out))) : g296 ≠ gb306)); have n6_ := Aside0.mk ((by rw [hg]; exact Nat.ne_of_gt (IsS59.lt (show IsS59 w _ g296 t305 from by repeat (first | (with_reducible first | exact HI296.out | apply IsS59.alloc | apply IsS59.drewN | apply IsS59.drew) | exact HI296.out))) : gb306 ≠ g296)); clear HI296; clear HB; have HI296 := n0_; have HB := n1_; have BK306 := n2_; have GW306 := n3_; have GE306 := n4_; have NB296_306 := n5_; have NB306_296 := n6_; clear n0_ n1_ n2_ n3_ n4_ n5_ n6_; clear hb hbox hg) | ((with_reducible refine gate_dst (N := 10) rfl ?_); refine box_event ?hg (N := 10) ?hd (cs := #[.int .i64 0, .int .i64 0]) (t := 27) ?hr ?_; (case hd => rfl); (case hg => rfl); (case hr => first | (go_simp; done) | (go_simp; rfl)); intro gb307 hg w21 hbox hb; have n0_ := Aside0.mk (IsS59.below (by repeat (first | (with_reducible first | exact HI296.out | apply IsS59.alloc | apply IsS59.drewN | apply IsS59.drew | refine IsS59.far ?_ NB296_306.out _) | exact HI296.out)) hb); have n1_ := Aside0.mk (blk_below (g := gb306) (o := .cells #[.int .i64 0, .int .i64 0, .int .i64 0, .int .i64 0] 23 (0, 0)) (by (with_reducible repeat (first | apply blk_drewN | apply blk_drew | apply blk_alloc)); exact BK306.out) hb); have n2_ := Aside0.mk (below_step (by repeat (first | (with_reducible first | exact HB.out | apply below_alloc | apply pw_below_drewN | apply below_drew1 | refine below_set ?_ (IsS59.ge HI296.out) | refine below_set ?_ GE306.out) | exact HB.out)) hb); have n3_ := Aside0.mk (hbox); have n4_ := Aside0.mk ((by rw [hg]; exact (below_size (by repeat (first | (with_reducible first | exact HB.out | apply below_alloc | apply pw_below_drewN | apply below_drew1 | refine below_set ?_ (IsS59.ge HI296.out) | refine below_set ?_ GE306.out) | exact HB.out))) : w.heap.size ≤ gb307)); have n5_ := Aside0.mk ((by rw [hg]; exact (below_size (by repeat (first | (with_reducible first | exact HB.out | apply below_alloc | apply pw_below_drewN | apply below_drew1 | refine below_set ?_ (IsS59.ge HI296.out) | refine below_set ?_ GE306.out) | exact HB.out))) : w.heap.size ≤ gb307)); have n6_ := Aside0.mk ((by rw [hg]; exact Nat.ne_of_lt (blk_lt (g := gb306) (o := .cells #[.int .i64 0, .int .i64 0, .int .i64 0, .int .i64 0] 23 (0, 0)) (by (with_reducible repeat (first | apply blk_drewN | apply blk_drew | apply blk_alloc)); exact BK306.out)) : gb306 ≠ gb307)); have n7_ := Aside0.mk ((by rw [hg]; exact Nat.ne_of_gt (blk_lt (g := gb306) (o := .cells #[.int .i64 0, .int .i64 0, .int .i64 0, .int .i64 0] 23 (0, 0)) (by (with_reducible repeat (first | apply blk_drewN | apply blk_drew | apply blk_alloc)); exact BK306.out)) : gb307 ≠ gb306)); have n8_ := Aside0.mk ((by rw [hg]; exact Nat.ne_of_lt (IsS59.lt (show IsS59 w _ g296 t305 from by repeat (first | (with_reducible first | exact HI296.out | apply IsS59.alloc | apply IsS59.drewN | apply IsS59.drew | refine IsS59.far ?_ NB296_306.out _) | exact HI296.out))) : g296 ≠ gb307)); have n9_ := Aside0.mk ((by rw [hg]; exact Nat.ne_of_gt (IsS59.lt (show IsS59 w _ g296 t305 from by repeat (first | (with_reducible first | exact HI296.out | apply IsS59.alloc | apply IsS59.drewN | apply IsS59.drew | refine IsS59.far ?_ NB296_306.out _) | exact HI296.out))) : gb307 ≠ g296)); clear HI296; clear BK306; clear HB; have HI296 := n0_; have BK306 := n1_; have HB := n2_; have BK307 := n3_; have GW307 := n4_; have GE307 := n5_; have NB306_307 := n6_; have NB307_306 := n7_; have NB296_307 := n8_; have NB307_296 := n9_; clear n0_ n1_ n2_ n3_ n4_ n5_ n6_ n7_ n8_ n9_; clear hb hbox hg; have hnb22 := NB306_307.out; have hnc22 := NB307_306.out; have hnb23 := NB306_296.out; have hnc23 := NB296_306.out; have hcz24_0 : w21.cell? ⟨gb306, 0, none⟩ = some (.int .i64 0) := (blk_cell BK306.out 0).trans rfl; have hcz24_1 : w21.cell? ⟨gb306, 1, none⟩ = some (.int .i64 0) := (blk_cell BK306.out 1).trans rfl; have hcz24_2 : w21.cell? ⟨gb306, 2, none⟩ = some (.int .i64 0) := (blk_cell BK306.out 2).trans rfl; have hcz24_3 : w21.cell? ⟨gb306, 3, none⟩ = some (.int .i64 0) := (blk_cell BK306.out 3).trans rfl; have hfz24_0 := blk_frozen BK306.out 0; have hfz24_1 := blk_frozen BK306.out 1; have hfz24_2 := blk_frozen BK306.out 2; have hfz24_3 := blk_frozen BK306.out 3; have hnb25 := NB307_296.out; have hnc25 := NB296_307.out; have hcz26_0 : w21.cell? ⟨gb307, 0, none⟩ = some (.int .i64 0) := (blk_cell BK307.out 0).trans rfl; have hcz26_1 : w21.cell? ⟨gb307, 1, none⟩ = some (.int .i64 0) := (blk_cell BK307.out 1).trans rfl; have hfz26_0 := blk_frozen BK307.out 0; have hfz26_1 := blk_frozen BK307.out 1) | ((with_reducible refine gate_dst (N := 13) rfl ?_); refine box_event ?hg (N := 13) ?hd (cs := #[.int .i64 0, .int .i64 0, .int .i64 0, .int .i64 0]) (t := 23) ?hr ?_; (case hd => rfl); (case hg => rfl); (case hr => first | (go_simp; done) | (go_simp; rfl)); intro gb308 hg w27 hbox hb; have n0_ := Aside0.mk (IsS59.below (show IsS59 w ((((((w21.setCell ⟨gb306, 0, none⟩ (.int .i64 t297)).setCell ⟨gb306, 1, none⟩ (.int .i64 t298)).setCell ⟨gb306, 2, none⟩ (.int .i64 t299)).setCell ⟨gb306, 3, none⟩ (.int .i64 t300)).setCell ⟨gb307, 0, none⟩ (.int .i64 t301)).setCell ⟨gb307, 1, none⟩ (.int .i64 t302)) g296 t305 from by repeat (first | (with_reducible first | exact HI296.out | apply IsS59.alloc | apply IsS59.drewN | apply IsS59.drew | refine IsS59.far ?_ NB296_306.out _ | refine IsS59.far ?_ NB296_307.out _) | exact HI296.out)) hb); have n1_ := Aside0.mk (blk_below (g := gb306) (o := .cells #[.int .i64 t297, .int .i64 t298, .int .i64 t299, .int .i64 t300] 23 (0, 0)) (by (with_reducible repeat (first | apply blk_drewN | apply blk_drew | apply blk_alloc)); refine blk_far ?_ NB306_307.out _; (with_reducible repeat (first | apply blk_drewN | apply blk_drew | apply blk_alloc)); refine blk_far ?_ NB306_307.out _; (with_reducible repeat (first | apply blk_drewN | apply blk_drew | apply blk_alloc)); refine blk_put (cs := #[.int .i64 t297, .int .i64 t298, .int .i64 t299, .int .i64 0]) ?_ 3 _ rfl; (with_reducible repeat (first | apply blk_drewN | apply blk_drew | apply blk_alloc)); refine blk_put (cs := #[.int .i64 t297, .int .i64 t298, .int .i64 0, .int .i64 0]) ?_ 2 _ rfl; (with_reducible repeat (first | apply blk_drewN | apply blk_drew | apply blk_alloc)); refine blk_put (cs := #[.int .i64 t297, .int .i64 0, .int .i64 0, .int .i64 0]) ?_ 1 _ rfl; (with_reducible repeat (first | apply blk_drewN | apply blk_drew | apply blk_alloc)); refine blk_put (cs := #[.int .i64 0, .int .i64 0, .int .i64 0, .int .i64 0]) ?_ 0 _ rfl; (with_reducible repeat (first | apply blk_drewN | apply blk_drew | apply blk_alloc)); exact BK306.out) hb); have n2_ := Aside0.mk (blk_below (g := gb307) (o := .cells #[.int .i64 t301, .int .i64 t302] 27 (0, 0)) (by (with_reducible repeat (first | apply blk_drewN | apply blk_drew | apply blk_alloc)); refine blk_put (cs := #[.int .i64 t301, .int .i64 0]) ?_ 1 _ rfl; (with_reducible repeat (first | apply blk_drewN | apply blk_drew | apply blk_alloc)); refine blk_put (cs := #[.int .i64 0, .int .i64 0]) ?_ 0 _ rfl; (with_reducible repeat (first | apply blk_drewN | apply blk_drew | apply blk_alloc)); refine blk_far ?_ NB307_306.out _; (with_reducible repeat (first | apply blk_drewN | apply blk_drew | apply blk_alloc)); refine blk_far ?_ NB307_306.out _; (with_reducible repeat (first | apply blk_drewN | apply blk_drew | apply blk_alloc)); refine blk_far ?_ NB307_306.out _; (with_reducible repeat (first | apply blk_drewN | apply blk_drew | apply blk_alloc)); refine blk_far ?_ NB307_306.out _; (with_reducible repeat (first | apply blk_drewN | apply blk_drew | apply blk_alloc)); exact BK307.out) hb); have n3_ := Aside0.mk (below_step (by repeat (first | (with_reducible first | exact HB.out | apply below_alloc | apply pw_below_drewN | apply below_drew1 | refine below_set ?_ (IsS59.ge HI296.out) | refine below_set ?_ GE306.out | refine below_set ?_ GE307.out) | exact HB.out)) hb); have n4_ := Aside0.mk (hbox); have n5_ := Aside0.mk ((by rw [hg]; exact (below_size (by repeat (first | (with_reducible first | exact HB.out | apply below_alloc | apply pw_below_drewN | apply below_drew1 | refine below_set ?_ (IsS59.ge HI296.out) | refine below_set ?_ GE306.out | refine below_set ?_ GE307.out) | exact HB.out))) : w.heap.size ≤ gb308)); have n6_ := Aside0.mk ((by rw [hg]; exact (below_size (by repeat (first | (with_reducible first | exact HB.out | apply below_alloc | apply pw_below_drewN | apply below_drew1 | refine below_set ?_ (IsS59.ge HI296.out) | refine below_set ?_ GE306.out | refine below_set ?_ GE307.out) | exact HB.out))) : w.heap.size ≤ gb308)); have n7_ := Aside0.mk ((by rw [hg]; exact Nat.ne_of_lt (blk_lt (g := gb306) (o := .cells #[.int .i64 t297, .int .i64 t298, .int .i64 t299, .int .i64 t300] 23 (0, 0)) (by (with_reducible repeat (first | apply blk_drewN | apply blk_drew | apply blk_alloc)); refine blk_far ?_ NB306_307.out _; (with_reducible repeat (first | apply blk_drewN | apply blk_drew | apply blk_alloc)); refine blk_far ?_ NB306_307.out _; (with_reducible repeat (first | apply blk_drewN | apply blk_drew | apply blk_alloc)); refine blk_put (cs := #[.int .i64 t297, .int .i64 t298, .int .i64 t299, .int .i64 0]) ?_ 3 _ rfl; (with_reducible repeat (first | apply blk_drewN | apply blk_drew | apply blk_alloc)); refine blk_put (cs := #[.int .i64 t297, .int .i64 t298, .int .i64 0, .int .i64 0]) ?_ 2 _ rfl; (with_reducible repeat (first | apply blk_drewN | apply blk_drew | apply blk_alloc)); refine blk_put (cs := #[.int .i64 t297, .int .i64 0, .int .i64 0, .int .i64 0]) ?_ 1 _ rfl; (with_reducible repeat (first | apply blk_drewN | apply blk_drew | apply blk_alloc)); refine blk_put (cs := #[.int .i64 0, .int .i64 0, .int .i64 0, .int .i64 0]) ?_ 0 _ rfl; (with_reducible repeat (first | apply blk_drewN | apply blk_drew | apply blk_alloc)); exact BK306.out)) : gb306 ≠ gb308)); have n8_ := Aside0.mk ((by rw [hg]; exact Nat.ne_of_gt (blk_lt (g := gb306) (o := .cells #[.int .i64 t297, .int .i64 t298, .int .i64 t299, .int .i64 t300] 23 (0, 0)) (by (with_reducible repeat (first | apply blk_drewN | apply blk_drew | apply blk_alloc)); refine blk_far ?_ NB306_307.out _; (with_reducible repeat (first | apply blk_drewN | apply blk_drew | apply blk_alloc)); refine blk_far ?_ NB306_307.out _; (with_reducible repeat (first | apply blk_drewN | apply blk_drew | apply blk_alloc)); refine blk_put (cs := #[.int .i64 t297, .int .i64 t298, .int .i64 t299, .int .i64 0]) ?_ 3 _ rfl; (with_reducible repeat (first | apply blk_drewN | apply blk_drew | apply blk_alloc)); refine blk_put (cs := #[.int .i64 t297, .int .i64 t298, .int .i64 0, .int .i64 0]) ?_ 2 _ rfl; (with_reducible repeat (first | apply blk_drewN | apply blk_drew | apply blk_alloc)); refine blk_put (cs := #[.int .i64 t297, .int .i64 0, .int .i64 0, .int .i64 0]) ?_ 1 _ rfl; (with_reducible repeat (first | apply blk_drewN | apply blk_drew | apply blk_alloc)); refine blk_put (cs := #[.int .i64 0, .int .i64 0, .int .i64 0, .int .i64 0]) ?_ 0 _ rfl; (with_reducible repeat (first | apply blk_drewN | apply blk_drew | apply blk_alloc)); exact BK306.out)) : gb308 ≠ gb306)); have n9_ := Aside0.mk ((by rw [hg]; exact Nat.ne_of_lt (blk_lt (g := gb307) (o := .cells #[.int .i64 t301, .int .i64 t302] 27 (0, 0)) (by (with_reducible repeat (first | apply blk_drewN | apply blk_drew | apply blk_alloc)); refine blk_put (cs := #[.int .i64 t301, .int .i64 0]) ?_ 1 _ rfl; (with_reducible repeat (first | apply blk_drewN | apply blk_drew | apply blk_alloc)); refine blk_put (cs := #[.int .i64 0, .int .i64 0]) ?_ 0 _ rfl; (with_reducible repeat (first | apply blk_drewN | apply blk_drew | apply blk_alloc)); refine blk_far ?_ NB307_306.out _; (with_reducible repeat (first | apply blk_drewN | apply blk_drew | apply blk_alloc)); refine blk_far ?_ NB307_306.out _; (with_reducible repeat (first | apply blk_drewN | apply blk_drew | apply blk_alloc)); refine blk_far ?_ NB307_306.out _; (with_reducible repeat (first | apply blk_drewN | apply blk_drew | apply blk_alloc)); refine blk_far ?_ NB307_306.out _; (with_reducible repeat (first | apply blk_drewN | apply blk_drew | apply blk_alloc)); exact BK307.out)) : gb307 ≠ gb308)); have n10_ := Aside0.mk ((by rw [hg]; exact Nat.ne_of_gt (blk_lt (g := gb307) (o := .cells #[.int .i64 t301, .int .i64 t302] 27 (0, 0)) (by (with_reducible repeat (first | apply blk_drewN | apply blk_drew | apply blk_alloc)); refine blk_put (cs := #[.int .i64 t301, .int .i64 0]) ?_ 1 _ rfl; (with_reducible repeat (first | apply blk_drewN | apply blk_drew | apply blk_alloc)); refine blk_put (cs := #[.int .i64 0, .int .i64 0]) ?_ 0 _ rfl; (with_reducible repeat (first | apply blk_drewN | apply blk_drew | apply blk_alloc)); refine blk_far ?_ NB307_306.out _; (with_reducible repeat (first | apply blk_drewN | apply blk_drew | apply blk_alloc)); refine blk_far ?_ NB307_306.out _; (with_reducible repeat (first | apply blk_drewN | apply blk_drew | apply blk_alloc)); refine blk_far ?_ NB307_306.out _; (with_reducible repeat (first | apply blk_drewN | apply blk_drew | apply blk_alloc)); refine blk_far ?_ NB307_306.out _; (with_reducible repeat (first | apply blk_drewN | apply blk_drew | apply blk_alloc)); exact BK307.out)) : gb308 ≠ gb307)); have n11_ := Aside0.mk ((by rw [hg]; exact Nat.ne_of_lt (IsS59.lt (show IsS59 w _ g296 t305 from by repeat (first | (with_reducible first | exact HI296.out | apply IsS59.alloc | apply IsS59.drewN | apply IsS59.drew | refine IsS59.far ?_ NB296_306.out _ | refine IsS59.far ?_ NB296_307.out _) | exact HI296.out))) : g296 ≠ gb308)); have n12_ := Aside0.mk ((by rw [hg]; exact Nat.ne_of_gt (IsS59.lt (show IsS59 w _ g296 t305 from by repeat (first | (with_reducible first | exact HI296.out | apply IsS59.alloc | apply IsS59.drewN | apply IsS59.drew | refine IsS59.far ?_ NB296_306.out _ | refine IsS59.far ?_ NB296_307.out _) | exact HI296.out))) : gb308 ≠ g296)); clear HI296; clear BK306; clear BK307; clear HB; have HI296 := n0_; have BK306 := n1_; have BK307 := n2_; have HB := n3_; have BK308 := n4_; have GW308 := n5_; have GE308 := n6_; have NB306_308 := n7_; have NB308_306 := n8_; have NB307_308 := n9_; have NB308_307 := n10_; have NB296_308 := n11_; have NB308_296 := n12_; clear n0_ n1_ n2_ n3_ n4_ n5_ n6_ n7_ n8_ n9_ n10_ n11_ n12_; clear hb hbox hg; have hnb28 := NB308_306.out; have hnc28 := NB306_308.out; have hnb29 := NB308_307.out; have hnc29 := NB307_308.out; have hnb30 := NB308_296.out; have hnc30 := NB296_308.out; have hcz31_0 : w27.cell? ⟨gb308, 0, none⟩ = some (.int .i64 0) := (blk_cell BK308.out 0).trans rfl; have hcz31_1 : w27.cell? ⟨gb308, 1, none⟩ = some (.int .i64 0) := (blk_cell BK308.out 1).trans rfl; have hcz31_2 : w27.cell? ⟨gb308, 2, none⟩ = some (.int .i64 0) := (blk_cell BK308.out 2).trans rfl; have hcz31_3 : w27.cell? ⟨gb308, 3, none⟩ = some (.int .i64 0) := (blk_cell BK308.out 3).trans rfl; have hfz31_0 := blk_frozen BK308.out 0; have hfz31_1 := blk_frozen BK308.out 1; have hfz31_2 := blk_frozen BK308.out 2; have hfz31_3 := blk_frozen BK308.out 3; have hcz32_0 : w27.cell? ⟨gb307, 0, none⟩ = some (.int .i64 t301) := (blk_cell BK307.out 0).trans rfl; have hcz32_1 : w27.cell? ⟨gb307, 1, none⟩ = some (.int .i64 t302) := (blk_cell BK307.out 1).trans rfl; have hfz32_0 := blk_frozen BK307.out 0; have hfz32_1 := blk_frozen BK307.out 1) | ((with_reducible refine gate_callee (f := 17) rfl ?_); refine goesL_ (some 56) rfl rfl Try.func17 (by kernel_rfl) rfl #[.agg #[.int .i64 0, .int .i64 3, .int .i64 5, .int .i64 2000], .agg #[.int .i64 t301, .int .i64 t302], .int .i64 (wrap64 (a1)), .int .i64 (wrap64 (a2)), .int .i64 (wrap64 (a3))] rfl (by (try simp only [List.map_toArray, List.map_cons, List.map_nil]); first | done | rfl | (simp only [List.length_drop, List.length_take]; rfl)) ?_; (with_reducible refine (control_Bound.calls k 0 3 5 2000 t301 t302 (wrap64 (a1)) (wrap64 (a2)) (wrap64 (a3)) t309 t310 _ A9.out).mono ?_); rintro e w33 ⟨rfl, hb⟩; refine ⟨_, rfl, ?_⟩; have n0_ := Aside0.mk (IsS59.below (show IsS59 w ((((w27.setCell ⟨gb308, 0, none⟩ (.int .i64 0)).setCell ⟨gb308, 1, none⟩ (.int .i64 3)).setCell ⟨gb308, 2, none⟩ (.int .i64 5)).setCell ⟨gb308, 3, none⟩ (.int .i64 2000)) g296 t305 from by repeat (first | (with_reducible first | exact HI296.out | apply IsS59.alloc | apply IsS59.drewN | apply IsS59.drew | refine IsS59.far ?_ NB296_306.out _ | refine IsS59.far ?_ NB296_307.out _ | refine IsS59.far ?_ NB296_308.out _) | exact HI296.out)) hb); have n1_ := Aside0.mk (blk_below (g := gb306) (o := .cells #[.int .i64 t297, .int .i64 t298, .int .i64 t299, .int .i64 t300] 23 (0, 0)) (by (with_reducible repeat (first | apply blk_drewN | apply blk_drew | apply blk_alloc)); refine blk_far ?_ NB306_308.out _; (with_reducible repeat (first | apply blk_drewN | apply blk_drew | apply blk_alloc)); refine blk_far ?_ NB306_308.out _; (with_reducible repeat (first | apply blk_drewN | apply blk_drew | apply blk_alloc)); refine blk_far ?_ NB306_308.out _; (with_reducible repeat (first | apply blk_drewN | apply blk_drew | apply blk_alloc)); refine blk_far ?_ NB306_308.out _; (with_reducible repeat (first | apply blk_drewN | apply blk_drew | apply blk_alloc)); exact BK306.out) hb); have n2_ := Aside0.mk (blk_below (g := gb307) (o := .cells #[.int .i64 t301, .int .i64 t302] 27 (0, 0)) (by (with_reducible repeat (first | apply blk_drewN | apply blk_drew | apply blk_alloc)); refine blk_far ?_ NB307_308.out _; (with_reducible repeat (first | apply blk_drewN | apply blk_drew | apply blk_alloc)); refine blk_far ?_ NB307_308.out _; (with_reducible repeat (first | apply blk_drewN | apply blk_drew | apply blk_alloc)); refine blk_far ?_ NB307_308.out _; (with_reducible repeat (first | apply blk_drewN | apply blk_drew | apply blk_alloc)); refine blk_far ?_ NB307_308.out _; (with_reducible repeat (first | apply blk_drewN | apply blk_drew | apply blk_alloc)); exact BK307.out) hb); have n3_ := Aside0.mk (blk_below (g := gb308) (o := .cells #[.int .i64 0, .int .i64 3, .int .i64 5, .int .i64 2000] 23 (0, 0)) (by (with_reducible repeat (first | apply blk_drewN | apply blk_drew | apply blk_alloc)); refine blk_put (cs := #[.int .i64 0, .int .i64 3, .int .i64 5, .int .i64 0]) ?_ 3 _ rfl; (with_reducible repeat (first | apply blk_drewN | apply blk_drew | apply blk_alloc)); refine blk_put (cs := #[.int .i64 0, .int .i64 3, .int .i64 0, .int .i64 0]) ?_ 2 _ rfl; (with_reducible repeat (first | apply blk_drewN | apply blk_drew | apply blk_alloc)); refine blk_put (cs := #[.int .i64 0, .int .i64 0, .int .i64 0, .int .i64 0]) ?_ 1 _ rfl; (with_reducible repeat (first | apply blk_drewN | apply blk_drew | apply blk_alloc)); refine blk_put (cs := #[.int .i64 0, .int .i64 0, .int .i64 0, .int .i64 0]) ?_ 0 _ rfl; (with_reducible repeat (first | apply blk_drewN | apply blk_drew | apply blk_alloc)); exact BK308.out) hb); have n4_ := Aside0.mk (below_step (by repeat (first | (with_reducible first | exact HB.out | apply below_alloc | apply pw_below_drewN | apply below_drew1 | refine below_set ?_ (IsS59.ge HI296.out) | refine below_set ?_ GE306.out | refine below_set ?_ GE307.out | refine below_set ?_ GE308.out) | exact HB.out)) hb); clear HI296; clear BK306; clear BK307; clear BK308; clear HB; have HI296 := n0_; have BK306 := n1_; have BK307 := n2_; have BK308 := n3_; have HB := n4_; clear n0_ n1_ n2_ n3_ n4_; (try clear hb); (try clear hb2); (try clear hk); (try clear hi); have hcz34_0 : w33.cell? ⟨gb308, 0, none⟩ = some (.int .i64 0) := (blk_cell BK308.out 0).trans rfl; have hcz34_1 : w33.cell? ⟨gb308, 1, none⟩ = some (.int .i64 3) := (blk_cell BK308.out 1).trans rfl; have hcz34_2 : w33.cell? ⟨gb308, 2, none⟩ = some (.int .i64 5) := (blk_cell BK308.out 2).trans rfl; have hcz34_3 : w33.cell? ⟨gb308, 3, none⟩ = some (.int .i64 2000) := (blk_cell BK308.out 3).trans rfl; have hfz34_0 := blk_frozen BK308.out 0; have hfz34_1 := blk_frozen BK308.out 1; have hfz34_2 := blk_frozen BK308.out 2; have hfz34_3 := blk_frozen BK308.out 3; have hcz35_0 : w33.cell? ⟨gb307, 0, none⟩ = some (.int .i64 t301) := (blk_cell BK307.out 0).trans rfl; have hcz35_1 : w33.cell? ⟨gb307, 1, none⟩ = some (.int .i64 t302) := (blk_cell BK307.out 1).trans rfl; have hfz35_0 := blk_frozen BK307.out 0; have hfz35_1 := blk_frozen BK307.out 1) | ((with_reducible refine gate_callee (f := 17) rfl ?_); refine goesL_ (some 67) rfl rfl Try.func17 (by kernel_rfl) rfl #[.agg #[.int .i64 0, .int .i64 3, .int .i64 5, .int .i64 2000], .agg #[.int .i64 t301, .int .i64 t302], .int .i64 (wrap64 ((wrap64 (a1)) + (wrap64 (a3)))), .int .i64 (wrap64 (a2)), .int .i64 (wrap64 (a3))] rfl (by (try simp only [List.map_toArray, List.map_cons, List.map_nil]); first | done | rfl | (simp only [List.length_drop, List.length_take]; rfl)) ?_; (with_reducible refine (control_Bound.calls k 0 3 5 2000 t301 t302 (wrap64 ((wrap64 (a1)) + (wrap64 (a3)))) (wrap64 (a2)) (wrap64 (a3)) t311 t312 _ A10.out).mono ?_); rintro e w36 ⟨rfl, hb⟩; refine ⟨_, rfl, ?_⟩; have n0_ := Aside0.mk (IsS59.below (by repeat (first | (with_reducible first | exact HI296.out | apply IsS59.alloc | apply IsS59.drewN | apply IsS59.drew | refine IsS59.far ?_ NB296_306.out _ | refine IsS59.far ?_ NB296_307.out _ | refine IsS59.far ?_ NB296_308.out _) | exact HI296.out)) hb); have n1_ := Aside0.mk (blk_below (g := gb306) (o := .cells #[.int .i64 t297, .int .i64 t298, .int .i64 t299, .int .i64 t300] 23 (0, 0)) (by (with_reducible repeat (first | apply blk_drewN | apply blk_drew | apply blk_alloc)); exact BK306.out) hb); have n2_ := Aside0.mk (blk_below (g := gb307) (o := .cells #[.int .i64 t301, .int .i64 t302] 27 (0, 0)) (by (with_reducible repeat (first | apply blk_drewN | apply blk_drew | apply blk_alloc)); exact BK307.out) hb); have n3_ := Aside0.mk (blk_below (g := gb308) (o := .cells #[.int .i64 0, .int .i64 3, .int .i64 5, .int .i64 2000] 23 (0, 0)) (by (with_reducible repeat (first | apply blk_drewN | apply blk_drew | apply blk_alloc)); exact BK308.out) hb); have n4_ := Aside0.mk (below_step (by repeat (first | (with_reducible first | exact HB.out | apply below_alloc | apply pw_below_drewN | apply below_drew1 | refine below_set ?_ (IsS59.ge HI296.out) | refine below_set ?_ GE306.out | refine below_set ?_ GE307.out | refine below_set ?_ GE308.out) | exact HB.out)) hb); clear HI296; clear BK306; clear BK307; clear BK308; clear HB; have HI296 := n0_; have BK306 := n1_; have BK307 := n2_; have BK308 := n3_; have HB := n4_; clear n0_ n1_ n2_ n3_ n4_; (try clear hb); (try clear hb2); (try clear hk); (try clear hi); have hcz37_0 : w36.cell? ⟨gb308, 0, none⟩ = some (.int .i64 0) := (blk_cell BK308.out 0).trans rfl; have hcz37_1 : w36.cell? ⟨gb308, 1, none⟩ = some (.int .i64 3) := (blk_cell BK308.out 1).trans rfl; have hcz37_2 : w36.cell? ⟨gb308, 2, none⟩ = some (.int .i64 5) := (blk_cell BK308.out 2).trans rfl; have hcz37_3 : w36.cell? ⟨gb308, 3, none⟩ = some (.int .i64 2000) := (blk_cell BK308.out 3).trans rfl; have hfz37_0 := blk_frozen BK308.out 0; have hfz37_1 := blk_frozen BK308.out 1; have hfz37_2 := blk_frozen BK308.out 2; have hfz37_3 := blk_frozen BK308.out 3; have hcz38_0 : w36.cell? ⟨gb307, 0, none⟩ = some (.int .i64 t301) := (blk_cell BK307.out 0).trans rfl; have hcz38_1 : w36.cell? ⟨gb307, 1, none⟩ = some (.int .i64 t302) := (blk_cell BK307.out 1).trans rfl; have hfz38_0 := blk_frozen BK307.out 0; have hfz38_1 := blk_frozen BK307.out 1) | ((with_reducible refine gate_callee (f := 17) rfl ?_); refine goesL_ (some 79) rfl rfl Try.func17 (by kernel_rfl) rfl #[.agg #[.int .i64 0, .int .i64 3, .int .i64 5, .int .i64 2000], .agg #[.int .i64 t301, .int .i64 t302], .int .i64 (wrap64 (a1)), .int .i64 (wrap64 ((wrap64 (a2)) + (wrap64 (a3)))), .int .i64 (wrap64 (2 * (wrap64 (a3))))] rfl (by (try simp only [List.map_toArray, List.map_cons, List.map_nil]); first | done | rfl | (simp only [List.length_drop, List.length_take]; rfl)) ?_; (with_reducible refine (control_Bound.calls k 0 3 5 2000 t301 t302 (wrap64 (a1)) (wrap64 ((wrap64 (a2)) + (wrap64 (a3)))) (wrap64 (2 * (wrap64 (a3)))) t313 t314 _ A11.out).mono ?_); rintro e w39 ⟨rfl, hb⟩; refine ⟨_, rfl, ?_⟩; have n0_ := Aside0.mk (IsS59.below (by repeat (first | (with_reducible first | exact HI296.out | apply IsS59.alloc | apply IsS59.drewN | apply IsS59.drew | refine IsS59.far ?_ NB296_306.out _ | refine IsS59.far ?_ NB296_307.out _ | refine IsS59.far ?_ NB296_308.out _) | exact HI296.out)) hb); have n1_ := Aside0.mk (blk_below (g := gb306) (o := .cells #[.int .i64 t297, .int .i64 t298, .int .i64 t299, .int .i64 t300] 23 (0, 0)) (by (with_reducible repeat (first | apply blk_drewN | apply blk_drew | apply blk_alloc)); exact BK306.out) hb); have n2_ := Aside0.mk (blk_below (g := gb307) (o := .cells #[.int .i64 t301, .int .i64 t302] 27 (0, 0)) (by (with_reducible repeat (first | apply blk_drewN | apply blk_drew | apply blk_alloc)); exact BK307.out) hb); have n3_ := Aside0.mk (blk_below (g := gb308) (o := .cells #[.int .i64 0, .int .i64 3, .int .i64 5, .int .i64 2000] 23 (0, 0)) (by (with_reducible repeat (first | apply blk_drewN | apply blk_drew | apply blk_alloc)); exact BK308.out) hb); have n4_ := Aside0.mk (below_step (by repeat (first | (with_reducible first | exact HB.out | apply below_alloc | apply pw_below_drewN | apply below_drew1 | refine below_set ?_ (IsS59.ge HI296.out) | refine below_set ?_ GE306.out | refine below_set ?_ GE307.out | refine below_set ?_ GE308.out) | exact HB.out)) hb); clear HI296; clear BK306; clear BK307; clear BK308; clear HB; have HI296 := n0_; have BK306 := n1_; have BK307 := n2_; have BK308 := n3_; have HB := n4_; clear n0_ n1_ n2_ n3_ n4_; (try clear hb); (try clear hb2); (try clear hk); (try clear hi); have hcz40_0 : w39.cell? ⟨gb308, 0, none⟩ = some (.int .i64 0) := (blk_cell BK308.out 0).trans rfl; have hcz40_1 : w39.cell? ⟨gb308, 1, none⟩ = some (.int .i64 3) := (blk_cell BK308.out 1).trans rfl; have hcz40_2 : w39.cell? ⟨gb308, 2, none⟩ = some (.int .i64 5) := (blk_cell BK308.out 2).trans rfl; have hcz40_3 : w39.cell? ⟨gb308, 3, none⟩ = some (.int .i64 2000) := (blk_cell BK308.out 3).trans rfl; have hfz40_0 := blk_frozen BK308.out 0; have hfz40_1 := blk_frozen BK308.out 1; have hfz40_2 := blk_frozen BK308.out 2; have hfz40_3 := blk_frozen BK308.out 3; have hcz41_0 : w39.cell? ⟨gb307, 0, none⟩ = some (.int .i64 t301) := (blk_cell BK307.out 0).trans rfl; have hcz41_1 : w39.cell? ⟨gb307, 1, none⟩ = some (.int .i64 t302) := (blk_cell BK307.out 1).trans rfl; have hfz41_0 := blk_frozen BK307.out 0; have hfz41_1 := blk_frozen BK307.out 1) | ((with_reducible refine gate_callee (f := 19) rfl ?_); refine goesL_ (some 87) rfl rfl Try.func19 (by kernel_rfl) rfl #[.agg #[.int .i64 0, .int .i64 3, .int .i64 5, .int .i64 2000], .agg #[.int .i64 t301, .int .i64 t302], .int .i64 (wrap64 (a1)), .int .i64 (wrap64 (a2))] rfl (by (try simp only [List.map_toArray, List.map_cons, List.map_nil]); first | done | rfl | (simp only [List.length_drop, List.length_take]; rfl)) ?_; (with_reducible refine (control_Demand.calls k 0 3 5 2000 t301 t302 (wrap64 (a1)) (wrap64 (a2)) t315 t316 _ A12.out).mono ?_); rintro e w42 ⟨rfl, hb⟩; refine ⟨_, rfl, ?_⟩; have n0_ := Aside0.mk (IsS59.below (by repeat (first | (with_reducible first | exact HI296.out | apply IsS59.alloc | apply IsS59.drewN | apply IsS59.drew | refine IsS59.far ?_ NB296_306.out _ | refine IsS59.far ?_ NB296_307.out _ | refine IsS59.far ?_ NB296_308.out _) | exact HI296.out)) hb); have n1_ := Aside0.mk (blk_below (g := gb306) (o := .cells #[.int .i64 t297, .int .i64 t298, .int .i64 t299, .int .i64 t300] 23 (0, 0)) (by (with_reducible repeat (first | apply blk_drewN | apply blk_drew | apply blk_alloc)); exact BK306.out) hb); have n2_ := Aside0.mk (blk_below (g := gb307) (o := .cells #[.int .i64 t301, .int .i64 t302] 27 (0, 0)) (by (with_reducible repeat (first | apply blk_drewN | apply blk_drew | apply blk_alloc)); exact BK307.out) hb); have n3_ := Aside0.mk (blk_below (g := gb308) (o := .cells #[.int .i64 0, .int .i64 3, .int .i64 5, .int .i64 2000] 23 (0, 0)) (by (with_reducible repeat (first | apply blk_drewN | apply blk_drew | apply blk_alloc)); exact BK308.out) hb); have n4_ := Aside0.mk (below_step (by repeat (first | (with_reducible first | exact HB.out | apply below_alloc | apply pw_below_drewN | apply below_drew1 | refine below_set ?_ (IsS59.ge HI296.out) | refine below_set ?_ GE306.out | refine below_set ?_ GE307.out | refine below_set ?_ GE308.out) | exact HB.out)) hb); clear HI296; clear BK306; clear BK307; clear BK308; clear HB; have HI296 := n0_; have BK306 := n1_; have BK307 := n2_; have BK308 := n3_; have HB := n4_; clear n0_ n1_ n2_ n3_ n4_; (try clear hb); (try clear hb2); (try clear hk); (try clear hi); have hcz43_0 : w42.cell? ⟨gb308, 0, none⟩ = some (.int .i64 0) := (blk_cell BK308.out 0).trans rfl; have hcz43_1 : w42.cell? ⟨gb308, 1, none⟩ = some (.int .i64 3) := (blk_cell BK308.out 1).trans rfl; have hcz43_2 : w42.cell? ⟨gb308, 2, none⟩ = some (.int .i64 5) := (blk_cell BK308.out 2).trans rfl; have hcz43_3 : w42.cell? ⟨gb308, 3, none⟩ = some (.int .i64 2000) := (blk_cell BK308.out 3).trans rfl; have hfz43_0 := blk_frozen BK308.out 0; have hfz43_1 := blk_frozen BK308.out 1; have hfz43_2 := blk_frozen BK308.out 2; have hfz43_3 := blk_frozen BK308.out 3; have hcz44_0 : w42.cell? ⟨gb307, 0, none⟩ = some (.int .i64 t301) := (blk_cell BK307.out 0).trans rfl; have hcz44_1 : w42.cell? ⟨gb307, 1, none⟩ = some (.int .i64 t302) := (blk_cell BK307.out 1).trans rfl; have hfz44_0 := blk_frozen BK307.out 0; have hfz44_1 := blk_frozen BK307.out 1) | ((with_reducible refine gate_callee (f := 19) rfl ?_); refine goesL_ (some 99) rfl rfl Try.func19 (by kernel_rfl) rfl #[.agg #[.int .i64 0, .int .i64 3, .int .i64 5, .int .i64 2000], .agg #[.int .i64 t301, .int .i64 t302], .int .i64 (wrap64 ((wrap64 (a1)) + (wrap64 (a3)))), .int .i64 (wrap64 ((wrap64 (a2)) + (wrap64 (a3))))] rfl (by (try simp only [List.map_toArray, List.map_cons, List.map_nil]); first | done | rfl | (simp only [List.length_drop, List.length_take]; rfl)) ?_; (with_reducible refine (control_Demand.calls k 0 3 5 2000 t301 t302 (wrap64 ((wrap64 (a1)) + (wrap64 (a3)))) (wrap64 ((wrap64 (a2)) + (wrap64 (a3)))) t317 t318 _ A13.out).mono ?_); rintro e w45 ⟨rfl, hb⟩; refine ⟨_, rfl, ?_⟩; have n0_ := Aside0.mk (IsS59.below (by repeat (first | (with_reducible first | exact HI296.out | apply IsS59.alloc | apply IsS59.drewN | apply IsS59.drew | refine IsS59.far ?_ NB296_306.out _ | refine IsS59.far ?_ NB296_307.out _ | refine IsS59.far ?_ NB296_308.out _) | exact HI296.out)) hb); have n1_ := Aside0.mk (blk_below (g := gb306) (o := .cells #[.int .i64 t297, .int .i64 t298, .int .i64 t299, .int .i64 t300] 23 (0, 0)) (by (with_reducible repeat (first | apply blk_drewN | apply blk_drew | apply blk_alloc)); exact BK306.out) hb); have n2_ := Aside0.mk (blk_below (g := gb307) (o := .cells #[.int .i64 t301, .int .i64 t302] 27 (0, 0)) (by (with_reducible repeat (first | apply blk_drewN | apply blk_drew | apply blk_alloc)); exact BK307.out) hb); have n3_ := Aside0.mk (blk_below (g := gb308) (o := .cells #[.int .i64 0, .int .i64 3, .int .i64 5, .int .i64 2000] 23 (0, 0)) (by (with_reducible repeat (first | apply blk_drewN | apply blk_drew | apply blk_alloc)); exact BK308.out) hb); have n4_ := Aside0.mk (below_step (by repeat (first | (with_reducible first | exact HB.out | apply below_alloc | apply pw_below_drewN | apply below_drew1 | refine below_set ?_ (IsS59.ge HI296.out) | refine below_set ?_ GE306.out | refine below_set ?_ GE307.out | refine below_set ?_ GE308.out) | exact HB.out)) hb); clear HI296; clear BK306; clear BK307; clear BK308; clear HB; have HI296 := n0_; have BK306 := n1_; have BK307 := n2_; have BK308 := n3_; have HB := n4_; clear n0_ n1_ n2_ n3_ n4_; (try clear hb); (try clear hb2); (try clear hk); (try clear hi); have hcz46_0 : w45.cell? ⟨gb307, 0, none⟩ = some (.int .i64 t301) := (blk_cell BK307.out 0).trans rfl; have hcz46_1 : w45.cell? ⟨gb307, 1, none⟩ = some (.int .i64 t302) := (blk_cell BK307.out 1).trans rfl; have hfz46_0 := blk_frozen BK307.out 0; have hfz46_1 := blk_frozen BK307.out 1) | ((with_reducible refine gate_callee (f := 21) rfl ?_); refine goesL_ (some 106) rfl rfl Try.func21 (by kernel_rfl) rfl #[.agg #[.int .i64 t301, .int .i64 t302], .int .i64 (wrap64 (a1)), .int .i64 (wrap64 (a2)), .int .i64 4, .int .i64 9] rfl (by (try simp only [List.map_toArray, List.map_cons, List.map_nil]); first | done | rfl | (simp only [List.length_drop, List.length_take]; rfl)) ?_; (with_reducible refine (control_Plan.calls k t301 t302 (wrap64 (a1)) (wrap64 (a2)) 4 9 t319 t320 t321 t322 t323 t324 _ A14.out).mono ?_); rintro e w47 ⟨rfl, hb⟩; refine ⟨_, rfl, ?_⟩; have n0_ := Aside0.mk (IsS59.below (by repeat (first | (with_reducible first | exact HI296.out | apply IsS59.alloc | apply IsS59.drewN | apply IsS59.drew | refine IsS59.far ?_ NB296_306.out _ | refine IsS59.far ?_ NB296_307.out _ | refine IsS59.far ?_ NB296_308.out _) | exact HI296.out)) hb); have n1_ := Aside0.mk (blk_below (g := gb306) (o := .cells #[.int .i64 t297, .int .i64 t298, .int .i64 t299, .int .i64 t300] 23 (0, 0)) (by (with_reducible repeat (first | apply blk_drewN | apply blk_drew | apply blk_alloc)); exact BK306.out) hb); have n2_ := Aside0.mk (blk_below (g := gb307) (o := .cells #[.int .i64 t301, .int .i64 t302] 27 (0, 0)) (by (with_reducible repeat (first | apply blk_drewN | apply blk_drew | apply blk_alloc)); exact BK307.out) hb); have n3_ := Aside0.mk (blk_below (g := gb308) (o := .cells #[.int .i64 0, .int .i64 3, .int .i64 5, .int .i64 2000] 23 (0, 0)) (by (with_reducible repeat (first | apply blk_drewN | apply blk_drew | apply blk_alloc)); exact BK308.out) hb); have n4_ := Aside0.mk (below_step (by repeat (first | (with_reducible first | exact HB.out | apply below_alloc | apply pw_below_drewN | apply below_drew1 | refine below_set ?_ (IsS59.ge HI296.out) | refine below_set ?_ GE306.out | refine below_set ?_ GE307.out | refine below_set ?_ GE308.out) | exact HB.out)) hb); clear HI296; clear BK306; clear BK307; clear BK308; clear HB; have HI296 := n0_; have BK306 := n1_; have BK307 := n2_; have BK308 := n3_; have HB := n4_; clear n0_ n1_ n2_ n3_ n4_; (try clear hb); (try clear hb2); (try clear hk); (try clear hi)) | ((with_reducible refine gate_dst (N := 27) rfl ?_); refine box_event ?hg (N := 27) ?hd (cs := #[.int .i64 0, .int .i64 0, .int .i64 0, .int .i64 0]) (t := 23) ?hr ?_; (case hd => rfl); (case hg => rfl); (case hr => first | (go_simp; done) | (go_simp; rfl)); intro gb325 hg w48 hbox hb; have n0_ := Aside0.mk (IsS59.below (by repeat (first | (with_reducible first | exact HI296.out | apply IsS59.alloc | apply IsS59.drewN | apply IsS59.drew | refine IsS59.far ?_ NB296_306.out _ | refine IsS59.far ?_ NB296_307.out _ | refine IsS59.far ?_ NB296_308.out _) | exact HI296.out)) hb); have n1_ := Aside0.mk (blk_below (g := gb306) (o := .cells #[.int .i64 t297, .int .i64 t298, .int .i64 t299, .int .i64 t300] 23 (0, 0)) (by (with_reducible repeat (first | apply blk_drewN | apply blk_drew | apply blk_alloc)); exact BK306.out) hb); have n2_ := Aside0.mk (blk_below (g := gb307) (o := .cells #[.int .i64 t301, .int .i64 t302] 27 (0, 0)) (by (with_reducible repeat (first | apply blk_drewN | apply blk_drew | apply blk_alloc)); exact BK307.out) hb); have n3_ := Aside0.mk (blk_below (g := gb308) (o := .cells #[.int .i64 0, .int .i64 3, .int .i64 5, .int .i64 2000] 23 (0, 0)) (by (with_reducible repeat (first | apply blk_drewN | apply blk_drew | apply blk_alloc)); exact BK308.out) hb); have n4_ := Aside0.mk (below_step (by repeat (first | (with_reducible first | exact HB.out | apply below_alloc | apply pw_below_drewN | apply below_drew1 | refine below_set ?_ (IsS59.ge HI296.out) | refine below_set ?_ GE306.out | refine below_set ?_ GE307.out | refine below_set ?_ GE308.out) | exact HB.out)) hb); have n5_ := Aside0.mk (hbox); have n6_ := Aside0.mk ((by rw [hg]; exact (below_size (by repeat (first | (with_reducible first | exact HB.out | apply below_alloc | apply pw_below_drewN | apply below_drew1 | refine below_set ?_ (IsS59.ge HI296.out) | refine below_set ?_ GE306.out | refine below_set ?_ GE307.out | refine below_set ?_ GE308.out) | exact HB.out))) : w.heap.size ≤ gb325)); have n7_ := Aside0.mk ((by rw [hg]; exact (below_size (by repeat (first | (with_reducible first | exact HB.out | apply below_alloc | apply pw_below_drewN | apply below_drew1 | refine below_set ?_ (IsS59.ge HI296.out) | refine below_set ?_ GE306.out | refine below_set ?_ GE307.out | refine below_set ?_ GE308.out) | exact HB.out))) : w.heap.size ≤ gb325)); have n8_ := Aside0.mk ((by rw [hg]; exact Nat.ne_of_lt (blk_lt (g := gb306) (o := .cells #[.int .i64 t297, .int .i64 t298, .int .i64 t299, .int .i64 t300] 23 (0, 0)) (by (with_reducible repeat (first | apply blk_drewN | apply blk_drew | apply blk_alloc)); exact BK306.out)) : gb306 ≠ gb325)); have n9_ := Aside0.mk ((by rw [hg]; exact Nat.ne_of_gt (blk_lt (g := gb306) (o := .cells #[.int .i64 t297, .int .i64 t298, .int .i64 t299, .int .i64 t300] 23 (0, 0)) (by (with_reducible repeat (first | apply blk_drewN | apply blk_drew | apply blk_alloc)); exact BK306.out)) : gb325 ≠ gb306)); have n10_ := Aside0.mk ((by rw [hg]; exact Nat.ne_of_lt (blk_lt (g := gb307) (o := .cells #[.int .i64 t301, .int .i64 t302] 27 (0, 0)) (by (with_reducible repeat (first | apply blk_drewN | apply blk_drew | apply blk_alloc)); exact BK307.out)) : gb307 ≠ gb325)); have n11_ := Aside0.mk ((by rw [hg]; exact Nat.ne_of_gt (blk_lt (g := gb307) (o := .cells #[.int .i64 t301, .int .i64 t302] 27 (0, 0)) (by (with_reducible repeat (first | apply blk_drewN | apply blk_drew | apply blk_alloc)); exact BK307.out)) : gb325 ≠ gb307)); have n12_ := Aside0.mk ((by rw [hg]; exact Nat.ne_of_lt (blk_lt (g := gb308) (o := .cells #[.int .i64 0, .int .i64 3, .int .i64 5, .int .i64 2000] 23 (0, 0)) (by (with_reducible repeat (first | apply blk_drewN | apply blk_drew | apply blk_alloc)); exact BK308.out)) : gb308 ≠ gb325)); have n13_ := Aside0.mk ((by rw [hg]; exact Nat.ne_of_gt (blk_lt (g := gb308) (o := .cells #[.int .i64 0, .int .i64 3, .int .i64 5, .int .i64 2000] 23 (0, 0)) (by (with_reducible repeat (first | apply blk_drewN | apply blk_drew | apply blk_alloc)); exact BK308.out)) : gb325 ≠ gb308)); have n14_ := Aside0.mk ((by rw [hg]; exact Nat.ne_of_lt (IsS59.lt (show IsS59 w _ g296 t305 from by repeat (first | (with_reducible first | exact HI296.out | apply IsS59.alloc | apply IsS59.drewN | apply IsS59.drew | refine IsS59.far ?_ NB296_306.out _ | refine IsS59.far ?_ NB296_307.out _ | refine IsS59.far ?_ NB296_308.out _) | exact HI296.out))) : g296 ≠ gb325)); have n15_ := Aside0.mk ((by rw [hg]; exact Nat.ne_of_gt (IsS59.lt (show IsS59 w _ g296 t305 from by repeat (first | (with_reducible first | exact HI296.out | apply IsS59.alloc | apply IsS59.drewN | apply IsS59.drew | refine IsS59.far ?_ NB296_306.out _ | refine IsS59.far ?_ NB296_307.out _ | refine IsS59.far ?_ NB296_308.out _) | exact HI296.out))) : gb325 ≠ g296)); clear HI296; clear BK306; clear BK307; clear BK308; clear HB; have HI296 := n0_; have BK306 := n1_; have BK307 := n2_; have BK308 := n3_; have HB := n4_; have BK325 := n5_; have GW325 := n6_; have GE325 := n7_; have NB306_325 := n8_; have NB325_306 := n9_; have NB307_325 := n10_; have NB325_307 := n11_; have NB308_325 := n12_; have NB325_308 := n13_; have NB296_325 := n14_; have NB325_296 := n15_; clear n0_ n1_ n2_ n3_ n4_ n5_ n6_ n7_ n8_ n9_ n10_ n11_ n12_ n13_ n14_ n15_; clear hb hbox hg; have hnb49 := NB325_306.out; have hnc49 := NB306_325.out; have hnb50 := NB325_307.out; have hnc50 := NB307_325.out; have hnb51 := NB325_308.out; have hnc51 := NB308_325.out; have hnb52 := NB325_296.out; have hnc52 := NB296_325.out; have hcz53_0 : w48.cell? ⟨gb325, 0, none⟩ = some (.int .i64 0) := (blk_cell BK325.out 0).trans rfl; have hcz53_1 : w48.cell? ⟨gb325, 1, none⟩ = some (.int .i64 0) := (blk_cell BK325.out 1).trans rfl; have hcz53_2 : w48.cell? ⟨gb325, 2, none⟩ = some (.int .i64 0) := (blk_cell BK325.out 2).trans rfl; have hcz53_3 : w48.cell? ⟨gb325, 3, none⟩ = some (.int .i64 0) := (blk_cell BK325.out 3).trans rfl; have hfz53_0 := blk_frozen BK325.out 0; have hfz53_1 := blk_frozen BK325.out 1; have hfz53_2 := blk_frozen BK325.out 2; have hfz53_3 := blk_frozen BK325.out 3; have hcz54_0 : w48.cell? ⟨gb307, 0, none⟩ = some (.int .i64 t301) := (blk_cell BK307.out 0).trans rfl; have hcz54_1 : w48.cell? ⟨gb307, 1, none⟩ = some (.int .i64 t302) := (blk_cell BK307.out 1).trans rfl; have hfz54_0 := blk_frozen BK307.out 0; have hfz54_1 := blk_frozen BK307.out 1) | ((with_reducible refine gate_callee (f := 21) rfl ?_); refine goesL_ (some 118) rfl rfl Try.func21 (by kernel_rfl) rfl #[.agg #[.int .i64 t301, .int .i64 t302], .int .i64 (wrap64 ((wrap64 (a1)) + (wrap64 (a3)))), .int .i64 (wrap64 ((wrap64 (a2)) + (wrap64 (a3)))), .int .i64 4, .int .i64 9] rfl (by (try simp only [List.map_toArray, List.map_cons, List.map_nil]); first | done | rfl | (simp only [List.length_drop, List.length_take]; rfl)) ?_; (with_reducible refine (control_Plan.calls k t301 t302 (wrap64 ((wrap64 (a1)) + (wrap64 (a3)))) (wrap64 ((wrap64 (a2)) + (wrap64 (a3)))) 4 9 t326 t327 t328 t329 t330 t331 _ A15.out).mono ?_); rintro e w55 ⟨rfl, hb⟩; refine ⟨_, rfl, ?_⟩; have n0_ := Aside0.mk (IsS59.below (show IsS59 w ((((w48.setCell ⟨gb325, 0, none⟩ (.int .i64 t319)).setCell ⟨gb325, 1, none⟩ (.int .i64 t320)).setCell ⟨gb325, 2, none⟩ (.int .i64 t321)).setCell ⟨gb325, 3, none⟩ (.int .i64 t322)) g296 t305 from by repeat (first | (with_reducible first | exact HI296.out | apply IsS59.alloc | apply IsS59.drewN | apply IsS59.drew | refine IsS59.far ?_ NB296_306.out _ | refine IsS59.far ?_ NB296_307.out _ | refine IsS59.far ?_ NB296_308.out _ | refine IsS59.far ?_ NB296_325.out _) | exact HI296.out)) hb); have n1_ := Aside0.mk (blk_below (g := gb306) (o := .cells #[.int .i64 t297, .int .i64 t298, .int .i64 t299, .int .i64 t300] 23 (0, 0)) (by (with_reducible repeat (first | apply blk_drewN | apply blk_drew | apply blk_alloc)); refine blk_far ?_ NB306_325.out _; (with_reducible repeat (first | apply blk_drewN | apply blk_drew | apply blk_alloc)); refine blk_far ?_ NB306_325.out _; (with_reducible repeat (first | apply blk_drewN | apply blk_drew | apply blk_alloc)); refine blk_far ?_ NB306_325.out _; (with_reducible repeat (first | apply blk_drewN | apply blk_drew | apply blk_alloc)); refine blk_far ?_ NB306_325.out _; (with_reducible repeat (first | apply blk_drewN | apply blk_drew | apply blk_alloc)); exact BK306.out) hb); have n2_ := Aside0.mk (blk_below (g := gb307) (o := .cells #[.int .i64 t301, .int .i64 t302] 27 (0, 0)) (by (with_reducible repeat (first | apply blk_drewN | apply blk_drew | apply blk_alloc)); refine blk_far ?_ NB307_325.out _; (with_reducible repeat (first | apply blk_drewN | apply blk_drew | apply blk_alloc)); refine blk_far ?_ NB307_325.out _; (with_reducible repeat (first | apply blk_drewN | apply blk_drew | apply blk_alloc)); refine blk_far ?_ NB307_325.out _; (with_reducible repeat (first | apply blk_drewN | apply blk_drew | apply blk_alloc)); refine blk_far ?_ NB307_325.out _; (with_reducible repeat (first | apply blk_drewN | apply blk_drew | apply blk_alloc)); exact BK307.out) hb); have n3_ := Aside0.mk (blk_below (g := gb308) (o := .cells #[.int .i64 0, .int .i64 3, .int .i64 5, .int .i64 2000] 23 (0, 0)) (by (with_reducible repeat (first | apply blk_drewN | apply blk_drew | apply blk_alloc)); refine blk_far ?_ NB308_325.out _; (with_reducible repeat (first | apply blk_drewN | apply blk_drew | apply blk_alloc)); refine blk_far ?_ NB308_325.out _; (with_reducible repeat (first | apply blk_drewN | apply blk_drew | apply blk_alloc)); refine blk_far ?_ NB308_325.out _; (with_reducible repeat (first | apply blk_drewN | apply blk_drew | apply blk_alloc)); refine blk_far ?_ NB308_325.out _; (with_reducible repeat (first | apply blk_drewN | apply blk_drew | apply blk_alloc)); exact BK308.out) hb); have n4_ := Aside0.mk (blk_below (g := gb325) (o := .cells #[.int .i64 t319, .int .i64 t320, .int .i64 t321, .int .i64 t322] 23 (0, 0)) (by (with_reducible repeat (first | apply blk_drewN | apply blk_drew | apply blk_alloc)); refine blk_put (cs := #[.int .i64 t319, .int .i64 t320, .int .i64 t321, .int .i64 0]) ?_ 3 _ rfl; (with_reducible repeat (first | apply blk_drewN | apply blk_drew | apply blk_alloc)); refine blk_put (cs := #[.int .i64 t319, .int .i64 t320, .int .i64 0, .int .i64 0]) ?_ 2 _ rfl; (with_reducible repeat (first | apply blk_drewN | apply blk_drew | apply blk_alloc)); refine blk_put (cs := #[.int .i64 t319, .int .i64 0, .int .i64 0, .int .i64 0]) ?_ 1 _ rfl; (with_reducible repeat (first | apply blk_drewN | apply blk_drew | apply blk_alloc)); refine blk_put (cs := #[.int .i64 0, .int .i64 0, .int .i64 0, .int .i64 0]) ?_ 0 _ rfl; (with_reducible repeat (first | apply blk_drewN | apply blk_drew | apply blk_alloc)); exact BK325.out) hb); have n5_ := Aside0.mk (below_step (by repeat (first | (with_reducible first | exact HB.out | apply below_alloc | apply pw_below_drewN | apply below_drew1 | refine below_set ?_ (IsS59.ge HI296.out) | refine below_set ?_ GE306.out | refine below_set ?_ GE307.out | refine below_set ?_ GE308.out | refine below_set ?_ GE325.out) | exact HB.out)) hb); clear HI296; clear BK306; clear BK307; clear BK308; clear BK325; clear HB; have HI296 := n0_; have BK306 := n1_; have BK307 := n2_; have BK308 := n3_; have BK325 := n4_; have HB := n5_; clear n0_ n1_ n2_ n3_ n4_ n5_; (try clear hb); (try clear hb2); (try clear hk); (try clear hi)) | ((with_reducible refine gate_dst (N := 30) rfl ?_); refine box_event ?hg (N := 30) ?hd (cs := #[.int .i64 0, .int .i64 0, .int .i64 0, .int .i64 0]) (t := 23) ?hr ?_; (case hd => rfl); (case hg => rfl); (case hr => first | (go_simp; done) | (go_simp; rfl)); intro gb332 hg w56 hbox hb; have n0_ := Aside0.mk (IsS59.below (by repeat (first | (with_reducible first | exact HI296.out | apply IsS59.alloc | apply IsS59.drewN | apply IsS59.drew | refine IsS59.far ?_ NB296_306.out _ | refine IsS59.far ?_ NB296_307.out _ | refine IsS59.far ?_ NB296_308.out _ | refine IsS59.far ?_ NB296_325.out _) | exact HI296.out)) hb); have n1_ := Aside0.mk (blk_below (g := gb306) (o := .cells #[.int .i64 t297, .int .i64 t298, .int .i64 t299, .int .i64 t300] 23 (0, 0)) (by (with_reducible repeat (first | apply blk_drewN | apply blk_drew | apply blk_alloc)); exact BK306.out) hb); have n2_ := Aside0.mk (blk_below (g := gb307) (o := .cells #[.int .i64 t301, .int .i64 t302] 27 (0, 0)) (by (with_reducible repeat (first | apply blk_drewN | apply blk_drew | apply blk_alloc)); exact BK307.out) hb); have n3_ := Aside0.mk (blk_below (g := gb308) (o := .cells #[.int .i64 0, .int .i64 3, .int .i64 5, .int .i64 2000] 23 (0, 0)) (by (with_reducible repeat (first | apply blk_drewN | apply blk_drew | apply blk_alloc)); exact BK308.out) hb); have n4_ := Aside0.mk (blk_below (g := gb325) (o := .cells #[.int .i64 t319, .int .i64 t320, .int .i64 t321, .int .i64 t322] 23 (0, 0)) (by (with_reducible repeat (first | apply blk_drewN | apply blk_drew | apply blk_alloc)); exact BK325.out) hb); have n5_ := Aside0.mk (below_step (by repeat (first | (with_reducible first | exact HB.out | apply below_alloc | apply pw_below_drewN | apply below_drew1 | refine below_set ?_ (IsS59.ge HI296.out) | refine below_set ?_ GE306.out | refine below_set ?_ GE307.out | refine below_set ?_ GE308.out | refine below_set ?_ GE325.out) | exact HB.out)) hb); have n6_ := Aside0.mk (hbox); have n7_ := Aside0.mk ((by rw [hg]; exact (below_size (by repeat (first | (with_reducible first | exact HB.out | apply below_alloc | apply pw_below_drewN | apply below_drew1 | refine below_set ?_ (IsS59.ge HI296.out) | refine below_set ?_ GE306.out | refine below_set ?_ GE307.out | refine below_set ?_ GE308.out | refine below_set ?_ GE325.out) | exact HB.out))) : w.heap.size ≤ gb332)); have n8_ := Aside0.mk ((by rw [hg]; exact (below_size (by repeat (first | (with_reducible first | exact HB.out | apply below_alloc | apply pw_below_drewN | apply below_drew1 | refine below_set ?_ (IsS59.ge HI296.out) | refine below_set ?_ GE306.out | refine below_set ?_ GE307.out | refine below_set ?_ GE308.out | refine below_set ?_ GE325.out) | exact HB.out))) : w.heap.size ≤ gb332)); have n9_ := Aside0.mk ((by rw [hg]; exact Nat.ne_of_lt (blk_lt (g := gb306) (o := .cells #[.int .i64 t297, .int .i64 t298, .int .i64 t299, .int .i64 t300] 23 (0, 0)) (by (with_reducible repeat (first | apply blk_drewN | apply blk_drew | apply blk_alloc)); exact BK306.out)) : gb306 ≠ gb332)); have n10_ := Aside0.mk ((by rw [hg]; exact Nat.ne_of_gt (blk_lt (g := gb306) (o := .cells #[.int .i64 t297, .int .i64 t298, .int .i64 t299, .int .i64 t300] 23 (0, 0)) (by (with_reducible repeat (first | apply blk_drewN | apply blk_drew | apply blk_alloc)); exact BK306.out)) : gb332 ≠ gb306)); have n11_ := Aside0.mk ((by rw [hg]; exact Nat.ne_of_lt (blk_lt (g := gb307) (o := .cells #[.int .i64 t301, .int .i64 t302] 27 (0, 0)) (by (with_reducible repeat (first | apply blk_drewN | apply blk_drew | apply blk_alloc)); exact BK307.out)) : gb307 ≠ gb332)); have n12_ := Aside0.mk ((by rw [hg]; exact Nat.ne_of_gt (blk_lt (g := gb307) (o := .cells #[.int .i64 t301, .int .i64 t302] 27 (0, 0)) (by (with_reducible repeat (first | apply blk_drewN | apply blk_drew | apply blk_alloc)); exact BK307.out)) : gb332 ≠ gb307)); have n13_ := Aside0.mk ((by rw [hg]; exact Nat.ne_of_lt (blk_lt (g := gb308) (o := .cells #[.int .i64 0, .int .i64 3, .int .i64 5, .int .i64 2000] 23 (0, 0)) (by (with_reducible repeat (first | apply blk_drewN | apply blk_drew | apply blk_alloc)); exact BK308.out)) : gb308 ≠ gb332)); have n14_ := Aside0.mk ((by rw [hg]; exact Nat.ne_of_gt (blk_lt (g := gb308) (o := .cells #[.int .i64 0, .int .i64 3, .int .i64 5, .int .i64 2000] 23 (0, 0)) (by (with_reducible repeat (first | apply blk_drewN | apply blk_drew | apply blk_alloc)); exact BK308.out)) : gb332 ≠ gb308)); have n15_ := Aside0.mk ((by rw [hg]; exact Nat.ne_of_lt (blk_lt (g := gb325) (o := .cells #[.int .i64 t319, .int .i64 t320, .int .i64 t321, .int .i64 t322] 23 (0, 0)) (by (with_reducible repeat (first | apply blk_drewN | apply blk_drew | apply blk_alloc)); exact BK325.out)) : gb325 ≠ gb332)); have n16_ := Aside0.mk ((by rw [hg]; exact Nat.ne_of_gt (blk_lt (g := gb325) (o := .cells #[.int .i64 t319, .int .i64 t320, .int .i64 t321, .int .i64 t322] 23 (0, 0)) (by (with_reducible repeat (first | apply blk_drewN | apply blk_drew | apply blk_alloc)); exact BK325.out)) : gb332 ≠ gb325)); have n17_ := Aside0.mk ((by rw [hg]; exact Nat.ne_of_lt (IsS59.lt (show IsS59 w _ g296 t305 from by repeat (first | (with_reducible first | exact HI296.out | apply IsS59.alloc | apply IsS59.drewN | apply IsS59.drew | refine IsS59.far ?_ NB296_306.out _ | refine IsS59.far ?_ NB296_307.out _ | refine IsS59.far ?_ NB296_308.out _ | refine IsS59.far ?_ NB296_325.out _) | exact HI296.out))) : g296 ≠ gb332)); have n18_ := Aside0.mk ((by rw [hg]; exact Nat.ne_of_gt (IsS59.lt (show IsS59 w _ g296 t305 from by repeat (first | (with_reducible first | exact HI296.out | apply IsS59.alloc | apply IsS59.drewN | apply IsS59.drew | refine IsS59.far ?_ NB296_306.out _ | refine IsS59.far ?_ NB296_307.out _ | refine IsS59.far ?_ NB296_308.out _ | refine IsS59.far ?_ NB296_325.out _) | exact HI296.out))) : gb332 ≠ g296)); clear HI296; clear BK306; clear BK307; clear BK308; clear BK325; clear HB; have HI296 := n0_; have BK306 := n1_; have BK307 := n2_; have BK308 := n3_; have BK325 := n4_; have HB := n5_; have BK332 := n6_; have GW332 := n7_; have GE332 := n8_; have NB306_332 := n9_; have NB332_306 := n10_; have NB307_332 := n11_; have NB332_307 := n12_; have NB308_332 := n13_; have NB332_308 := n14_; have NB325_332 := n15_; have NB332_325 := n16_; have NB296_332 := n17_; have NB332_296 := n18_; clear n0_ n1_ n2_ n3_ n4_ n5_ n6_ n7_ n8_ n9_ n10_ n11_ n12_ n13_ n14_ n15_ n16_ n17_ n18_; clear hb hbox hg; have hnb57 := NB332_306.out; have hnc57 := NB306_332.out; have hnb58 := NB332_307.out; have hnc58 := NB307_332.out; have hnb59 := NB332_308.out; have hnc59 := NB308_332.out; have hnb60 := NB332_325.out; have hnc60 := NB325_332.out; have hnb61 := NB332_296.out; have hnc61 := NB296_332.out; have hcz62_0 : w56.cell? ⟨gb332, 0, none⟩ = some (.int .i64 0) := (blk_cell BK332.out 0).trans rfl; have hcz62_1 : w56.cell? ⟨gb332, 1, none⟩ = some (.int .i64 0) := (blk_cell BK332.out 1).trans rfl; have hcz62_2 : w56.cell? ⟨gb332, 2, none⟩ = some (.int .i64 0) := (blk_cell BK332.out 2).trans rfl; have hcz62_3 : w56.cell? ⟨gb332, 3, none⟩ = some (.int .i64 0) := (blk_cell BK332.out 3).trans rfl; have hfz62_0 := blk_frozen BK332.out 0; have hfz62_1 := blk_frozen BK332.out 1; have hfz62_2 := blk_frozen BK332.out 2; have hfz62_3 := blk_frozen BK332.out 3))
  (try simp only [Act.put, List.setIfInBounds_toArray, List.set_cons_zero, List.set_cons_succ])
  go_cut [8] (fun v8 wc => ∃ (kq : Nat) (x8_15 : Bool), v8 = .bool x8_15 ∧ Aside0 (soundservicelaw18_ControlWeaker.j1 kq x8_15 = some r) ∧ Aside0 (kq ≤ k) ∧ Aside0 (wc.heap[gb306]? = some (.cells #[.int .i64 t297, .int .i64 t298, .int .i64 t299, .int .i64 t300] 23 (0, 0))) ∧ Aside0 (wc.heap[gb307]? = some (.cells #[.int .i64 t301, .int .i64 t302] 27 (0, 0))) ∧ Aside0 (wc.heap[gb308]? = some (.cells #[.int .i64 0, .int .i64 3, .int .i64 5, .int .i64 2000] 23 (0, 0))) ∧ Aside0 (wc.heap[gb325]? = some (.cells #[.int .i64 t319, .int .i64 t320, .int .i64 t321, .int .i64 t322] 23 (0, 0))) ∧ Aside0 (wc.heap[gb332]? = some (.cells #[.int .i64 t326, .int .i64 t327, .int .i64 t328, .int .i64 t329] 23 (0, 0))) ∧ Aside0 (Below w.heap.size w wc))
  case first =>
   have H := HC16.out
   clear HC16
   have HC63 := Aside0.mk H
   clear H
   go_upto_region 13 with (fail)
   go_cut [8] (fun v8 wc => ∃ (kq : Nat) (x8_62 : Bool), v8 = .bool x8_62 ∧ Aside0 (soundservicelaw18_ControlWeaker.j0 kq x8_62 = some r) ∧ Aside0 (kq ≤ k) ∧ Aside0 (wc.heap[gb306]? = some (.cells #[.int .i64 t297, .int .i64 t298, .int .i64 t299, .int .i64 t300] 23 (0, 0))) ∧ Aside0 (wc.heap[gb307]? = some (.cells #[.int .i64 t301, .int .i64 t302] 27 (0, 0))) ∧ Aside0 (wc.heap[gb308]? = some (.cells #[.int .i64 0, .int .i64 3, .int .i64 5, .int .i64 2000] 23 (0, 0))) ∧ Aside0 (wc.heap[gb325]? = some (.cells #[.int .i64 t319, .int .i64 t320, .int .i64 t321, .int .i64 t322] 23 (0, 0))) ∧ Aside0 (wc.heap[gb332]? = some (.cells #[.int .i64 t326, .int .i64 t327, .int .i64 t328, .int .i64 t329] 23 (0, 0))) ∧ Aside0 (Below w.heap.size w wc))
   case first =>
    have H := HC63.out
    clear HC63
    by_cases c64 : t310 = 0
    ·rw [if_pos c64] at H
     have c64b0 : (t310 == 0) = true := beq_iff_eq.mpr c64
     have c64b1 : (t310 != 0) = false := bne_eq_false_iff_eq.mpr c64
     clear c64
     (first | rw [c64b0] | (simp only [i64_w, i32_w]; rw [c64b0]) | skip)
     by_cases c65 : t312 = 0
     ·rw [if_pos c65] at H
      have c65b0 : (t312 == 0) = true := beq_iff_eq.mpr c65
      have c65b1 : (t312 != 0) = false := bne_eq_false_iff_eq.mpr c65
      clear c65
      by_cases c66 : t314 = 0
      ·rw [if_pos c66] at H
       have c66b0 : (t314 == 0) = true := beq_iff_eq.mpr c66
       have c66b1 : (t314 != 0) = false := bne_eq_false_iff_eq.mpr c66
       clear c66
       by_cases c67 : t316 = 0
       ·rw [if_pos c67] at H
        have c67b0 : (t316 == 0) = true := beq_iff_eq.mpr c67
        have c67b1 : (t316 != 0) = false := bne_eq_false_iff_eq.mpr c67
        clear c67
        by_cases c68 : t318 = 0
        ·rw [if_pos c68] at H
         have c68b0 : (t318 == 0) = true := beq_iff_eq.mpr c68
         have c68b1 : (t318 != 0) = false := bne_eq_false_iff_eq.mpr c68
         clear c68
         by_cases c69 : t309 ≤ t311
         ·rw [if_pos c69] at H
          have c69b0 : decide (t309 ≤ t311) = true := decide_eq_true c69
          clear c69
          by_cases c70 : t309 ≤ t313
          ·rw [if_pos c70] at H
           have c70b0 : decide (t309 ≤ t313) = true := decide_eq_true c70
           clear c70
           by_cases c71 : t315 ≤ t317
           ·rw [if_pos c71] at H
            have c71b0 : decide (t315 ≤ t317) = true := decide_eq_true c71
            clear c71
            by_cases c72 : t324 = 0
            ·rw [if_pos c72] at H
             have c72b0 : (t324 == 0) = true := beq_iff_eq.mpr c72
             have c72b1 : (t324 != 0) = false := bne_eq_false_iff_eq.mpr c72
             clear c72
             by_cases c73 : t331 = 0
             ·rw [if_pos c73] at H
              have c73b0 : (t331 == 0) = true := beq_iff_eq.mpr c73
              have c73b1 : (t331 != 0) = false := bne_eq_false_iff_eq.mpr c73
              clear c73
              by_cases c74 : t319 ≤ t326
              ·rw [if_pos c74] at H
               have c74b0 : decide (t319 ≤ t326) = true := decide_eq_true c74
               clear c74
               by_cases c75 : t323 ≤ t330
               ·rw [if_pos c75] at H
                have c75b0 : decide (t323 ≤ t330) = true := decide_eq_true c75
                clear c75
                have H' := Aside0.mk H
                clear H
                have hnb76 := NB325_306.out
                have hnc76 := NB306_325.out
                have hnb77 := NB325_307.out
                have hnc77 := NB307_325.out
                have hnb78 := NB325_308.out
                have hnc78 := NB308_325.out
                have hnb79 := NB325_332.out
                have hnc79 := NB332_325.out
                have hnb80 := NB325_296.out
                have hnc80 := NB296_325.out
                have hcz81_0 : w56.cell? ⟨gb325, 0, none⟩ = some (.int .i64 t319) := (blk_cell BK325.out 0).trans rfl
                have hcz81_1 : w56.cell? ⟨gb325, 1, none⟩ = some (.int .i64 t320) := (blk_cell BK325.out 1).trans rfl
                have hcz81_2 : w56.cell? ⟨gb325, 2, none⟩ = some (.int .i64 t321) := (blk_cell BK325.out 2).trans rfl
                have hcz81_3 : w56.cell? ⟨gb325, 3, none⟩ = some (.int .i64 t322) := (blk_cell BK325.out 3).trans rfl
                have hfz81_0 := blk_frozen BK325.out 0
                have hfz81_1 := blk_frozen BK325.out 1
                have hfz81_2 := blk_frozen BK325.out 2
                have hfz81_3 := blk_frozen BK325.out 3
                have hnb82 := NB332_306.out
                have hnc82 := NB306_332.out
                have hnb83 := NB332_307.out
                have hnc83 := NB307_332.out
                have hnb84 := NB332_308.out
                have hnc84 := NB308_332.out
                have hnb85 := NB332_296.out
                have hnc85 := NB296_332.out
                have hcz86_0 : w56.cell? ⟨gb332, 0, none⟩ = some (.int .i64 0) := (blk_cell BK332.out 0).trans rfl
                have hcz86_1 : w56.cell? ⟨gb332, 1, none⟩ = some (.int .i64 0) := (blk_cell BK332.out 1).trans rfl
                have hcz86_2 : w56.cell? ⟨gb332, 2, none⟩ = some (.int .i64 0) := (blk_cell BK332.out 2).trans rfl
                have hcz86_3 : w56.cell? ⟨gb332, 3, none⟩ = some (.int .i64 0) := (blk_cell BK332.out 3).trans rfl
                have hfz86_0 := blk_frozen BK332.out 0
                have hfz86_1 := blk_frozen BK332.out 1
                have hfz86_2 := blk_frozen BK332.out 2
                have hfz86_3 := blk_frozen BK332.out 3
                go_wp2
                go_meet
                case rel => exact ⟨_, (decide (t322 ≤ t329)), (by first | rfl | (simp; done) | (simp [*]; done)), H', ⟨by first | omega | exact Nat.le_refl _⟩, ⟨by (with_reducible repeat (first | apply blk_drewN | apply blk_drew | apply blk_alloc)); refine blk_far ?_ NB306_332.out _; (with_reducible repeat (first | apply blk_drewN | apply blk_drew | apply blk_alloc)); refine blk_far ?_ NB306_332.out _; (with_reducible repeat (first | apply blk_drewN | apply blk_drew | apply blk_alloc)); refine blk_far ?_ NB306_332.out _; (with_reducible repeat (first | apply blk_drewN | apply blk_drew | apply blk_alloc)); refine blk_far ?_ NB306_332.out _; (with_reducible repeat (first | apply blk_drewN | apply blk_drew | apply blk_alloc)); exact BK306.out⟩, ⟨by (with_reducible repeat (first | apply blk_drewN | apply blk_drew | apply blk_alloc)); refine blk_far ?_ NB307_332.out _; (with_reducible repeat (first | apply blk_drewN | apply blk_drew | apply blk_alloc)); refine blk_far ?_ NB307_332.out _; (with_reducible repeat (first | apply blk_drewN | apply blk_drew | apply blk_alloc)); refine blk_far ?_ NB307_332.out _; (with_reducible repeat (first | apply blk_drewN | apply blk_drew | apply blk_alloc)); refine blk_far ?_ NB307_332.out _; (with_reducible repeat (first | apply blk_drewN | apply blk_drew | apply blk_alloc)); exact BK307.out⟩, ⟨by (with_reducible repeat (first | apply blk_drewN | apply blk_drew | apply blk_alloc)); refine blk_far ?_ NB308_332.out _; (with_reducible repeat (first | apply blk_drewN | apply blk_drew | apply blk_alloc)); refine blk_far ?_ NB308_332.out _; (with_reducible repeat (first | apply blk_drewN | apply blk_drew | apply blk_alloc)); refine blk_far ?_ NB308_332.out _; (with_reducible repeat (first | apply blk_drewN | apply blk_drew | apply blk_alloc)); refine blk_far ?_ NB308_332.out _; (with_reducible repeat (first | apply blk_drewN | apply blk_drew | apply blk_alloc)); exact BK308.out⟩, ⟨by (with_reducible repeat (first | apply blk_drewN | apply blk_drew | apply blk_alloc)); refine blk_far ?_ NB325_332.out _; (with_reducible repeat (first | apply blk_drewN | apply blk_drew | apply blk_alloc)); refine blk_far ?_ NB325_332.out _; (with_reducible repeat (first | apply blk_drewN | apply blk_drew | apply blk_alloc)); refine blk_far ?_ NB325_332.out _; (with_reducible repeat (first | apply blk_drewN | apply blk_drew | apply blk_alloc)); refine blk_far ?_ NB325_332.out _; (with_reducible repeat (first | apply blk_drewN | apply blk_drew | apply blk_alloc)); exact BK325.out⟩, ⟨by (with_reducible repeat (first | apply blk_drewN | apply blk_drew | apply blk_alloc)); refine blk_put (cs := #[.int .i64 t326, .int .i64 t327, .int .i64 t328, .int .i64 0]) ?_ 3 _ rfl; (with_reducible repeat (first | apply blk_drewN | apply blk_drew | apply blk_alloc)); refine blk_put (cs := #[.int .i64 t326, .int .i64 t327, .int .i64 0, .int .i64 0]) ?_ 2 _ rfl; (with_reducible repeat (first | apply blk_drewN | apply blk_drew | apply blk_alloc)); refine blk_put (cs := #[.int .i64 t326, .int .i64 0, .int .i64 0, .int .i64 0]) ?_ 1 _ rfl; (with_reducible repeat (first | apply blk_drewN | apply blk_drew | apply blk_alloc)); refine blk_put (cs := #[.int .i64 0, .int .i64 0, .int .i64 0, .int .i64 0]) ?_ 0 _ rfl; (with_reducible repeat (first | apply blk_drewN | apply blk_drew | apply blk_alloc)); exact BK332.out⟩, ⟨by repeat (first | (with_reducible first | exact HB.out | apply below_alloc | apply pw_below_drewN | apply below_drew1 | refine below_set ?_ (IsS59.ge HI296.out) | refine below_set ?_ GE306.out | refine below_set ?_ GE307.out | refine below_set ?_ GE308.out | refine below_set ?_ GE325.out | refine below_set ?_ GE332.out) | exact HB.out)⟩⟩
               ·rw [if_neg c75] at H
                have c75b0 : decide (t323 ≤ t330) = false := decide_eq_false c75
                clear c75
                have H' := Aside0.mk H
                clear H
                have hnb87 := NB325_306.out
                have hnc87 := NB306_325.out
                have hnb88 := NB325_307.out
                have hnc88 := NB307_325.out
                have hnb89 := NB325_308.out
                have hnc89 := NB308_325.out
                have hnb90 := NB325_332.out
                have hnc90 := NB332_325.out
                have hnb91 := NB325_296.out
                have hnc91 := NB296_325.out
                have hcz92_0 : w56.cell? ⟨gb325, 0, none⟩ = some (.int .i64 t319) := (blk_cell BK325.out 0).trans rfl
                have hcz92_1 : w56.cell? ⟨gb325, 1, none⟩ = some (.int .i64 t320) := (blk_cell BK325.out 1).trans rfl
                have hcz92_2 : w56.cell? ⟨gb325, 2, none⟩ = some (.int .i64 t321) := (blk_cell BK325.out 2).trans rfl
                have hcz92_3 : w56.cell? ⟨gb325, 3, none⟩ = some (.int .i64 t322) := (blk_cell BK325.out 3).trans rfl
                have hfz92_0 := blk_frozen BK325.out 0
                have hfz92_1 := blk_frozen BK325.out 1
                have hfz92_2 := blk_frozen BK325.out 2
                have hfz92_3 := blk_frozen BK325.out 3
                have hnb93 := NB332_306.out
                have hnc93 := NB306_332.out
                have hnb94 := NB332_307.out
                have hnc94 := NB307_332.out
                have hnb95 := NB332_308.out
                have hnc95 := NB308_332.out
                have hnb96 := NB332_296.out
                have hnc96 := NB296_332.out
                have hcz97_0 : w56.cell? ⟨gb332, 0, none⟩ = some (.int .i64 0) := (blk_cell BK332.out 0).trans rfl
                have hcz97_1 : w56.cell? ⟨gb332, 1, none⟩ = some (.int .i64 0) := (blk_cell BK332.out 1).trans rfl
                have hcz97_2 : w56.cell? ⟨gb332, 2, none⟩ = some (.int .i64 0) := (blk_cell BK332.out 2).trans rfl
                have hcz97_3 : w56.cell? ⟨gb332, 3, none⟩ = some (.int .i64 0) := (blk_cell BK332.out 3).trans rfl
                have hfz97_0 := blk_frozen BK332.out 0
                have hfz97_1 := blk_frozen BK332.out 1
                have hfz97_2 := blk_frozen BK332.out 2
                have hfz97_3 := blk_frozen BK332.out 3
                go_wp2
                go_meet
                case rel => exact ⟨_, (false), (by first | rfl | (simp; done) | (simp [*]; done)), H', ⟨by first | omega | exact Nat.le_refl _⟩, ⟨by (with_reducible repeat (first | apply blk_drewN | apply blk_drew | apply blk_alloc)); refine blk_far ?_ NB306_332.out _; (with_reducible repeat (first | apply blk_drewN | apply blk_drew | apply blk_alloc)); refine blk_far ?_ NB306_332.out _; (with_reducible repeat (first | apply blk_drewN | apply blk_drew | apply blk_alloc)); refine blk_far ?_ NB306_332.out _; (with_reducible repeat (first | apply blk_drewN | apply blk_drew | apply blk_alloc)); refine blk_far ?_ NB306_332.out _; (with_reducible repeat (first | apply blk_drewN | apply blk_drew | apply blk_alloc)); exact BK306.out⟩, ⟨by (with_reducible repeat (first | apply blk_drewN | apply blk_drew | apply blk_alloc)); refine blk_far ?_ NB307_332.out _; (with_reducible repeat (first | apply blk_drewN | apply blk_drew | apply blk_alloc)); refine blk_far ?_ NB307_332.out _; (with_reducible repeat (first | apply blk_drewN | apply blk_drew | apply blk_alloc)); refine blk_far ?_ NB307_332.out _; (with_reducible repeat (first | apply blk_drewN | apply blk_drew | apply blk_alloc)); refine blk_far ?_ NB307_332.out _; (with_reducible repeat (first | apply blk_drewN | apply blk_drew | apply blk_alloc)); exact BK307.out⟩, ⟨by (with_reducible repeat (first | apply blk_drewN | apply blk_drew | apply blk_alloc)); refine blk_far ?_ NB308_332.out _; (with_reducible repeat (first | apply blk_drewN | apply blk_drew | apply blk_alloc)); refine blk_far ?_ NB308_332.out _; (with_reducible repeat (first | apply blk_drewN | apply blk_drew | apply blk_alloc)); refine blk_far ?_ NB308_332.out _; (with_reducible repeat (first | apply blk_drewN | apply blk_drew | apply blk_alloc)); refine blk_far ?_ NB308_332.out _; (with_reducible repeat (first | apply blk_drewN | apply blk_drew | apply blk_alloc)); exact BK308.out⟩, ⟨by (with_reducible repeat (first | apply blk_drewN | apply blk_drew | apply blk_alloc)); refine blk_far ?_ NB325_332.out _; (with_reducible repeat (first | apply blk_drewN | apply blk_drew | apply blk_alloc)); refine blk_far ?_ NB325_332.out _; (with_reducible repeat (first | apply blk_drewN | apply blk_drew | apply blk_alloc)); refine blk_far ?_ NB325_332.out _; (with_reducible repeat (first | apply blk_drewN | apply blk_drew | apply blk_alloc)); refine blk_far ?_ NB325_332.out _; (with_reducible repeat (first | apply blk_drewN | apply blk_drew | apply blk_alloc)); exact BK325.out⟩, ⟨by (with_reducible repeat (first | apply blk_drewN | apply blk_drew | apply blk_alloc)); refine blk_put (cs := #[.int .i64 t326, .int .i64 t327, .int .i64 t328, .int .i64 0]) ?_ 3 _ rfl; (with_reducible repeat (first | apply blk_drewN | apply blk_drew | apply blk_alloc)); refine blk_put (cs := #[.int .i64 t326, .int .i64 t327, .int .i64 0, .int .i64 0]) ?_ 2 _ rfl; (with_reducible repeat (first | apply blk_drewN | apply blk_drew | apply blk_alloc)); refine blk_put (cs := #[.int .i64 t326, .int .i64 0, .int .i64 0, .int .i64 0]) ?_ 1 _ rfl; (with_reducible repeat (first | apply blk_drewN | apply blk_drew | apply blk_alloc)); refine blk_put (cs := #[.int .i64 0, .int .i64 0, .int .i64 0, .int .i64 0]) ?_ 0 _ rfl; (with_reducible repeat (first | apply blk_drewN | apply blk_drew | apply blk_alloc)); exact BK332.out⟩, ⟨by repeat (first | (with_reducible first | exact HB.out | apply below_alloc | apply pw_below_drewN | apply below_drew1 | refine below_set ?_ (IsS59.ge HI296.out) | refine below_set ?_ GE306.out | refine below_set ?_ GE307.out | refine below_set ?_ GE308.out | refine below_set ?_ GE325.out | refine below_set ?_ GE332.out) | exact HB.out)⟩⟩
              ·rw [if_neg c74] at H
               have c74b0 : decide (t319 ≤ t326) = false := decide_eq_false c74
               clear c74
               have H' := Aside0.mk H
               clear H
               have hnb98 := NB325_306.out
               have hnc98 := NB306_325.out
               have hnb99 := NB325_307.out
               have hnc99 := NB307_325.out
               have hnb100 := NB325_308.out
               have hnc100 := NB308_325.out
               have hnb101 := NB325_332.out
               have hnc101 := NB332_325.out
               have hnb102 := NB325_296.out
               have hnc102 := NB296_325.out
               have hcz103_0 : w56.cell? ⟨gb325, 0, none⟩ = some (.int .i64 t319) := (blk_cell BK325.out 0).trans rfl
               have hcz103_1 : w56.cell? ⟨gb325, 1, none⟩ = some (.int .i64 t320) := (blk_cell BK325.out 1).trans rfl
               have hcz103_2 : w56.cell? ⟨gb325, 2, none⟩ = some (.int .i64 t321) := (blk_cell BK325.out 2).trans rfl
               have hcz103_3 : w56.cell? ⟨gb325, 3, none⟩ = some (.int .i64 t322) := (blk_cell BK325.out 3).trans rfl
               have hfz103_0 := blk_frozen BK325.out 0
               have hfz103_1 := blk_frozen BK325.out 1
               have hfz103_2 := blk_frozen BK325.out 2
               have hfz103_3 := blk_frozen BK325.out 3
               have hnb104 := NB332_306.out
               have hnc104 := NB306_332.out
               have hnb105 := NB332_307.out
               have hnc105 := NB307_332.out
               have hnb106 := NB332_308.out
               have hnc106 := NB308_332.out
               have hnb107 := NB332_296.out
               have hnc107 := NB296_332.out
               have hcz108_0 : w56.cell? ⟨gb332, 0, none⟩ = some (.int .i64 0) := (blk_cell BK332.out 0).trans rfl
               have hcz108_1 : w56.cell? ⟨gb332, 1, none⟩ = some (.int .i64 0) := (blk_cell BK332.out 1).trans rfl
               have hcz108_2 : w56.cell? ⟨gb332, 2, none⟩ = some (.int .i64 0) := (blk_cell BK332.out 2).trans rfl
               have hcz108_3 : w56.cell? ⟨gb332, 3, none⟩ = some (.int .i64 0) := (blk_cell BK332.out 3).trans rfl
               have hfz108_0 := blk_frozen BK332.out 0
               have hfz108_1 := blk_frozen BK332.out 1
               have hfz108_2 := blk_frozen BK332.out 2
               have hfz108_3 := blk_frozen BK332.out 3
               go_wp2
               go_meet
               case rel => exact ⟨_, (false), (by first | rfl | (simp; done) | (simp [*]; done)), H', ⟨by first | omega | exact Nat.le_refl _⟩, ⟨by (with_reducible repeat (first | apply blk_drewN | apply blk_drew | apply blk_alloc)); refine blk_far ?_ NB306_332.out _; (with_reducible repeat (first | apply blk_drewN | apply blk_drew | apply blk_alloc)); refine blk_far ?_ NB306_332.out _; (with_reducible repeat (first | apply blk_drewN | apply blk_drew | apply blk_alloc)); refine blk_far ?_ NB306_332.out _; (with_reducible repeat (first | apply blk_drewN | apply blk_drew | apply blk_alloc)); refine blk_far ?_ NB306_332.out _; (with_reducible repeat (first | apply blk_drewN | apply blk_drew | apply blk_alloc)); exact BK306.out⟩, ⟨by (with_reducible repeat (first | apply blk_drewN | apply blk_drew | apply blk_alloc)); refine blk_far ?_ NB307_332.out _; (with_reducible repeat (first | apply blk_drewN | apply blk_drew | apply blk_alloc)); refine blk_far ?_ NB307_332.out _; (with_reducible repeat (first | apply blk_drewN | apply blk_drew | apply blk_alloc)); refine blk_far ?_ NB307_332.out _; (with_reducible repeat (first | apply blk_drewN | apply blk_drew | apply blk_alloc)); refine blk_far ?_ NB307_332.out _; (with_reducible repeat (first | apply blk_drewN | apply blk_drew | apply blk_alloc)); exact BK307.out⟩, ⟨by (with_reducible repeat (first | apply blk_drewN | apply blk_drew | apply blk_alloc)); refine blk_far ?_ NB308_332.out _; (with_reducible repeat (first | apply blk_drewN | apply blk_drew | apply blk_alloc)); refine blk_far ?_ NB308_332.out _; (with_reducible repeat (first | apply blk_drewN | apply blk_drew | apply blk_alloc)); refine blk_far ?_ NB308_332.out _; (with_reducible repeat (first | apply blk_drewN | apply blk_drew | apply blk_alloc)); refine blk_far ?_ NB308_332.out _; (with_reducible repeat (first | apply blk_drewN | apply blk_drew | apply blk_alloc)); exact BK308.out⟩, ⟨by (with_reducible repeat (first | apply blk_drewN | apply blk_drew | apply blk_alloc)); refine blk_far ?_ NB325_332.out _; (with_reducible repeat (first | apply blk_drewN | apply blk_drew | apply blk_alloc)); refine blk_far ?_ NB325_332.out _; (with_reducible repeat (first | apply blk_drewN | apply blk_drew | apply blk_alloc)); refine blk_far ?_ NB325_332.out _; (with_reducible repeat (first | apply blk_drewN | apply blk_drew | apply blk_alloc)); refine blk_far ?_ NB325_332.out _; (with_reducible repeat (first | apply blk_drewN | apply blk_drew | apply blk_alloc)); exact BK325.out⟩, ⟨by (with_reducible repeat (first | apply blk_drewN | apply blk_drew | apply blk_alloc)); refine blk_put (cs := #[.int .i64 t326, .int .i64 t327, .int .i64 t328, .int .i64 0]) ?_ 3 _ rfl; (with_reducible repeat (first | apply blk_drewN | apply blk_drew | apply blk_alloc)); refine blk_put (cs := #[.int .i64 t326, .int .i64 t327, .int .i64 0, .int .i64 0]) ?_ 2 _ rfl; (with_reducible repeat (first | apply blk_drewN | apply blk_drew | apply blk_alloc)); refine blk_put (cs := #[.int .i64 t326, .int .i64 0, .int .i64 0, .int .i64 0]) ?_ 1 _ rfl; (with_reducible repeat (first | apply blk_drewN | apply blk_drew | apply blk_alloc)); refine blk_put (cs := #[.int .i64 0, .int .i64 0, .int .i64 0, .int .i64 0]) ?_ 0 _ rfl; (with_reducible repeat (first | apply blk_drewN | apply blk_drew | apply blk_alloc)); exact BK332.out⟩, ⟨by repeat (first | (with_reducible first | exact HB.out | apply below_alloc | apply pw_below_drewN | apply below_drew1 | refine below_set ?_ (IsS59.ge HI296.out) | refine below_set ?_ GE306.out | refine below_set ?_ GE307.out | refine below_set ?_ GE308.out | refine below_set ?_ GE325.out | refine below_set ?_ GE332.out) | exact HB.out)⟩⟩
             ·rw [if_neg c73] at H
              have c73b0 : (t331 == 0) = false := beq_eq_false_iff_ne.mpr c73
              have c73b1 : (t331 != 0) = true := bne_iff_ne.mpr c73
              have H' := Aside0.mk H
              clear H
              go_wp2
              go_meet
              case rel => exact ⟨_, (true), (by first | rfl | (simp; done) | (simp [*]; done)), H', ⟨by first | omega | exact Nat.le_refl _⟩, ⟨by (with_reducible repeat (first | apply blk_drewN | apply blk_drew | apply blk_alloc)); refine blk_far ?_ NB306_332.out _; (with_reducible repeat (first | apply blk_drewN | apply blk_drew | apply blk_alloc)); refine blk_far ?_ NB306_332.out _; (with_reducible repeat (first | apply blk_drewN | apply blk_drew | apply blk_alloc)); refine blk_far ?_ NB306_332.out _; (with_reducible repeat (first | apply blk_drewN | apply blk_drew | apply blk_alloc)); refine blk_far ?_ NB306_332.out _; (with_reducible repeat (first | apply blk_drewN | apply blk_drew | apply blk_alloc)); exact BK306.out⟩, ⟨by (with_reducible repeat (first | apply blk_drewN | apply blk_drew | apply blk_alloc)); refine blk_far ?_ NB307_332.out _; (with_reducible repeat (first | apply blk_drewN | apply blk_drew | apply blk_alloc)); refine blk_far ?_ NB307_332.out _; (with_reducible repeat (first | apply blk_drewN | apply blk_drew | apply blk_alloc)); refine blk_far ?_ NB307_332.out _; (with_reducible repeat (first | apply blk_drewN | apply blk_drew | apply blk_alloc)); refine blk_far ?_ NB307_332.out _; (with_reducible repeat (first | apply blk_drewN | apply blk_drew | apply blk_alloc)); exact BK307.out⟩, ⟨by (with_reducible repeat (first | apply blk_drewN | apply blk_drew | apply blk_alloc)); refine blk_far ?_ NB308_332.out _; (with_reducible repeat (first | apply blk_drewN | apply blk_drew | apply blk_alloc)); refine blk_far ?_ NB308_332.out _; (with_reducible repeat (first | apply blk_drewN | apply blk_drew | apply blk_alloc)); refine blk_far ?_ NB308_332.out _; (with_reducible repeat (first | apply blk_drewN | apply blk_drew | apply blk_alloc)); refine blk_far ?_ NB308_332.out _; (with_reducible repeat (first | apply blk_drewN | apply blk_drew | apply blk_alloc)); exact BK308.out⟩, ⟨by (with_reducible repeat (first | apply blk_drewN | apply blk_drew | apply blk_alloc)); refine blk_far ?_ NB325_332.out _; (with_reducible repeat (first | apply blk_drewN | apply blk_drew | apply blk_alloc)); refine blk_far ?_ NB325_332.out _; (with_reducible repeat (first | apply blk_drewN | apply blk_drew | apply blk_alloc)); refine blk_far ?_ NB325_332.out _; (with_reducible repeat (first | apply blk_drewN | apply blk_drew | apply blk_alloc)); refine blk_far ?_ NB325_332.out _; (with_reducible repeat (first | apply blk_drewN | apply blk_drew | apply blk_alloc)); exact BK325.out⟩, ⟨by (with_reducible repeat (first | apply blk_drewN | apply blk_drew | apply blk_alloc)); refine blk_put (cs := #[.int .i64 t326, .int .i64 t327, .int .i64 t328, .int .i64 0]) ?_ 3 _ rfl; (with_reducible repeat (first | apply blk_drewN | apply blk_drew | apply blk_alloc)); refine blk_put (cs := #[.int .i64 t326, .int .i64 t327, .int .i64 0, .int .i64 0]) ?_ 2 _ rfl; (with_reducible repeat (first | apply blk_drewN | apply blk_drew | apply blk_alloc)); refine blk_put (cs := #[.int .i64 t326, .int .i64 0, .int .i64 0, .int .i64 0]) ?_ 1 _ rfl; (with_reducible repeat (first | apply blk_drewN | apply blk_drew | apply blk_alloc)); refine blk_put (cs := #[.int .i64 0, .int .i64 0, .int .i64 0, .int .i64 0]) ?_ 0 _ rfl; (with_reducible repeat (first | apply blk_drewN | apply blk_drew | apply blk_alloc)); exact BK332.out⟩, ⟨by repeat (first | (with_reducible first | exact HB.out | apply below_alloc | apply pw_below_drewN | apply below_drew1 | refine below_set ?_ (IsS59.ge HI296.out) | refine below_set ?_ GE306.out | refine below_set ?_ GE307.out | refine below_set ?_ GE308.out | refine below_set ?_ GE325.out | refine below_set ?_ GE332.out) | exact HB.out)⟩⟩
            ·rw [if_neg c72] at H
             have c72b0 : (t324 == 0) = false := beq_eq_false_iff_ne.mpr c72
             have c72b1 : (t324 != 0) = true := bne_iff_ne.mpr c72
             have H' := Aside0.mk H
             clear H
             go_wp2
             go_meet
             case rel => exact ⟨_, (true), (by first | rfl | (simp; done) | (simp [*]; done)), H', ⟨by first | omega | exact Nat.le_refl _⟩, ⟨by (with_reducible repeat (first | apply blk_drewN | apply blk_drew | apply blk_alloc)); refine blk_far ?_ NB306_332.out _; (with_reducible repeat (first | apply blk_drewN | apply blk_drew | apply blk_alloc)); refine blk_far ?_ NB306_332.out _; (with_reducible repeat (first | apply blk_drewN | apply blk_drew | apply blk_alloc)); refine blk_far ?_ NB306_332.out _; (with_reducible repeat (first | apply blk_drewN | apply blk_drew | apply blk_alloc)); refine blk_far ?_ NB306_332.out _; (with_reducible repeat (first | apply blk_drewN | apply blk_drew | apply blk_alloc)); exact BK306.out⟩, ⟨by (with_reducible repeat (first | apply blk_drewN | apply blk_drew | apply blk_alloc)); refine blk_far ?_ NB307_332.out _; (with_reducible repeat (first | apply blk_drewN | apply blk_drew | apply blk_alloc)); refine blk_far ?_ NB307_332.out _; (with_reducible repeat (first | apply blk_drewN | apply blk_drew | apply blk_alloc)); refine blk_far ?_ NB307_332.out _; (with_reducible repeat (first | apply blk_drewN | apply blk_drew | apply blk_alloc)); refine blk_far ?_ NB307_332.out _; (with_reducible repeat (first | apply blk_drewN | apply blk_drew | apply blk_alloc)); exact BK307.out⟩, ⟨by (with_reducible repeat (first | apply blk_drewN | apply blk_drew | apply blk_alloc)); refine blk_far ?_ NB308_332.out _; (with_reducible repeat (first | apply blk_drewN | apply blk_drew | apply blk_alloc)); refine blk_far ?_ NB308_332.out _; (with_reducible repeat (first | apply blk_drewN | apply blk_drew | apply blk_alloc)); refine blk_far ?_ NB308_332.out _; (with_reducible repeat (first | apply blk_drewN | apply blk_drew | apply blk_alloc)); refine blk_far ?_ NB308_332.out _; (with_reducible repeat (first | apply blk_drewN | apply blk_drew | apply blk_alloc)); exact BK308.out⟩, ⟨by (with_reducible repeat (first | apply blk_drewN | apply blk_drew | apply blk_alloc)); refine blk_far ?_ NB325_332.out _; (with_reducible repeat (first | apply blk_drewN | apply blk_drew | apply blk_alloc)); refine blk_far ?_ NB325_332.out _; (with_reducible repeat (first | apply blk_drewN | apply blk_drew | apply blk_alloc)); refine blk_far ?_ NB325_332.out _; (with_reducible repeat (first | apply blk_drewN | apply blk_drew | apply blk_alloc)); refine blk_far ?_ NB325_332.out _; (with_reducible repeat (first | apply blk_drewN | apply blk_drew | apply blk_alloc)); exact BK325.out⟩, ⟨by (with_reducible repeat (first | apply blk_drewN | apply blk_drew | apply blk_alloc)); refine blk_put (cs := #[.int .i64 t326, .int .i64 t327, .int .i64 t328, .int .i64 0]) ?_ 3 _ rfl; (with_reducible repeat (first | apply blk_drewN | apply blk_drew | apply blk_alloc)); refine blk_put (cs := #[.int .i64 t326, .int .i64 t327, .int .i64 0, .int .i64 0]) ?_ 2 _ rfl; (with_reducible repeat (first | apply blk_drewN | apply blk_drew | apply blk_alloc)); refine blk_put (cs := #[.int .i64 t326, .int .i64 0, .int .i64 0, .int .i64 0]) ?_ 1 _ rfl; (with_reducible repeat (first | apply blk_drewN | apply blk_drew | apply blk_alloc)); refine blk_put (cs := #[.int .i64 0, .int .i64 0, .int .i64 0, .int .i64 0]) ?_ 0 _ rfl; (with_reducible repeat (first | apply blk_drewN | apply blk_drew | apply blk_alloc)); exact BK332.out⟩, ⟨by repeat (first | (with_reducible first | exact HB.out | apply below_alloc | apply pw_below_drewN | apply below_drew1 | refine below_set ?_ (IsS59.ge HI296.out) | refine below_set ?_ GE306.out | refine below_set ?_ GE307.out | refine below_set ?_ GE308.out | refine below_set ?_ GE325.out | refine below_set ?_ GE332.out) | exact HB.out)⟩⟩
           ·rw [if_neg c71] at H
            have c71b0 : decide (t315 ≤ t317) = false := decide_eq_false c71
            clear c71
            have H' := Aside0.mk H
            clear H
            go_wp2
            go_meet
            case rel => exact ⟨_, (false), (by first | rfl | (simp; done) | (simp [*]; done)), H', ⟨by first | omega | exact Nat.le_refl _⟩, ⟨by (with_reducible repeat (first | apply blk_drewN | apply blk_drew | apply blk_alloc)); refine blk_far ?_ NB306_332.out _; (with_reducible repeat (first | apply blk_drewN | apply blk_drew | apply blk_alloc)); refine blk_far ?_ NB306_332.out _; (with_reducible repeat (first | apply blk_drewN | apply blk_drew | apply blk_alloc)); refine blk_far ?_ NB306_332.out _; (with_reducible repeat (first | apply blk_drewN | apply blk_drew | apply blk_alloc)); refine blk_far ?_ NB306_332.out _; (with_reducible repeat (first | apply blk_drewN | apply blk_drew | apply blk_alloc)); exact BK306.out⟩, ⟨by (with_reducible repeat (first | apply blk_drewN | apply blk_drew | apply blk_alloc)); refine blk_far ?_ NB307_332.out _; (with_reducible repeat (first | apply blk_drewN | apply blk_drew | apply blk_alloc)); refine blk_far ?_ NB307_332.out _; (with_reducible repeat (first | apply blk_drewN | apply blk_drew | apply blk_alloc)); refine blk_far ?_ NB307_332.out _; (with_reducible repeat (first | apply blk_drewN | apply blk_drew | apply blk_alloc)); refine blk_far ?_ NB307_332.out _; (with_reducible repeat (first | apply blk_drewN | apply blk_drew | apply blk_alloc)); exact BK307.out⟩, ⟨by (with_reducible repeat (first | apply blk_drewN | apply blk_drew | apply blk_alloc)); refine blk_far ?_ NB308_332.out _; (with_reducible repeat (first | apply blk_drewN | apply blk_drew | apply blk_alloc)); refine blk_far ?_ NB308_332.out _; (with_reducible repeat (first | apply blk_drewN | apply blk_drew | apply blk_alloc)); refine blk_far ?_ NB308_332.out _; (with_reducible repeat (first | apply blk_drewN | apply blk_drew | apply blk_alloc)); refine blk_far ?_ NB308_332.out _; (with_reducible repeat (first | apply blk_drewN | apply blk_drew | apply blk_alloc)); exact BK308.out⟩, ⟨by (with_reducible repeat (first | apply blk_drewN | apply blk_drew | apply blk_alloc)); refine blk_far ?_ NB325_332.out _; (with_reducible repeat (first | apply blk_drewN | apply blk_drew | apply blk_alloc)); refine blk_far ?_ NB325_332.out _; (with_reducible repeat (first | apply blk_drewN | apply blk_drew | apply blk_alloc)); refine blk_far ?_ NB325_332.out _; (with_reducible repeat (first | apply blk_drewN | apply blk_drew | apply blk_alloc)); refine blk_far ?_ NB325_332.out _; (with_reducible repeat (first | apply blk_drewN | apply blk_drew | apply blk_alloc)); exact BK325.out⟩, ⟨by (with_reducible repeat (first | apply blk_drewN | apply blk_drew | apply blk_alloc)); refine blk_put (cs := #[.int .i64 t326, .int .i64 t327, .int .i64 t328, .int .i64 0]) ?_ 3 _ rfl; (with_reducible repeat (first | apply blk_drewN | apply blk_drew | apply blk_alloc)); refine blk_put (cs := #[.int .i64 t326, .int .i64 t327, .int .i64 0, .int .i64 0]) ?_ 2 _ rfl; (with_reducible repeat (first | apply blk_drewN | apply blk_drew | apply blk_alloc)); refine blk_put (cs := #[.int .i64 t326, .int .i64 0, .int .i64 0, .int .i64 0]) ?_ 1 _ rfl; (with_reducible repeat (first | apply blk_drewN | apply blk_drew | apply blk_alloc)); refine blk_put (cs := #[.int .i64 0, .int .i64 0, .int .i64 0, .int .i64 0]) ?_ 0 _ rfl; (with_reducible repeat (first | apply blk_drewN | apply blk_drew | apply blk_alloc)); exact BK332.out⟩, ⟨by repeat (first | (with_reducible first | exact HB.out | apply below_alloc | apply pw_below_drewN | apply below_drew1 | refine below_set ?_ (IsS59.ge HI296.out) | refine below_set ?_ GE306.out | refine below_set ?_ GE307.out | refine below_set ?_ GE308.out | refine below_set ?_ GE325.out | refine below_set ?_ GE332.out) | exact HB.out)⟩⟩
          ·rw [if_neg c70] at H
           have c70b0 : decide (t309 ≤ t313) = false := decide_eq_false c70
           clear c70
           have H' := Aside0.mk H
           clear H
           go_wp2
           go_meet
           case rel => exact ⟨_, (false), (by first | rfl | (simp; done) | (simp [*]; done)), H', ⟨by first | omega | exact Nat.le_refl _⟩, ⟨by (with_reducible repeat (first | apply blk_drewN | apply blk_drew | apply blk_alloc)); refine blk_far ?_ NB306_332.out _; (with_reducible repeat (first | apply blk_drewN | apply blk_drew | apply blk_alloc)); refine blk_far ?_ NB306_332.out _; (with_reducible repeat (first | apply blk_drewN | apply blk_drew | apply blk_alloc)); refine blk_far ?_ NB306_332.out _; (with_reducible repeat (first | apply blk_drewN | apply blk_drew | apply blk_alloc)); refine blk_far ?_ NB306_332.out _; (with_reducible repeat (first | apply blk_drewN | apply blk_drew | apply blk_alloc)); exact BK306.out⟩, ⟨by (with_reducible repeat (first | apply blk_drewN | apply blk_drew | apply blk_alloc)); refine blk_far ?_ NB307_332.out _; (with_reducible repeat (first | apply blk_drewN | apply blk_drew | apply blk_alloc)); refine blk_far ?_ NB307_332.out _; (with_reducible repeat (first | apply blk_drewN | apply blk_drew | apply blk_alloc)); refine blk_far ?_ NB307_332.out _; (with_reducible repeat (first | apply blk_drewN | apply blk_drew | apply blk_alloc)); refine blk_far ?_ NB307_332.out _; (with_reducible repeat (first | apply blk_drewN | apply blk_drew | apply blk_alloc)); exact BK307.out⟩, ⟨by (with_reducible repeat (first | apply blk_drewN | apply blk_drew | apply blk_alloc)); refine blk_far ?_ NB308_332.out _; (with_reducible repeat (first | apply blk_drewN | apply blk_drew | apply blk_alloc)); refine blk_far ?_ NB308_332.out _; (with_reducible repeat (first | apply blk_drewN | apply blk_drew | apply blk_alloc)); refine blk_far ?_ NB308_332.out _; (with_reducible repeat (first | apply blk_drewN | apply blk_drew | apply blk_alloc)); refine blk_far ?_ NB308_332.out _; (with_reducible repeat (first | apply blk_drewN | apply blk_drew | apply blk_alloc)); exact BK308.out⟩, ⟨by (with_reducible repeat (first | apply blk_drewN | apply blk_drew | apply blk_alloc)); refine blk_far ?_ NB325_332.out _; (with_reducible repeat (first | apply blk_drewN | apply blk_drew | apply blk_alloc)); refine blk_far ?_ NB325_332.out _; (with_reducible repeat (first | apply blk_drewN | apply blk_drew | apply blk_alloc)); refine blk_far ?_ NB325_332.out _; (with_reducible repeat (first | apply blk_drewN | apply blk_drew | apply blk_alloc)); refine blk_far ?_ NB325_332.out _; (with_reducible repeat (first | apply blk_drewN | apply blk_drew | apply blk_alloc)); exact BK325.out⟩, ⟨by (with_reducible repeat (first | apply blk_drewN | apply blk_drew | apply blk_alloc)); refine blk_put (cs := #[.int .i64 t326, .int .i64 t327, .int .i64 t328, .int .i64 0]) ?_ 3 _ rfl; (with_reducible repeat (first | apply blk_drewN | apply blk_drew | apply blk_alloc)); refine blk_put (cs := #[.int .i64 t326, .int .i64 t327, .int .i64 0, .int .i64 0]) ?_ 2 _ rfl; (with_reducible repeat (first | apply blk_drewN | apply blk_drew | apply blk_alloc)); refine blk_put (cs := #[.int .i64 t326, .int .i64 0, .int .i64 0, .int .i64 0]) ?_ 1 _ rfl; (with_reducible repeat (first | apply blk_drewN | apply blk_drew | apply blk_alloc)); refine blk_put (cs := #[.int .i64 0, .int .i64 0, .int .i64 0, .int .i64 0]) ?_ 0 _ rfl; (with_reducible repeat (first | apply blk_drewN | apply blk_drew | apply blk_alloc)); exact BK332.out⟩, ⟨by repeat (first | (with_reducible first | exact HB.out | apply below_alloc | apply pw_below_drewN | apply below_drew1 | refine below_set ?_ (IsS59.ge HI296.out) | refine below_set ?_ GE306.out | refine below_set ?_ GE307.out | refine below_set ?_ GE308.out | refine below_set ?_ GE325.out | refine below_set ?_ GE332.out) | exact HB.out)⟩⟩
         ·rw [if_neg c69] at H
          have c69b0 : decide (t309 ≤ t311) = false := decide_eq_false c69
          clear c69
          have H' := Aside0.mk H
          clear H
          go_wp2
          go_meet
          case rel => exact ⟨_, (false), (by first | rfl | (simp; done) | (simp [*]; done)), H', ⟨by first | omega | exact Nat.le_refl _⟩, ⟨by (with_reducible repeat (first | apply blk_drewN | apply blk_drew | apply blk_alloc)); refine blk_far ?_ NB306_332.out _; (with_reducible repeat (first | apply blk_drewN | apply blk_drew | apply blk_alloc)); refine blk_far ?_ NB306_332.out _; (with_reducible repeat (first | apply blk_drewN | apply blk_drew | apply blk_alloc)); refine blk_far ?_ NB306_332.out _; (with_reducible repeat (first | apply blk_drewN | apply blk_drew | apply blk_alloc)); refine blk_far ?_ NB306_332.out _; (with_reducible repeat (first | apply blk_drewN | apply blk_drew | apply blk_alloc)); exact BK306.out⟩, ⟨by (with_reducible repeat (first | apply blk_drewN | apply blk_drew | apply blk_alloc)); refine blk_far ?_ NB307_332.out _; (with_reducible repeat (first | apply blk_drewN | apply blk_drew | apply blk_alloc)); refine blk_far ?_ NB307_332.out _; (with_reducible repeat (first | apply blk_drewN | apply blk_drew | apply blk_alloc)); refine blk_far ?_ NB307_332.out _; (with_reducible repeat (first | apply blk_drewN | apply blk_drew | apply blk_alloc)); refine blk_far ?_ NB307_332.out _; (with_reducible repeat (first | apply blk_drewN | apply blk_drew | apply blk_alloc)); exact BK307.out⟩, ⟨by (with_reducible repeat (first | apply blk_drewN | apply blk_drew | apply blk_alloc)); refine blk_far ?_ NB308_332.out _; (with_reducible repeat (first | apply blk_drewN | apply blk_drew | apply blk_alloc)); refine blk_far ?_ NB308_332.out _; (with_reducible repeat (first | apply blk_drewN | apply blk_drew | apply blk_alloc)); refine blk_far ?_ NB308_332.out _; (with_reducible repeat (first | apply blk_drewN | apply blk_drew | apply blk_alloc)); refine blk_far ?_ NB308_332.out _; (with_reducible repeat (first | apply blk_drewN | apply blk_drew | apply blk_alloc)); exact BK308.out⟩, ⟨by (with_reducible repeat (first | apply blk_drewN | apply blk_drew | apply blk_alloc)); refine blk_far ?_ NB325_332.out _; (with_reducible repeat (first | apply blk_drewN | apply blk_drew | apply blk_alloc)); refine blk_far ?_ NB325_332.out _; (with_reducible repeat (first | apply blk_drewN | apply blk_drew | apply blk_alloc)); refine blk_far ?_ NB325_332.out _; (with_reducible repeat (first | apply blk_drewN | apply blk_drew | apply blk_alloc)); refine blk_far ?_ NB325_332.out _; (with_reducible repeat (first | apply blk_drewN | apply blk_drew | apply blk_alloc)); exact BK325.out⟩, ⟨by (with_reducible repeat (first | apply blk_drewN | apply blk_drew | apply blk_alloc)); refine blk_put (cs := #[.int .i64 t326, .int .i64 t327, .int .i64 t328, .int .i64 0]) ?_ 3 _ rfl; (with_reducible repeat (first | apply blk_drewN | apply blk_drew | apply blk_alloc)); refine blk_put (cs := #[.int .i64 t326, .int .i64 t327, .int .i64 0, .int .i64 0]) ?_ 2 _ rfl; (with_reducible repeat (first | apply blk_drewN | apply blk_drew | apply blk_alloc)); refine blk_put (cs := #[.int .i64 t326, .int .i64 0, .int .i64 0, .int .i64 0]) ?_ 1 _ rfl; (with_reducible repeat (first | apply blk_drewN | apply blk_drew | apply blk_alloc)); refine blk_put (cs := #[.int .i64 0, .int .i64 0, .int .i64 0, .int .i64 0]) ?_ 0 _ rfl; (with_reducible repeat (first | apply blk_drewN | apply blk_drew | apply blk_alloc)); exact BK332.out⟩, ⟨by repeat (first | (with_reducible first | exact HB.out | apply below_alloc | apply pw_below_drewN | apply below_drew1 | refine below_set ?_ (IsS59.ge HI296.out) | refine below_set ?_ GE306.out | refine below_set ?_ GE307.out | refine below_set ?_ GE308.out | refine below_set ?_ GE325.out | refine below_set ?_ GE332.out) | exact HB.out)⟩⟩
        ·rw [if_neg c68] at H
         have c68b0 : (t318 == 0) = false := beq_eq_false_iff_ne.mpr c68
         have c68b1 : (t318 != 0) = true := bne_iff_ne.mpr c68
         have H' := Aside0.mk H
         clear H
         go_wp2
         go_meet
         case rel => exact ⟨_, (false), (by first | rfl | (simp; done) | (simp [*]; done)), H', ⟨by first | omega | exact Nat.le_refl _⟩, ⟨by (with_reducible repeat (first | apply blk_drewN | apply blk_drew | apply blk_alloc)); refine blk_far ?_ NB306_332.out _; (with_reducible repeat (first | apply blk_drewN | apply blk_drew | apply blk_alloc)); refine blk_far ?_ NB306_332.out _; (with_reducible repeat (first | apply blk_drewN | apply blk_drew | apply blk_alloc)); refine blk_far ?_ NB306_332.out _; (with_reducible repeat (first | apply blk_drewN | apply blk_drew | apply blk_alloc)); refine blk_far ?_ NB306_332.out _; (with_reducible repeat (first | apply blk_drewN | apply blk_drew | apply blk_alloc)); exact BK306.out⟩, ⟨by (with_reducible repeat (first | apply blk_drewN | apply blk_drew | apply blk_alloc)); refine blk_far ?_ NB307_332.out _; (with_reducible repeat (first | apply blk_drewN | apply blk_drew | apply blk_alloc)); refine blk_far ?_ NB307_332.out _; (with_reducible repeat (first | apply blk_drewN | apply blk_drew | apply blk_alloc)); refine blk_far ?_ NB307_332.out _; (with_reducible repeat (first | apply blk_drewN | apply blk_drew | apply blk_alloc)); refine blk_far ?_ NB307_332.out _; (with_reducible repeat (first | apply blk_drewN | apply blk_drew | apply blk_alloc)); exact BK307.out⟩, ⟨by (with_reducible repeat (first | apply blk_drewN | apply blk_drew | apply blk_alloc)); refine blk_far ?_ NB308_332.out _; (with_reducible repeat (first | apply blk_drewN | apply blk_drew | apply blk_alloc)); refine blk_far ?_ NB308_332.out _; (with_reducible repeat (first | apply blk_drewN | apply blk_drew | apply blk_alloc)); refine blk_far ?_ NB308_332.out _; (with_reducible repeat (first | apply blk_drewN | apply blk_drew | apply blk_alloc)); refine blk_far ?_ NB308_332.out _; (with_reducible repeat (first | apply blk_drewN | apply blk_drew | apply blk_alloc)); exact BK308.out⟩, ⟨by (with_reducible repeat (first | apply blk_drewN | apply blk_drew | apply blk_alloc)); refine blk_far ?_ NB325_332.out _; (with_reducible repeat (first | apply blk_drewN | apply blk_drew | apply blk_alloc)); refine blk_far ?_ NB325_332.out _; (with_reducible repeat (first | apply blk_drewN | apply blk_drew | apply blk_alloc)); refine blk_far ?_ NB325_332.out _; (with_reducible repeat (first | apply blk_drewN | apply blk_drew | apply blk_alloc)); refine blk_far ?_ NB325_332.out _; (with_reducible repeat (first | apply blk_drewN | apply blk_drew | apply blk_alloc)); exact BK325.out⟩, ⟨by (with_reducible repeat (first | apply blk_drewN | apply blk_drew | apply blk_alloc)); refine blk_put (cs := #[.int .i64 t326, .int .i64 t327, .int .i64 t328, .int .i64 0]) ?_ 3 _ rfl; (with_reducible repeat (first | apply blk_drewN | apply blk_drew | apply blk_alloc)); refine blk_put (cs := #[.int .i64 t326, .int .i64 t327, .int .i64 0, .int .i64 0]) ?_ 2 _ rfl; (with_reducible repeat (first | apply blk_drewN | apply blk_drew | apply blk_alloc)); refine blk_put (cs := #[.int .i64 t326, .int .i64 0, .int .i64 0, .int .i64 0]) ?_ 1 _ rfl; (with_reducible repeat (first | apply blk_drewN | apply blk_drew | apply blk_alloc)); refine blk_put (cs := #[.int .i64 0, .int .i64 0, .int .i64 0, .int .i64 0]) ?_ 0 _ rfl; (with_reducible repeat (first | apply blk_drewN | apply blk_drew | apply blk_alloc)); exact BK332.out⟩, ⟨by repeat (first | (with_reducible first | exact HB.out | apply below_alloc | apply pw_below_drewN | apply below_drew1 | refine below_set ?_ (IsS59.ge HI296.out) | refine below_set ?_ GE306.out | refine below_set ?_ GE307.out | refine below_set ?_ GE308.out | refine below_set ?_ GE325.out | refine below_set ?_ GE332.out) | exact HB.out)⟩⟩
       ·rw [if_neg c67] at H
        have c67b0 : (t316 == 0) = false := beq_eq_false_iff_ne.mpr c67
        have c67b1 : (t316 != 0) = true := bne_iff_ne.mpr c67
        have H' := Aside0.mk H
        clear H
        go_wp2
        go_meet
        case rel => exact ⟨_, (false), (by first | rfl | (simp; done) | (simp [*]; done)), H', ⟨by first | omega | exact Nat.le_refl _⟩, ⟨by (with_reducible repeat (first | apply blk_drewN | apply blk_drew | apply blk_alloc)); refine blk_far ?_ NB306_332.out _; (with_reducible repeat (first | apply blk_drewN | apply blk_drew | apply blk_alloc)); refine blk_far ?_ NB306_332.out _; (with_reducible repeat (first | apply blk_drewN | apply blk_drew | apply blk_alloc)); refine blk_far ?_ NB306_332.out _; (with_reducible repeat (first | apply blk_drewN | apply blk_drew | apply blk_alloc)); refine blk_far ?_ NB306_332.out _; (with_reducible repeat (first | apply blk_drewN | apply blk_drew | apply blk_alloc)); exact BK306.out⟩, ⟨by (with_reducible repeat (first | apply blk_drewN | apply blk_drew | apply blk_alloc)); refine blk_far ?_ NB307_332.out _; (with_reducible repeat (first | apply blk_drewN | apply blk_drew | apply blk_alloc)); refine blk_far ?_ NB307_332.out _; (with_reducible repeat (first | apply blk_drewN | apply blk_drew | apply blk_alloc)); refine blk_far ?_ NB307_332.out _; (with_reducible repeat (first | apply blk_drewN | apply blk_drew | apply blk_alloc)); refine blk_far ?_ NB307_332.out _; (with_reducible repeat (first | apply blk_drewN | apply blk_drew | apply blk_alloc)); exact BK307.out⟩, ⟨by (with_reducible repeat (first | apply blk_drewN | apply blk_drew | apply blk_alloc)); refine blk_far ?_ NB308_332.out _; (with_reducible repeat (first | apply blk_drewN | apply blk_drew | apply blk_alloc)); refine blk_far ?_ NB308_332.out _; (with_reducible repeat (first | apply blk_drewN | apply blk_drew | apply blk_alloc)); refine blk_far ?_ NB308_332.out _; (with_reducible repeat (first | apply blk_drewN | apply blk_drew | apply blk_alloc)); refine blk_far ?_ NB308_332.out _; (with_reducible repeat (first | apply blk_drewN | apply blk_drew | apply blk_alloc)); exact BK308.out⟩, ⟨by (with_reducible repeat (first | apply blk_drewN | apply blk_drew | apply blk_alloc)); refine blk_far ?_ NB325_332.out _; (with_reducible repeat (first | apply blk_drewN | apply blk_drew | apply blk_alloc)); refine blk_far ?_ NB325_332.out _; (with_reducible repeat (first | apply blk_drewN | apply blk_drew | apply blk_alloc)); refine blk_far ?_ NB325_332.out _; (with_reducible repeat (first | apply blk_drewN | apply blk_drew | apply blk_alloc)); refine blk_far ?_ NB325_332.out _; (with_reducible repeat (first | apply blk_drewN | apply blk_drew | apply blk_alloc)); exact BK325.out⟩, ⟨by (with_reducible repeat (first | apply blk_drewN | apply blk_drew | apply blk_alloc)); refine blk_put (cs := #[.int .i64 t326, .int .i64 t327, .int .i64 t328, .int .i64 0]) ?_ 3 _ rfl; (with_reducible repeat (first | apply blk_drewN | apply blk_drew | apply blk_alloc)); refine blk_put (cs := #[.int .i64 t326, .int .i64 t327, .int .i64 0, .int .i64 0]) ?_ 2 _ rfl; (with_reducible repeat (first | apply blk_drewN | apply blk_drew | apply blk_alloc)); refine blk_put (cs := #[.int .i64 t326, .int .i64 0, .int .i64 0, .int .i64 0]) ?_ 1 _ rfl; (with_reducible repeat (first | apply blk_drewN | apply blk_drew | apply blk_alloc)); refine blk_put (cs := #[.int .i64 0, .int .i64 0, .int .i64 0, .int .i64 0]) ?_ 0 _ rfl; (with_reducible repeat (first | apply blk_drewN | apply blk_drew | apply blk_alloc)); exact BK332.out⟩, ⟨by repeat (first | (with_reducible first | exact HB.out | apply below_alloc | apply pw_below_drewN | apply below_drew1 | refine below_set ?_ (IsS59.ge HI296.out) | refine below_set ?_ GE306.out | refine below_set ?_ GE307.out | refine below_set ?_ GE308.out | refine below_set ?_ GE325.out | refine below_set ?_ GE332.out) | exact HB.out)⟩⟩
      ·rw [if_neg c66] at H
       have c66b0 : (t314 == 0) = false := beq_eq_false_iff_ne.mpr c66
       have c66b1 : (t314 != 0) = true := bne_iff_ne.mpr c66
       have H' := Aside0.mk H
       clear H
       go_wp2
       go_meet
       case rel => exact ⟨_, (false), (by first | rfl | (simp; done) | (simp [*]; done)), H', ⟨by first | omega | exact Nat.le_refl _⟩, ⟨by (with_reducible repeat (first | apply blk_drewN | apply blk_drew | apply blk_alloc)); refine blk_far ?_ NB306_332.out _; (with_reducible repeat (first | apply blk_drewN | apply blk_drew | apply blk_alloc)); refine blk_far ?_ NB306_332.out _; (with_reducible repeat (first | apply blk_drewN | apply blk_drew | apply blk_alloc)); refine blk_far ?_ NB306_332.out _; (with_reducible repeat (first | apply blk_drewN | apply blk_drew | apply blk_alloc)); refine blk_far ?_ NB306_332.out _; (with_reducible repeat (first | apply blk_drewN | apply blk_drew | apply blk_alloc)); exact BK306.out⟩, ⟨by (with_reducible repeat (first | apply blk_drewN | apply blk_drew | apply blk_alloc)); refine blk_far ?_ NB307_332.out _; (with_reducible repeat (first | apply blk_drewN | apply blk_drew | apply blk_alloc)); refine blk_far ?_ NB307_332.out _; (with_reducible repeat (first | apply blk_drewN | apply blk_drew | apply blk_alloc)); refine blk_far ?_ NB307_332.out _; (with_reducible repeat (first | apply blk_drewN | apply blk_drew | apply blk_alloc)); refine blk_far ?_ NB307_332.out _; (with_reducible repeat (first | apply blk_drewN | apply blk_drew | apply blk_alloc)); exact BK307.out⟩, ⟨by (with_reducible repeat (first | apply blk_drewN | apply blk_drew | apply blk_alloc)); refine blk_far ?_ NB308_332.out _; (with_reducible repeat (first | apply blk_drewN | apply blk_drew | apply blk_alloc)); refine blk_far ?_ NB308_332.out _; (with_reducible repeat (first | apply blk_drewN | apply blk_drew | apply blk_alloc)); refine blk_far ?_ NB308_332.out _; (with_reducible repeat (first | apply blk_drewN | apply blk_drew | apply blk_alloc)); refine blk_far ?_ NB308_332.out _; (with_reducible repeat (first | apply blk_drewN | apply blk_drew | apply blk_alloc)); exact BK308.out⟩, ⟨by (with_reducible repeat (first | apply blk_drewN | apply blk_drew | apply blk_alloc)); refine blk_far ?_ NB325_332.out _; (with_reducible repeat (first | apply blk_drewN | apply blk_drew | apply blk_alloc)); refine blk_far ?_ NB325_332.out _; (with_reducible repeat (first | apply blk_drewN | apply blk_drew | apply blk_alloc)); refine blk_far ?_ NB325_332.out _; (with_reducible repeat (first | apply blk_drewN | apply blk_drew | apply blk_alloc)); refine blk_far ?_ NB325_332.out _; (with_reducible repeat (first | apply blk_drewN | apply blk_drew | apply blk_alloc)); exact BK325.out⟩, ⟨by (with_reducible repeat (first | apply blk_drewN | apply blk_drew | apply blk_alloc)); refine blk_put (cs := #[.int .i64 t326, .int .i64 t327, .int .i64 t328, .int .i64 0]) ?_ 3 _ rfl; (with_reducible repeat (first | apply blk_drewN | apply blk_drew | apply blk_alloc)); refine blk_put (cs := #[.int .i64 t326, .int .i64 t327, .int .i64 0, .int .i64 0]) ?_ 2 _ rfl; (with_reducible repeat (first | apply blk_drewN | apply blk_drew | apply blk_alloc)); refine blk_put (cs := #[.int .i64 t326, .int .i64 0, .int .i64 0, .int .i64 0]) ?_ 1 _ rfl; (with_reducible repeat (first | apply blk_drewN | apply blk_drew | apply blk_alloc)); refine blk_put (cs := #[.int .i64 0, .int .i64 0, .int .i64 0, .int .i64 0]) ?_ 0 _ rfl; (with_reducible repeat (first | apply blk_drewN | apply blk_drew | apply blk_alloc)); exact BK332.out⟩, ⟨by repeat (first | (with_reducible first | exact HB.out | apply below_alloc | apply pw_below_drewN | apply below_drew1 | refine below_set ?_ (IsS59.ge HI296.out) | refine below_set ?_ GE306.out | refine below_set ?_ GE307.out | refine below_set ?_ GE308.out | refine below_set ?_ GE325.out | refine below_set ?_ GE332.out) | exact HB.out)⟩⟩
     ·rw [if_neg c65] at H
      have c65b0 : (t312 == 0) = false := beq_eq_false_iff_ne.mpr c65
      have c65b1 : (t312 != 0) = true := bne_iff_ne.mpr c65
      have H' := Aside0.mk H
      clear H
      go_wp2
      go_meet
      case rel => exact ⟨_, (false), (by first | rfl | (simp; done) | (simp [*]; done)), H', ⟨by first | omega | exact Nat.le_refl _⟩, ⟨by (with_reducible repeat (first | apply blk_drewN | apply blk_drew | apply blk_alloc)); refine blk_far ?_ NB306_332.out _; (with_reducible repeat (first | apply blk_drewN | apply blk_drew | apply blk_alloc)); refine blk_far ?_ NB306_332.out _; (with_reducible repeat (first | apply blk_drewN | apply blk_drew | apply blk_alloc)); refine blk_far ?_ NB306_332.out _; (with_reducible repeat (first | apply blk_drewN | apply blk_drew | apply blk_alloc)); refine blk_far ?_ NB306_332.out _; (with_reducible repeat (first | apply blk_drewN | apply blk_drew | apply blk_alloc)); exact BK306.out⟩, ⟨by (with_reducible repeat (first | apply blk_drewN | apply blk_drew | apply blk_alloc)); refine blk_far ?_ NB307_332.out _; (with_reducible repeat (first | apply blk_drewN | apply blk_drew | apply blk_alloc)); refine blk_far ?_ NB307_332.out _; (with_reducible repeat (first | apply blk_drewN | apply blk_drew | apply blk_alloc)); refine blk_far ?_ NB307_332.out _; (with_reducible repeat (first | apply blk_drewN | apply blk_drew | apply blk_alloc)); refine blk_far ?_ NB307_332.out _; (with_reducible repeat (first | apply blk_drewN | apply blk_drew | apply blk_alloc)); exact BK307.out⟩, ⟨by (with_reducible repeat (first | apply blk_drewN | apply blk_drew | apply blk_alloc)); refine blk_far ?_ NB308_332.out _; (with_reducible repeat (first | apply blk_drewN | apply blk_drew | apply blk_alloc)); refine blk_far ?_ NB308_332.out _; (with_reducible repeat (first | apply blk_drewN | apply blk_drew | apply blk_alloc)); refine blk_far ?_ NB308_332.out _; (with_reducible repeat (first | apply blk_drewN | apply blk_drew | apply blk_alloc)); refine blk_far ?_ NB308_332.out _; (with_reducible repeat (first | apply blk_drewN | apply blk_drew | apply blk_alloc)); exact BK308.out⟩, ⟨by (with_reducible repeat (first | apply blk_drewN | apply blk_drew | apply blk_alloc)); refine blk_far ?_ NB325_332.out _; (with_reducible repeat (first | apply blk_drewN | apply blk_drew | apply blk_alloc)); refine blk_far ?_ NB325_332.out _; (with_reducible repeat (first | apply blk_drewN | apply blk_drew | apply blk_alloc)); refine blk_far ?_ NB325_332.out _; (with_reducible repeat (first | apply blk_drewN | apply blk_drew | apply blk_alloc)); refine blk_far ?_ NB325_332.out _; (with_reducible repeat (first | apply blk_drewN | apply blk_drew | apply blk_alloc)); exact BK325.out⟩, ⟨by (with_reducible repeat (first | apply blk_drewN | apply blk_drew | apply blk_alloc)); refine blk_put (cs := #[.int .i64 t326, .int .i64 t327, .int .i64 t328, .int .i64 0]) ?_ 3 _ rfl; (with_reducible repeat (first | apply blk_drewN | apply blk_drew | apply blk_alloc)); refine blk_put (cs := #[.int .i64 t326, .int .i64 t327, .int .i64 0, .int .i64 0]) ?_ 2 _ rfl; (with_reducible repeat (first | apply blk_drewN | apply blk_drew | apply blk_alloc)); refine blk_put (cs := #[.int .i64 t326, .int .i64 0, .int .i64 0, .int .i64 0]) ?_ 1 _ rfl; (with_reducible repeat (first | apply blk_drewN | apply blk_drew | apply blk_alloc)); refine blk_put (cs := #[.int .i64 0, .int .i64 0, .int .i64 0, .int .i64 0]) ?_ 0 _ rfl; (with_reducible repeat (first | apply blk_drewN | apply blk_drew | apply blk_alloc)); exact BK332.out⟩, ⟨by repeat (first | (with_reducible first | exact HB.out | apply below_alloc | apply pw_below_drewN | apply below_drew1 | refine below_set ?_ (IsS59.ge HI296.out) | refine below_set ?_ GE306.out | refine below_set ?_ GE307.out | refine below_set ?_ GE308.out | refine below_set ?_ GE325.out | refine below_set ?_ GE332.out) | exact HB.out)⟩⟩
    ·rw [if_neg c64] at H
     have c64b0 : (t310 == 0) = false := beq_eq_false_iff_ne.mpr c64
     have c64b1 : (t310 != 0) = true := bne_iff_ne.mpr c64
     (first | rw [c64b0] | (simp only [i64_w, i32_w]; rw [c64b0]) | skip)
     have H' := Aside0.mk H
     clear H
     go_wp2
     go_meet
     case rel => exact ⟨_, (false), (by first | rfl | (simp; done) | (simp [*]; done)), H', ⟨by first | omega | exact Nat.le_refl _⟩, ⟨by (with_reducible repeat (first | apply blk_drewN | apply blk_drew | apply blk_alloc)); refine blk_far ?_ NB306_332.out _; (with_reducible repeat (first | apply blk_drewN | apply blk_drew | apply blk_alloc)); refine blk_far ?_ NB306_332.out _; (with_reducible repeat (first | apply blk_drewN | apply blk_drew | apply blk_alloc)); refine blk_far ?_ NB306_332.out _; (with_reducible repeat (first | apply blk_drewN | apply blk_drew | apply blk_alloc)); refine blk_far ?_ NB306_332.out _; (with_reducible repeat (first | apply blk_drewN | apply blk_drew | apply blk_alloc)); exact BK306.out⟩, ⟨by (with_reducible repeat (first | apply blk_drewN | apply blk_drew | apply blk_alloc)); refine blk_far ?_ NB307_332.out _; (with_reducible repeat (first | apply blk_drewN | apply blk_drew | apply blk_alloc)); refine blk_far ?_ NB307_332.out _; (with_reducible repeat (first | apply blk_drewN | apply blk_drew | apply blk_alloc)); refine blk_far ?_ NB307_332.out _; (with_reducible repeat (first | apply blk_drewN | apply blk_drew | apply blk_alloc)); refine blk_far ?_ NB307_332.out _; (with_reducible repeat (first | apply blk_drewN | apply blk_drew | apply blk_alloc)); exact BK307.out⟩, ⟨by (with_reducible repeat (first | apply blk_drewN | apply blk_drew | apply blk_alloc)); refine blk_far ?_ NB308_332.out _; (with_reducible repeat (first | apply blk_drewN | apply blk_drew | apply blk_alloc)); refine blk_far ?_ NB308_332.out _; (with_reducible repeat (first | apply blk_drewN | apply blk_drew | apply blk_alloc)); refine blk_far ?_ NB308_332.out _; (with_reducible repeat (first | apply blk_drewN | apply blk_drew | apply blk_alloc)); refine blk_far ?_ NB308_332.out _; (with_reducible repeat (first | apply blk_drewN | apply blk_drew | apply blk_alloc)); exact BK308.out⟩, ⟨by (with_reducible repeat (first | apply blk_drewN | apply blk_drew | apply blk_alloc)); refine blk_far ?_ NB325_332.out _; (with_reducible repeat (first | apply blk_drewN | apply blk_drew | apply blk_alloc)); refine blk_far ?_ NB325_332.out _; (with_reducible repeat (first | apply blk_drewN | apply blk_drew | apply blk_alloc)); refine blk_far ?_ NB325_332.out _; (with_reducible repeat (first | apply blk_drewN | apply blk_drew | apply blk_alloc)); refine blk_far ?_ NB325_332.out _; (with_reducible repeat (first | apply blk_drewN | apply blk_drew | apply blk_alloc)); exact BK325.out⟩, ⟨by (with_reducible repeat (first | apply blk_drewN | apply blk_drew | apply blk_alloc)); refine blk_put (cs := #[.int .i64 t326, .int .i64 t327, .int .i64 t328, .int .i64 0]) ?_ 3 _ rfl; (with_reducible repeat (first | apply blk_drewN | apply blk_drew | apply blk_alloc)); refine blk_put (cs := #[.int .i64 t326, .int .i64 t327, .int .i64 0, .int .i64 0]) ?_ 2 _ rfl; (with_reducible repeat (first | apply blk_drewN | apply blk_drew | apply blk_alloc)); refine blk_put (cs := #[.int .i64 t326, .int .i64 0, .int .i64 0, .int .i64 0]) ?_ 1 _ rfl; (with_reducible repeat (first | apply blk_drewN | apply blk_drew | apply blk_alloc)); refine blk_put (cs := #[.int .i64 0, .int .i64 0, .int .i64 0, .int .i64 0]) ?_ 0 _ rfl; (with_reducible repeat (first | apply blk_drewN | apply blk_drew | apply blk_alloc)); exact BK332.out⟩, ⟨by repeat (first | (with_reducible first | exact HB.out | apply below_alloc | apply pw_below_drewN | apply below_drew1 | refine below_set ?_ (IsS59.ge HI296.out) | refine below_set ?_ GE306.out | refine below_set ?_ GE307.out | refine below_set ?_ GE308.out | refine below_set ?_ GE325.out | refine below_set ?_ GE332.out) | exact HB.out)⟩⟩
   case rest =>
    clear HC63
    try clear c1
    try clear c2
    try clear p2
    try clear c3
    try clear c4
    try clear c5
    try clear c6
    try clear p6
    try clear c7
    try clear c8
    try clear c9
    try clear c10
    try clear c11
    try clear c12
    try clear c17
    try clear c19
    try clear c21
    try clear c22
    try clear c23
    try clear c25
    try clear c28
    try clear c29
    try clear c30
    try clear c49
    try clear c50
    try clear c51
    try clear c52
    try clear c57
    try clear c58
    try clear c59
    try clear c60
    try clear c61
    try clear c64
    try clear c64b0
    try clear c64b1
    try clear p64
    try clear c65
    try clear c65b0
    try clear c65b1
    try clear c66
    try clear c66b0
    try clear c66b1
    try clear c67
    try clear c67b0
    try clear c67b1
    try clear c68
    try clear c68b0
    try clear c68b1
    try clear c69
    try clear c69b0
    try clear c70
    try clear c70b0
    try clear c71
    try clear c71b0
    try clear c72
    try clear c72b0
    try clear c72b1
    try clear c73
    try clear c73b0
    try clear c73b1
    try clear c74
    try clear c74b0
    try clear c75
    try clear c75b0
    try clear c76
    try clear c77
    try clear c78
    try clear c79
    try clear c80
    try clear c82
    try clear c83
    try clear c84
    try clear c85
    try clear c87
    try clear c88
    try clear c89
    try clear c90
    try clear c91
    try clear c93
    try clear c94
    try clear c95
    try clear c96
    try clear c98
    try clear c99
    try clear c100
    try clear c101
    try clear c102
    try clear c104
    try clear c105
    try clear c106
    try clear c107
    try clear hcz103_0
    try clear hcz103_1
    try clear hcz103_2
    try clear hcz103_3
    try clear hcz108_0
    try clear hcz108_1
    try clear hcz108_2
    try clear hcz108_3
    try clear hcz24_0
    try clear hcz24_1
    try clear hcz24_2
    try clear hcz24_3
    try clear hcz26_0
    try clear hcz26_1
    try clear hcz31_0
    try clear hcz31_1
    try clear hcz31_2
    try clear hcz31_3
    try clear hcz32_0
    try clear hcz32_1
    try clear hcz34_0
    try clear hcz34_1
    try clear hcz34_2
    try clear hcz34_3
    try clear hcz35_0
    try clear hcz35_1
    try clear hcz37_0
    try clear hcz37_1
    try clear hcz37_2
    try clear hcz37_3
    try clear hcz38_0
    try clear hcz38_1
    try clear hcz40_0
    try clear hcz40_1
    try clear hcz40_2
    try clear hcz40_3
    try clear hcz41_0
    try clear hcz41_1
    try clear hcz43_0
    try clear hcz43_1
    try clear hcz43_2
    try clear hcz43_3
    try clear hcz44_0
    try clear hcz44_1
    try clear hcz46_0
    try clear hcz46_1
    try clear hcz53_0
    try clear hcz53_1
    try clear hcz53_2
    try clear hcz53_3
    try clear hcz54_0
    try clear hcz54_1
    try clear hcz62_0
    try clear hcz62_1
    try clear hcz62_2
    try clear hcz62_3
    try clear hcz81_0
    try clear hcz81_1
    try clear hcz81_2
    try clear hcz81_3
    try clear hcz86_0
    try clear hcz86_1
    try clear hcz86_2
    try clear hcz86_3
    try clear hcz92_0
    try clear hcz92_1
    try clear hcz92_2
    try clear hcz92_3
    try clear hcz97_0
    try clear hcz97_1
    try clear hcz97_2
    try clear hcz97_3
    try clear hfz103_0
    try clear hfz103_1
    try clear hfz103_2
    try clear hfz103_3
    try clear hfz108_0
    try clear hfz108_1
    try clear hfz108_2
    try clear hfz108_3
    try clear hfz24_0
    try clear hfz24_1
    try clear hfz24_2
    try clear hfz24_3
    try clear hfz26_0
    try clear hfz26_1
    try clear hfz31_0
    try clear hfz31_1
    try clear hfz31_2
    try clear hfz31_3
    try clear hfz32_0
    try clear hfz32_1
    try clear hfz34_0
    try clear hfz34_1
    try clear hfz34_2
    try clear hfz34_3
    try clear hfz35_0
    try clear hfz35_1
    try clear hfz37_0
    try clear hfz37_1
    try clear hfz37_2
    try clear hfz37_3
    try clear hfz38_0
    try clear hfz38_1
    try clear hfz40_0
    try clear hfz40_1
    try clear hfz40_2
    try clear hfz40_3
    try clear hfz41_0
    try clear hfz41_1
    try clear hfz43_0
    try clear hfz43_1
    try clear hfz43_2
    try clear hfz43_3
    try clear hfz44_0
    try clear hfz44_1
    try clear hfz46_0
    try clear hfz46_1
    try clear hfz53_0
    try clear hfz53_1
    try clear hfz53_2
    try clear hfz53_3
    try clear hfz54_0
    try clear hfz54_1
    try clear hfz62_0
    try clear hfz62_1
    try clear hfz62_2
    try clear hfz62_3
    try clear hfz81_0
    try clear hfz81_1
    try clear hfz81_2
    try clear hfz81_3
    try clear hfz86_0
    try clear hfz86_1
    try clear hfz86_2
    try clear hfz86_3
    try clear hfz92_0
    try clear hfz92_1
    try clear hfz92_2
    try clear hfz92_3
    try clear hfz97_0
    try clear hfz97_1
    try clear hfz97_2
    try clear hfz97_3
    obtain ⟨kq, x8_62, rfl, HA, HJ62, BK306, BK307, BK308, BK325, BK332, HB⟩ := hcut
    cases kq with
    | zero => exact absurd HA.out (by simp [soundservicelaw18_ControlWeaker.j0])
    | succ kj62 =>
     have H := HA.out
     clear HA
     simp only [soundservicelaw18_ControlWeaker.j0] at H
     have H' := Aside0.mk H
     clear H
     go_wp2
     go_meet
     case rel => exact ⟨_, (x8_62), (by first | rfl | (simp; done) | (simp [*]; done)), H', ⟨by have := HJ62.out; first | omega | exact Nat.le_refl _⟩, ⟨by (with_reducible repeat (first | apply blk_drewN | apply blk_drew | apply blk_alloc)); exact BK306.out⟩, ⟨by (with_reducible repeat (first | apply blk_drewN | apply blk_drew | apply blk_alloc)); exact BK307.out⟩, ⟨by (with_reducible repeat (first | apply blk_drewN | apply blk_drew | apply blk_alloc)); exact BK308.out⟩, ⟨by (with_reducible repeat (first | apply blk_drewN | apply blk_drew | apply blk_alloc)); exact BK325.out⟩, ⟨by (with_reducible repeat (first | apply blk_drewN | apply blk_drew | apply blk_alloc)); exact BK332.out⟩, ⟨by repeat (first | (with_reducible first | exact HB.out | apply below_alloc | apply pw_below_drewN | apply below_drew1 | refine below_set ?_ GE306.out | refine below_set ?_ GE307.out | refine below_set ?_ GE308.out | refine below_set ?_ GE325.out | refine below_set ?_ GE332.out) | exact HB.out)⟩⟩
  case rest =>
   clear HC16
   try clear c1
   try clear c2
   try clear p2
   try clear c3
   try clear c4
   try clear c5
   try clear c6
   try clear p6
   try clear c7
   try clear c8
   try clear c9
   try clear c10
   try clear c11
   try clear c12
   try clear c17
   try clear c19
   try clear c21
   try clear c22
   try clear c23
   try clear c25
   try clear c28
   try clear c29
   try clear c30
   try clear c49
   try clear c50
   try clear c51
   try clear c52
   try clear c57
   try clear c58
   try clear c59
   try clear c60
   try clear c61
   try clear c64
   try clear c64b0
   try clear c64b1
   try clear p64
   try clear c65
   try clear c65b0
   try clear c65b1
   try clear c66
   try clear c66b0
   try clear c66b1
   try clear c67
   try clear c67b0
   try clear c67b1
   try clear c68
   try clear c68b0
   try clear c68b1
   try clear c69
   try clear c69b0
   try clear c70
   try clear c70b0
   try clear c71
   try clear c71b0
   try clear c72
   try clear c72b0
   try clear c72b1
   try clear c73
   try clear c73b0
   try clear c73b1
   try clear c74
   try clear c74b0
   try clear c75
   try clear c75b0
   try clear c76
   try clear c77
   try clear c78
   try clear c79
   try clear c80
   try clear c82
   try clear c83
   try clear c84
   try clear c85
   try clear c87
   try clear c88
   try clear c89
   try clear c90
   try clear c91
   try clear c93
   try clear c94
   try clear c95
   try clear c96
   try clear c98
   try clear c99
   try clear c100
   try clear c101
   try clear c102
   try clear c104
   try clear c105
   try clear c106
   try clear c107
   try clear hcz103_0
   try clear hcz103_1
   try clear hcz103_2
   try clear hcz103_3
   try clear hcz108_0
   try clear hcz108_1
   try clear hcz108_2
   try clear hcz108_3
   try clear hcz24_0
   try clear hcz24_1
   try clear hcz24_2
   try clear hcz24_3
   try clear hcz26_0
   try clear hcz26_1
   try clear hcz31_0
   try clear hcz31_1
   try clear hcz31_2
   try clear hcz31_3
   try clear hcz32_0
   try clear hcz32_1
   try clear hcz34_0
   try clear hcz34_1
   try clear hcz34_2
   try clear hcz34_3
   try clear hcz35_0
   try clear hcz35_1
   try clear hcz37_0
   try clear hcz37_1
   try clear hcz37_2
   try clear hcz37_3
   try clear hcz38_0
   try clear hcz38_1
   try clear hcz40_0
   try clear hcz40_1
   try clear hcz40_2
   try clear hcz40_3
   try clear hcz41_0
   try clear hcz41_1
   try clear hcz43_0
   try clear hcz43_1
   try clear hcz43_2
   try clear hcz43_3
   try clear hcz44_0
   try clear hcz44_1
   try clear hcz46_0
   try clear hcz46_1
   try clear hcz53_0
   try clear hcz53_1
   try clear hcz53_2
   try clear hcz53_3
   try clear hcz54_0
   try clear hcz54_1
   try clear hcz62_0
   try clear hcz62_1
   try clear hcz62_2
   try clear hcz62_3
   try clear hcz81_0
   try clear hcz81_1
   try clear hcz81_2
   try clear hcz81_3
   try clear hcz86_0
   try clear hcz86_1
   try clear hcz86_2
   try clear hcz86_3
   try clear hcz92_0
   try clear hcz92_1
   try clear hcz92_2
   try clear hcz92_3
   try clear hcz97_0
   try clear hcz97_1
   try clear hcz97_2
   try clear hcz97_3
   try clear hfz103_0
   try clear hfz103_1
   try clear hfz103_2
   try clear hfz103_3
   try clear hfz108_0
   try clear hfz108_1
   try clear hfz108_2
   try clear hfz108_3
   try clear hfz24_0
   try clear hfz24_1
   try clear hfz24_2
   try clear hfz24_3
   try clear hfz26_0
   try clear hfz26_1
   try clear hfz31_0
   try clear hfz31_1
   try clear hfz31_2
   try clear hfz31_3
   try clear hfz32_0
   try clear hfz32_1
   try clear hfz34_0
   try clear hfz34_1
   try clear hfz34_2
   try clear hfz34_3
   try clear hfz35_0
   try clear hfz35_1
   try clear hfz37_0
   try clear hfz37_1
   try clear hfz37_2
   try clear hfz37_3
   try clear hfz38_0
   try clear hfz38_1
   try clear hfz40_0
   try clear hfz40_1
   try clear hfz40_2
   try clear hfz40_3
   try clear hfz41_0
   try clear hfz41_1
   try clear hfz43_0
   try clear hfz43_1
   try clear hfz43_2
   try clear hfz43_3
   try clear hfz44_0
   try clear hfz44_1
   try clear hfz46_0
   try clear hfz46_1
   try clear hfz53_0
   try clear hfz53_1
   try clear hfz53_2
   try clear hfz53_3
   try clear hfz54_0
   try clear hfz54_1
   try clear hfz62_0
   try clear hfz62_1
   try clear hfz62_2
   try clear hfz62_3
   try clear hfz81_0
   try clear hfz81_1
   try clear hfz81_2
   try clear hfz81_3
   try clear hfz86_0
   try clear hfz86_1
   try clear hfz86_2
   try clear hfz86_3
   try clear hfz92_0
   try clear hfz92_1
   try clear hfz92_2
   try clear hfz92_3
   try clear hfz97_0
   try clear hfz97_1
   try clear hfz97_2
   try clear hfz97_3
   try clear p2
   try clear p6
   try clear p64
   obtain ⟨kq, x8_15, rfl, HA, HJ15, BK306, BK307, BK308, BK325, BK332, HB⟩ := hcut
   cases kq with
   | zero => exact absurd HA.out (by simp [soundservicelaw18_ControlWeaker.j1])
   | succ kj15 =>
    have H := HA.out
    clear HA
    simp only [soundservicelaw18_ControlWeaker.j1] at H
    obtain rfl := Option.some.inj H
    go_wp2
    go_ret
    exact ⟨by first | rfl | (simp [errW_none, errW_some] <;> rfl) | (simp [*, errW_none, errW_some] <;> rfl), by repeat (first | (with_reducible first | exact HB.out | apply below_alloc | apply pw_below_drewN | apply below_drew1 | refine below_set ?_ GE306.out | refine below_set ?_ GE307.out | refine below_set ?_ GE308.out | refine below_set ?_ GE325.out | refine below_set ?_ GE332.out) | exact HB.out)⟩
 ·replace c6 := Bool.eq_false_iff.mpr c6
  subst c6
  have H1 : (some false) = some r := by rw [if_neg (show ¬ (false = true) by decide)] at H; exact H
  clear H
  have H := H1
  clear H1
  obtain rfl := Option.some.inj H
  go_enter Try.func7, Try.ntmps7
  go_wp2_with (first | ((with_reducible refine gate_callee (f := 10) rfl ?_); refine goesL_ (some 33) rfl rfl Try.func10 (by kernel_rfl) rfl #[] rfl (by (try simp only [List.map_toArray, List.map_cons, List.map_nil]); first | done | rfl | (simp only [List.length_drop, List.length_take]; rfl)) ?_; (with_reducible refine (soundservicelaw18_sane.calls  false _ A5.out).mono ?_); rintro e w109 ⟨rfl, hb⟩; refine ⟨_, rfl, ?_⟩; have n0_ := Aside0.mk (below_step (by repeat (first | (with_reducible first | exact HB.out | apply below_alloc | apply pw_below_drewN | apply below_drew1) | exact HB.out)) hb); clear HB; have HB := n0_; clear n0_; (try clear hb); (try clear hb2); (try clear hk); (try clear hi)))
  go_ret
  exact ⟨by first | rfl | (simp [errW_none, errW_some] <;> rfl) | (simp [*, errW_none, errW_some] <;> rfl), by repeat (first | (with_reducible first | exact HB.out | apply below_alloc | apply pw_below_drewN | apply below_drew1) | exact HB.out)⟩

/-- THE ONE PURE STATEMENT of soundservicelaw18_ControlWeaker: yours. -/
def soundservicelaw18_ControlWeaker.Pure : Prop := ∀ (l0 : List Int) (a1 : Int) (a2 : Int) (a3 : Int), l0.length ≤ maxLen → l0.length * 1 ≤ 140737488351232 → (∀ x ∈ l0, (Lit.int .u8 x).wf = true) → (Lit.int .u8 a1).wf = true → (Lit.int .u8 a2).wf = true → (Lit.int .u8 a3).wf = true → ∃ k, soundservicelaw18_ControlWeaker.f k l0 a1 a2 a3 = some true
theorem soundservicelaw18_ControlWeaker.walk (P : soundservicelaw18_ControlWeaker.Pure) (a0 : Option Addr) (len0 cap0 : Nat) (z0 : List Int) (a1 : Int) (a2 : Int) (a3 : Int) (w : World) (w0 : (a0 = none ∧ len0 = 0 ∧ cap0 = 0 ∧ z0 = []) ∨ ∃ x, a0 = some x ∧ len0 ≤ cap0 ∧ cap0 ≤ maxLen ∧ z0.length = cap0 ∧ (∀ i, i < z0.length → w.cell? (x.add i) = some (.int .u8 (z0.getD i 0))) ∧ ∀ n ∈ z0, (Lit.int .u8 n).wf = true) (y0 : len0 * 1 ≤ 140737488351232) (w1 : (Lit.int .u8 a1).wf = true) (w2 : (Lit.int .u8 a2).wf = true) (w3 : (Lit.int .u8 a3).wf = true) :
  Calls Try.prog 7 #[.slice a0 len0 cap0, .int .u8 a1, .int .u8 a2, .int .u8 a3] w fun e w' => e = .returned (.bool true) ∧ Below w.heap.size w w' := by
 obtain ⟨l0, rfl, hr0, hm0, hw0, hc0⟩ := ReadsInt.ofRowC w0
 obtain ⟨k, h⟩ := P l0 a1 a2 a3 hm0 y0 hw0 w1 w2 w3
 refine (soundservicelaw18_ControlWeaker.calls k _ _ l0 a1 a2 a3 true w (Kd.C_of_reads (d := (0 : Int)) (h1 := fun _ => rfl) hr0) hc0 h).mono ?_
 rintro e w' ⟨rfl, hd⟩
 exact ⟨rfl, hd⟩

end Go.Proofs.Ytcnheiemajghiaa.PA
