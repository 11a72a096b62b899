/- Walks of functions of the program: each does what its Lean function says. Written by a program of this session (wip/xprint), which runs the printer of the kit with changes. -/
import Derived.Test.YthnmmiofhjbkeaaPAx0
import Derived.Test.YthnmmiofhjbkeaaPAx2
import Derived.Test.YthnmmiofhjbkeaaPAx4
import Derived.Test.YthnmmiofhjbkeaaPAx9
import Derived.Test.YthnmmiofhjbkeaaPAx11
import Derived.Test.YthnmmiofhjbkeaaPAx14
import Derived.Test.YthnmmiofhjbkeaaPAx16
namespace Go.Proofs.Ythnmmiofhjbkeaa.PA
open Go.RowKit Go.Proofs.YthnmmiofhjbkeaaW.PrintWords Go.Proofs.YthnmmiofhjbkeaaW.PrintLast Go.Proofs.YthnmmiofhjbkeaaW.PrintMore
attribute [local go_sem] max2_int min2_int max_two min_two max_three min_three max_four min_four   -- for this text's walks alone
set_option linter.unusedVariables false
set_option linter.unusedSimpArgs false

/-! ### soundservicelaw13_ClockChanges: function 4 -/
def soundservicelaw13_ClockChanges.j0 : Nat → Int → Int → Bool → List (S61) → List (S61) → List (S61) → Option (Bool)
 | 0, _, _, _, _, _, _ => none
 | k + 1, x11, x12, x72, x294000, x299000, x307000 => if x72 = true then (some false) else ((clock_Position.f k x294000 x12).bind fun bt307 => ((clock_Position.f k x299000 x12).bind fun bt309 => ((clock_Position.f k x294000 x11).bind fun bt311 => ((clock_Position.f k x307000 x11).bind fun bt313 => (if bt307.2 = 0 then (if bt309.2 = 0 then (if bt311.2 = 0 then (if bt313.2 = 0 then (if bt307.1 = bt309.1 then (some (bt311.1 == bt313.1)) else (if bt307.1 = (wrap64 (bt309.1 + 1)) then (some (bt311.1 == bt313.1)) else (some false))) else (some false)) else (some false)) else (some false)) else (some false))))))
def soundservicelaw13_ClockChanges.f (k : Nat) (l0 : List Int) (a1 : Int) (a2 : Int) : Option (Bool) := (soundservicelaw13_sane.f k).bind fun t282 => (if t282 = true then ((soundservicemade_New.f l0).bind fun t283 => ((soundservicemade_Rate.f t283).bind fun bt285 => ((clock_New.f k bt285.1 bt285.2.1).bind fun bt289 => ((clock_Change.f k bt289.1 (wrap64 (1 + (wrap64 (Int.tmod a1 500)))) bt285.1 bt285.2.1).bind fun bt294 => ((soundservicemade_Rate.f bt285.2.2).bind fun bt299 => ((clock_Change.f k bt289.1 (wrap64 (1 + (wrap64 (Int.tmod a1 500)))) bt299.1 bt299.2.1).bind fun bt302 => (if bt289.2 = 0 then (if bt294.2 = 0 then (soundservicelaw13_ClockChanges.j0 k (wrap64 (1 + (wrap64 (Int.tmod a1 500)))) (wrap64 ((wrap64 (1 + (wrap64 (Int.tmod a1 500)))) + (wrap64 (Int.tmod a2 900)))) (bt302.2 != 0) bt289.1 bt294.1 bt302.1) else (soundservicelaw13_ClockChanges.j0 k (wrap64 (1 + (wrap64 (Int.tmod a1 500)))) (wrap64 ((wrap64 (1 + (wrap64 (Int.tmod a1 500)))) + (wrap64 (Int.tmod a2 900)))) true bt289.1 bt294.1 bt302.1)) else (soundservicelaw13_ClockChanges.j0 k (wrap64 (1 + (wrap64 (Int.tmod a1 500)))) (wrap64 ((wrap64 (1 + (wrap64 (Int.tmod a1 500)))) + (wrap64 (Int.tmod a2 900)))) true bt289.1 bt294.1 bt302.1)))))))) else (some false))
theorem soundservicelaw13_ClockChanges.mono_l : ∀ k, (∀ y0 y1 y2 y3 y4 y5, LeO (soundservicelaw13_ClockChanges.j0 k y0 y1 y2 y3 y4 y5) (soundservicelaw13_ClockChanges.j0 (k + 1) y0 y1 y2 y3 y4 y5))
 | 0 => fun _ _ _ _ _ _ r h => by simp [soundservicelaw13_ClockChanges.j0] at h
 | k + 1 => by
  have ih0 := soundservicelaw13_ClockChanges.mono_l k
  ·intro y0 y1 y2 y3 y4 y5
   unfold soundservicelaw13_ClockChanges.j0
   repeat' first
   | (with_reducible exact ih0 _ _ _ _ _ _)
   | (with_reducible exact clock_Change.mono _ _ _ _ _)
   | (with_reducible exact clock_New.mono _ _ _)
   | (with_reducible exact clock_Position.mono _ _ _)
   | (with_reducible exact soundservicelaw13_sane.mono _)
   | (with_reducible exact LeO.refl _)
   | (with_reducible exact LeO.none _)
   | (with_reducible refine LeO.ite ?_ ?_)
   | (with_reducible refine LeO.bind ?_ (fun _ => ?_))
   | exact ih0 _ _ _ _ _ _
   | exact clock_Change.mono _ _ _ _ _
   | exact clock_New.mono _ _ _
   | exact clock_Position.mono _ _ _
   | exact soundservicelaw13_sane.mono _
   | exact LeO.none _
   | refine LeO.ite ?_ ?_
   | refine LeO.bind ?_ (fun _ => ?_)
theorem soundservicelaw13_ClockChanges.mono : ∀ a0 a1 a2 k, LeO (soundservicelaw13_ClockChanges.f k a0 a1 a2) (soundservicelaw13_ClockChanges.f (k + 1) a0 a1 a2) := by
 intro a0 a1 a2 k
 have ih0 := soundservicelaw13_ClockChanges.mono_l k
 unfold soundservicelaw13_ClockChanges.f
 repeat' first
   | (with_reducible exact ih0 _ _ _ _ _ _)
   | (with_reducible exact clock_Change.mono _ _ _ _ _)
   | (with_reducible exact clock_New.mono _ _ _)
   | (with_reducible exact clock_Position.mono _ _ _)
   | (with_reducible exact soundservicelaw13_sane.mono _)
   | (with_reducible exact LeO.refl _)
   | (with_reducible exact LeO.none _)
   | (with_reducible refine LeO.ite ?_ ?_)
   | (with_reducible refine LeO.bind ?_ (fun _ => ?_))
   | exact ih0 _ _ _ _ _ _
   | exact clock_Change.mono _ _ _ _ _
   | exact clock_New.mono _ _ _
   | exact clock_Position.mono _ _ _
   | exact soundservicelaw13_sane.mono _
   | exact LeO.none _
   | refine LeO.ite ?_ ?_
   | refine LeO.bind ?_ (fun _ => ?_)
def soundservicelaw13_ClockChanges.T8 : Bool × List (List Nat × List Nat) := (true, [([], []), ([], []), ([], []), ([2], [2]), ([0, 1, 3, 3], [0, 1, 3]), ([4], [4]), ([5], [5]), ([5], [5]), ([], []), ([8, 6, 4, 0, 1, 2, 3, 4, 5, 6, 8], [6, 8]), ([7, 9, 0, 1, 2, 3, 4, 5, 6, 7, 8, 9], [7])])
def soundservicelaw13_ClockChanges.B8 : List Nat := [0, 0, 0, 4, 15, 31, 63, 63, 0, 383, 1023]
theorem soundservicelaw13_ClockChanges.tab8 : rtab .any (opsOf Try.f4 8) = soundservicelaw13_ClockChanges.T8 := by kernel_rfl
theorem soundservicelaw13_ClockChanges.bits8 : waitsOk soundservicelaw13_ClockChanges.T8.2 soundservicelaw13_ClockChanges.B8 = true := by kernel_rfl
abbrev soundservicelaw13_ClockChanges.q0 : Array Bool := #[false, false, false, false, false, false, false, false, false, false, false]
abbrev soundservicelaw13_ClockChanges.q1 : Array Bool := #[false, true, false, false, false, false, false, false, false, false, false]
abbrev soundservicelaw13_ClockChanges.q2 : Array Bool := #[false, true, true, false, false, false, false, false, false, false, false]
abbrev soundservicelaw13_ClockChanges.q3 : Array Bool := #[true, true, true, false, false, false, false, false, false, false, false]
abbrev soundservicelaw13_ClockChanges.q4 : Array Bool := #[true, true, true, true, true, true, true, true, true, false, false]
abbrev soundservicelaw13_ClockChanges.q5 : Array Bool := #[true, true, true, true, false, false, false, false, false, false, false]
abbrev soundservicelaw13_ClockChanges.q6 : Array Bool := #[true, true, true, false, false, false, false, false, true, false, false]
abbrev soundservicelaw13_ClockChanges.q7 : Array Bool := #[true, true, true, true, true, false, false, false, false, false, false]
abbrev soundservicelaw13_ClockChanges.q8 : Array Bool := #[true, true, true, true, false, false, false, false, true, false, false]
abbrev soundservicelaw13_ClockChanges.q9 : Array Bool := #[true, true, true, true, true, true, false, false, false, false, false]
abbrev soundservicelaw13_ClockChanges.q10 : Array Bool := #[true, true, true, true, true, true, true, false, false, false, false]
abbrev soundservicelaw13_ClockChanges.q11 : Array Bool := #[true, true, true, true, true, true, true, true, false, false, false]
abbrev soundservicelaw13_ClockChanges.q12 : Array Bool := #[true, true, true, true, true, false, false, false, true, false, false]
abbrev soundservicelaw13_ClockChanges.q13 : Array Bool := #[true, true, true, true, true, true, false, false, true, false, false]
abbrev soundservicelaw13_ClockChanges.q14 : Array Bool := #[true, true, true, true, true, true, true, false, true, false, false]
abbrev soundservicelaw13_ClockChanges.q15 : Array Bool := #[true, true, true, true, true, true, true, true, true, true, false]
abbrev soundservicelaw13_ClockChanges.q16 : Array Bool := #[true, true, true, true, true, true, true, true, true, true, true]
set_option maxHeartbeats 8000000 in
set_option maxRecDepth 100000 in
theorem soundservicelaw13_ClockChanges.calls (k : Nat) (A0 : Option Addr) (c0 : Nat) (l0 : List Int) (a1 : Int) (a2 : Int) (r : Bool) (w : World) (hr0 : Kd.C (Kd.int .u8) w A0 l0.length l0) (hc0 : l0.length ≤ c0) (h : soundservicelaw13_ClockChanges.f k l0 a1 a2 = some r) :
  Calls Try.prog 4 #[.slice A0 l0.length c0, .int .u16 a1, .int .u16 a2] w fun e w' => e = .returned (.bool r) ∧ Below w.heap.size w w' := by
 have hu27 := Try.underlying27
 have hu24 := Try.underlying24
 have HR0 := Am hr0
 have HC0 := Am hc0
 clear hr0 hc0
 have HB := Am (Below.refl w.heap.size w)
 have H : ((soundservicelaw13_sane.f k).bind fun t282 => (if t282 = true then ((soundservicemade_New.f l0).bind fun t283 => ((soundservicemade_Rate.f t283).bind fun bt285 => ((clock_New.f k bt285.1 bt285.2.1).bind fun bt289 => ((clock_Change.f k bt289.1 (wrap64 (1 + (wrap64 (Int.tmod a1 500)))) bt285.1 bt285.2.1).bind fun bt294 => ((soundservicemade_Rate.f bt285.2.2).bind fun bt299 => ((clock_Change.f k bt289.1 (wrap64 (1 + (wrap64 (Int.tmod a1 500)))) bt299.1 bt299.2.1).bind fun bt302 => (if bt289.2 = 0 then (if bt294.2 = 0 then (soundservicelaw13_ClockChanges.j0 k (wrap64 (1 + (wrap64 (Int.tmod a1 500)))) (wrap64 ((wrap64 (1 + (wrap64 (Int.tmod a1 500)))) + (wrap64 (Int.tmod a2 900)))) (bt302.2 != 0) bt289.1 bt294.1 bt302.1) else (soundservicelaw13_ClockChanges.j0 k (wrap64 (1 + (wrap64 (Int.tmod a1 500)))) (wrap64 ((wrap64 (1 + (wrap64 (Int.tmod a1 500)))) + (wrap64 (Int.tmod a2 900)))) true bt289.1 bt294.1 bt302.1)) else (soundservicelaw13_ClockChanges.j0 k (wrap64 (1 + (wrap64 (Int.tmod a1 500)))) (wrap64 ((wrap64 (1 + (wrap64 (Int.tmod a1 500)))) + (wrap64 (Int.tmod a2 900)))) true bt289.1 bt294.1 bt302.1)))))))) else (some false))) = some r := h
 clear h
 replace H := Option.bind_eq_some_iff.mp H
 obtain ⟨t282, A40, H⟩ := H
 replace H : (if t282 = true then ((soundservicemade_New.f l0).bind fun t283 => ((soundservicemade_Rate.f t283).bind fun bt285 => ((clock_New.f k bt285.1 bt285.2.1).bind fun bt289 => ((clock_Change.f k bt289.1 (wrap64 (1 + (wrap64 (Int.tmod a1 500)))) bt285.1 bt285.2.1).bind fun bt294 => ((soundservicemade_Rate.f bt285.2.2).bind fun bt299 => ((clock_Change.f k bt289.1 (wrap64 (1 + (wrap64 (Int.tmod a1 500)))) bt299.1 bt299.2.1).bind fun bt302 => (if bt289.2 = 0 then (if bt294.2 = 0 then (soundservicelaw13_ClockChanges.j0 k (wrap64 (1 + (wrap64 (Int.tmod a1 500)))) (wrap64 ((wrap64 (1 + (wrap64 (Int.tmod a1 500)))) + (wrap64 (Int.tmod a2 900)))) (bt302.2 != 0) bt289.1 bt294.1 bt302.1) else (soundservicelaw13_ClockChanges.j0 k (wrap64 (1 + (wrap64 (Int.tmod a1 500)))) (wrap64 ((wrap64 (1 + (wrap64 (Int.tmod a1 500)))) + (wrap64 (Int.tmod a2 900)))) true bt289.1 bt294.1 bt302.1)) else (soundservicelaw13_ClockChanges.j0 k (wrap64 (1 + (wrap64 (Int.tmod a1 500)))) (wrap64 ((wrap64 (1 + (wrap64 (Int.tmod a1 500)))) + (wrap64 (Int.tmod a2 900)))) true bt289.1 bt294.1 bt302.1)))))))) else (some false)) = some r := H
 have A4 := Am A40
 clear A40
 by_cases c5 : t282 = true
 ·subst c5
  have H1 : ((soundservicemade_New.f l0).bind fun t283 => ((soundservicemade_Rate.f t283).bind fun bt285 => ((clock_New.f k bt285.1 bt285.2.1).bind fun bt289 => ((clock_Change.f k bt289.1 (wrap64 (1 + (wrap64 (Int.tmod a1 500)))) bt285.1 bt285.2.1).bind fun bt294 => ((soundservicemade_Rate.f bt285.2.2).bind fun bt299 => ((clock_Change.f k bt289.1 (wrap64 (1 + (wrap64 (Int.tmod a1 500)))) bt299.1 bt299.2.1).bind fun bt302 => (if bt289.2 = 0 then (if bt294.2 = 0 then (soundservicelaw13_ClockChanges.j0 k (wrap64 (1 + (wrap64 (Int.tmod a1 500)))) (wrap64 ((wrap64 (1 + (wrap64 (Int.tmod a1 500)))) + (wrap64 (Int.tmod a2 900)))) (bt302.2 != 0) bt289.1 bt294.1 bt302.1) else (soundservicelaw13_ClockChanges.j0 k (wrap64 (1 + (wrap64 (Int.tmod a1 500)))) (wrap64 ((wrap64 (1 + (wrap64 (Int.tmod a1 500)))) + (wrap64 (Int.tmod a2 900)))) true bt289.1 bt294.1 bt302.1)) else (soundservicelaw13_ClockChanges.j0 k (wrap64 (1 + (wrap64 (Int.tmod a1 500)))) (wrap64 ((wrap64 (1 + (wrap64 (Int.tmod a1 500)))) + (wrap64 (Int.tmod a2 900)))) true bt289.1 bt294.1 bt302.1)))))))) = some r := by rw [if_pos rfl] at H; exact H
  clear H
  have H := H1
  clear H1
  replace H := Option.bind_eq_some_iff.mp H
  obtain ⟨t283, A60, H⟩ := H
  replace H : ((soundservicemade_Rate.f t283).bind fun bt285 => ((clock_New.f k bt285.1 bt285.2.1).bind fun bt289 => ((clock_Change.f k bt289.1 (wrap64 (1 + (wrap64 (Int.tmod a1 500)))) bt285.1 bt285.2.1).bind fun bt294 => ((soundservicemade_Rate.f bt285.2.2).bind fun bt299 => ((clock_Change.f k bt289.1 (wrap64 (1 + (wrap64 (Int.tmod a1 500)))) bt299.1 bt299.2.1).bind fun bt302 => (if bt289.2 = 0 then (if bt294.2 = 0 then (soundservicelaw13_ClockChanges.j0 k (wrap64 (1 + (wrap64 (Int.tmod a1 500)))) (wrap64 ((wrap64 (1 + (wrap64 (Int.tmod a1 500)))) + (wrap64 (Int.tmod a2 900)))) (bt302.2 != 0) bt289.1 bt294.1 bt302.1) else (soundservicelaw13_ClockChanges.j0 k (wrap64 (1 + (wrap64 (Int.tmod a1 500)))) (wrap64 ((wrap64 (1 + (wrap64 (Int.tmod a1 500)))) + (wrap64 (Int.tmod a2 900)))) true bt289.1 bt294.1 bt302.1)) else (soundservicelaw13_ClockChanges.j0 k (wrap64 (1 + (wrap64 (Int.tmod a1 500)))) (wrap64 ((wrap64 (1 + (wrap64 (Int.tmod a1 500)))) + (wrap64 (Int.tmod a2 900)))) true bt289.1 bt294.1 bt302.1))))))) = some r := H
  have A6 := Am A60
  clear A60
  replace H := Option.bind_eq_some_iff.mp H
  obtain ⟨⟨t285, t286, t287⟩, A70, H⟩ := H
  replace H : ((clock_New.f k t285 t286).bind fun bt289 => ((clock_Change.f k bt289.1 (wrap64 (1 + (wrap64 (Int.tmod a1 500)))) t285 t286).bind fun bt294 => ((soundservicemade_Rate.f t287).bind fun bt299 => ((clock_Change.f k bt289.1 (wrap64 (1 + (wrap64 (Int.tmod a1 500)))) bt299.1 bt299.2.1).bind fun bt302 => (if bt289.2 = 0 then (if bt294.2 = 0 then (soundservicelaw13_ClockChanges.j0 k (wrap64 (1 + (wrap64 (Int.tmod a1 500)))) (wrap64 ((wrap64 (1 + (wrap64 (Int.tmod a1 500)))) + (wrap64 (Int.tmod a2 900)))) (bt302.2 != 0) bt289.1 bt294.1 bt302.1) else (soundservicelaw13_ClockChanges.j0 k (wrap64 (1 + (wrap64 (Int.tmod a1 500)))) (wrap64 ((wrap64 (1 + (wrap64 (Int.tmod a1 500)))) + (wrap64 (Int.tmod a2 900)))) true bt289.1 bt294.1 bt302.1)) else (soundservicelaw13_ClockChanges.j0 k (wrap64 (1 + (wrap64 (Int.tmod a1 500)))) (wrap64 ((wrap64 (1 + (wrap64 (Int.tmod a1 500)))) + (wrap64 (Int.tmod a2 900)))) true bt289.1 bt294.1 bt302.1)))))) = some r := H
  have A7 := Am A70
  clear A70
  replace H := Option.bind_eq_some_iff.mp H
  obtain ⟨⟨t289, t292⟩, A80, H⟩ := H
  replace H : ((clock_Change.f k t289 (wrap64 (1 + (wrap64 (Int.tmod a1 500)))) t285 t286).bind fun bt294 => ((soundservicemade_Rate.f t287).bind fun bt299 => ((clock_Change.f k t289 (wrap64 (1 + (wrap64 (Int.tmod a1 500)))) bt299.1 bt299.2.1).bind fun bt302 => (if t292 = 0 then (if bt294.2 = 0 then (soundservicelaw13_ClockChanges.j0 k (wrap64 (1 + (wrap64 (Int.tmod a1 500)))) (wrap64 ((wrap64 (1 + (wrap64 (Int.tmod a1 500)))) + (wrap64 (Int.tmod a2 900)))) (bt302.2 != 0) t289 bt294.1 bt302.1) else (soundservicelaw13_ClockChanges.j0 k (wrap64 (1 + (wrap64 (Int.tmod a1 500)))) (wrap64 ((wrap64 (1 + (wrap64 (Int.tmod a1 500)))) + (wrap64 (Int.tmod a2 900)))) true t289 bt294.1 bt302.1)) else (soundservicelaw13_ClockChanges.j0 k (wrap64 (1 + (wrap64 (Int.tmod a1 500)))) (wrap64 ((wrap64 (1 + (wrap64 (Int.tmod a1 500)))) + (wrap64 (Int.tmod a2 900)))) true t289 bt294.1 bt302.1))))) = some r := H
  have A8 := Am A80
  clear A80
  replace H := Option.bind_eq_some_iff.mp H
  obtain ⟨⟨t294, t297⟩, A90, H⟩ := H
  replace H : ((soundservicemade_Rate.f t287).bind fun bt299 => ((clock_Change.f k t289 (wrap64 (1 + (wrap64 (Int.tmod a1 500)))) bt299.1 bt299.2.1).bind fun bt302 => (if t292 = 0 then (if t297 = 0 then (soundservicelaw13_ClockChanges.j0 k (wrap64 (1 + (wrap64 (Int.tmod a1 500)))) (wrap64 ((wrap64 (1 + (wrap64 (Int.tmod a1 500)))) + (wrap64 (Int.tmod a2 900)))) (bt302.2 != 0) t289 t294 bt302.1) else (soundservicelaw13_ClockChanges.j0 k (wrap64 (1 + (wrap64 (Int.tmod a1 500)))) (wrap64 ((wrap64 (1 + (wrap64 (Int.tmod a1 500)))) + (wrap64 (Int.tmod a2 900)))) true t289 t294 bt302.1)) else (soundservicelaw13_ClockChanges.j0 k (wrap64 (1 + (wrap64 (Int.tmod a1 500)))) (wrap64 ((wrap64 (1 + (wrap64 (Int.tmod a1 500)))) + (wrap64 (Int.tmod a2 900)))) true t289 t294 bt302.1)))) = some r := H
  have A9 := Am A90
  clear A90
  replace H := Option.bind_eq_some_iff.mp H
  obtain ⟨⟨t299, t300, t301⟩, A100, H⟩ := H
  replace H : ((clock_Change.f k t289 (wrap64 (1 + (wrap64 (Int.tmod a1 500)))) t299 t300).bind fun bt302 => (if t292 = 0 then (if t297 = 0 then (soundservicelaw13_ClockChanges.j0 k (wrap64 (1 + (wrap64 (Int.tmod a1 500)))) (wrap64 ((wrap64 (1 + (wrap64 (Int.tmod a1 500)))) + (wrap64 (Int.tmod a2 900)))) (bt302.2 != 0) t289 t294 bt302.1) else (soundservicelaw13_ClockChanges.j0 k (wrap64 (1 + (wrap64 (Int.tmod a1 500)))) (wrap64 ((wrap64 (1 + (wrap64 (Int.tmod a1 500)))) + (wrap64 (Int.tmod a2 900)))) true t289 t294 bt302.1)) else (soundservicelaw13_ClockChanges.j0 k (wrap64 (1 + (wrap64 (Int.tmod a1 500)))) (wrap64 ((wrap64 (1 + (wrap64 (Int.tmod a1 500)))) + (wrap64 (Int.tmod a2 900)))) true t289 t294 bt302.1))) = some r := H
  have A10 := Am A100
  clear A100
  replace H := Option.bind_eq_some_iff.mp H
  obtain ⟨⟨t302, t305⟩, A110, H⟩ := H
  replace H : (if t292 = 0 then (if t297 = 0 then (soundservicelaw13_ClockChanges.j0 k (wrap64 (1 + (wrap64 (Int.tmod a1 500)))) (wrap64 ((wrap64 (1 + (wrap64 (Int.tmod a1 500)))) + (wrap64 (Int.tmod a2 900)))) (t305 != 0) t289 t294 t302) else (soundservicelaw13_ClockChanges.j0 k (wrap64 (1 + (wrap64 (Int.tmod a1 500)))) (wrap64 ((wrap64 (1 + (wrap64 (Int.tmod a1 500)))) + (wrap64 (Int.tmod a2 900)))) true t289 t294 t302)) else (soundservicelaw13_ClockChanges.j0 k (wrap64 (1 + (wrap64 (Int.tmod a1 500)))) (wrap64 ((wrap64 (1 + (wrap64 (Int.tmod a1 500)))) + (wrap64 (Int.tmod a2 900)))) true t289 t294 t302)) = some r := H
  have A11 := Am A110
  clear A110
  have HC12 := Am H
  clear H
  go_enter Try.func4, Try.ntmps4
  try go_wp2_with (first | ((with_reducible refine gate_callee (f := 9) rfl ?_); refine goesL_ (some 25) rfl rfl Try.func9 (by kernel_rfl) rfl #[] rfl (by (try simp only [List.map_toArray, List.map_cons, List.map_nil]); first | done | rfl | (simp only [List.length_drop, List.length_take]; rfl)) ?_; (with_reducible refine (soundservicelaw13_sane.calls k  true _ A4.out).mono ?_); rintro e w13 ⟨rfl, hb⟩; refine ⟨_, rfl, ?_⟩; have n0_ := Am (below_step (by repeat (first | (with_reducible first | exact HB.out | apply bA | apply bN | apply bD) | exact HB.out)) hb); clear HB; have HB := n0_; clear n0_; (try clear hb); (try clear hb2); (try clear hk); (try clear hi)) | ((with_reducible refine gate_callee (f := 19) rfl ?_); refine goesL_ (some 28) rfl rfl Try.func19 (by kernel_rfl) rfl #[.slice A0 l0.length c0] rfl (by (try simp only [List.map_toArray, List.map_cons, List.map_nil]); first | done | rfl | (simp only [List.length_drop, List.length_take]; rfl)) ?_; (with_reducible refine (soundservicemade_New.calls _ _ l0 t283 w _ ?side1 ?side2 ?side3 A6.out).mono ?_); (case side1 => repeat (first | (with_reducible first | exact HB.out | apply bA | apply bN | apply bD) | exact HB.out)); (case side2 => exact HR0.out); (case side3 => exact HC0.out); rintro e w14 ⟨g284, rfl, hi, hb, hb2⟩; refine ⟨_, rfl, ?_⟩; have n0_ := Am (hb); have n1_ := Am (hi); clear HB; have HB := n0_; have HI284 := n1_; clear n0_ n1_; (try clear hb); (try clear hb2); (try clear hk); (try clear hi)) | ((with_reducible refine gate_callee (f := 20) rfl ?_); refine goesL_ (some 30) rfl rfl Try.func20 (by kernel_rfl) rfl #[.pointer (some ⟨g284, 0, none⟩)] rfl (by (try simp only [List.map_toArray, List.map_cons, List.map_nil]); first | done | rfl | (simp only [List.length_drop, List.length_take]; rfl)) ?_; (with_reducible refine (soundservicemade_Rate.calls g284 t283 t285 t286 t287 w _ ?side1 ?side2 A7.out).mono ?_); (case side1 => repeat (first | (with_reducible first | exact HI284.out | apply IsS63.alloc | apply IsS63.drewN | apply IsS63.drew) | exact HI284.out)); (case side2 => repeat (first | (with_reducible first | exact HB.out | apply bA | apply bN | apply bD | refine bS ?_ (IsS63.ge HI284.out)) | exact HB.out)); rintro e w15 ⟨rfl, hi, hb, hk⟩; refine ⟨_, rfl, ?_⟩; have n0_ := Am (hb); have n1_ := Am (hi); clear HB; clear HI284; have HB := n0_; have HI284 := n1_; clear n0_ n1_; (try clear hb); (try clear hb2); (try clear hk); (try clear hi)) | ((with_reducible refine gate_dst (N := 8) rfl ?_); refine box_event ?hg (N := 8) ?hd (cs := #[.int .i64 0, .int .i64 0]) (t := 27) ?hr ?_; (case hd => rfl); (case hg => rfl); (case hr => first | (go_simp; done) | (go_simp; rfl)); intro gb288 hg w16 hbox hb; have n0_ := Am (IsS63.below (by repeat (first | (with_reducible first | exact HI284.out | apply IsS63.alloc | apply IsS63.drewN | apply IsS63.drew) | exact HI284.out)) hb); have n1_ := Am (below_step (by repeat (first | (with_reducible first | exact HB.out | apply bA | apply bN | apply bD | refine bS ?_ (IsS63.ge HI284.out)) | exact HB.out)) hb); have n2_ := Am (hbox); have n3_ := Am ((by rw [hg]; exact (below_size (by repeat (first | (with_reducible first | exact HB.out | apply bA | apply bN | apply bD | refine bS ?_ (IsS63.ge HI284.out)) | exact HB.out))) : w.heap.size ≤ gb288)); have n4_ := Am ((by rw [hg]; exact (below_size (by repeat (first | (with_reducible first | exact HB.out | apply bA | apply bN | apply bD | refine bS ?_ (IsS63.ge HI284.out)) | exact HB.out))) : w.heap.size ≤ gb288)); have n5_ := Am ((by rw [hg]; exact Nat.ne_of_lt (IsS63.lt (show IsS63 w _ g284 t287 from by repeat (first | (with_reducible first | exact HI284.out | apply IsS63.alloc | apply IsS63.drewN | apply IsS63.drew) | exact HI284.out))) : g284 ≠ gb288)); have n6_ := Am ((by rw [hg]; exact Nat.ne_of_gt (IsS63.lt (show IsS63 w _ g284 t287 from by repeat (first | (with_reducible first | exact HI284.out | apply IsS63.alloc | apply IsS63.drewN | apply IsS63.drew) | exact HI284.out))) : gb288 ≠ g284)); clear HI284; clear HB; have HI284 := n0_; have HB := n1_; have BK288 := n2_; have GW288 := n3_; have GE288 := n4_; have NB284_288 := n5_; have NB288_284 := n6_; clear n0_ n1_ n2_ n3_ n4_ n5_ n6_; clear hb hbox hg; have hnb17 := NB288_284.out; have hnc17 := NB284_288.out; have hcz18_0 : w16.cell? ⟨gb288, 0, none⟩ = some (.int .i64 0) := (blk_cell BK288.out 0).trans rfl; have hcz18_1 : w16.cell? ⟨gb288, 1, none⟩ = some (.int .i64 0) := (blk_cell BK288.out 1).trans rfl; have hfz18_0 := blk_frozen BK288.out 0; have hfz18_1 := blk_frozen BK288.out 1) | ((with_reducible refine gate_callee (f := 11) rfl ?_); refine goesL_ (some 33) rfl rfl Try.func11 (by kernel_rfl) rfl #[.agg #[.int .i64 t285, .int .i64 t286]] rfl (by (try simp only [List.map_toArray, List.map_cons, List.map_nil]); first | done | rfl | (simp only [List.length_drop, List.length_take]; rfl)) ?_; (with_reducible refine (clock_New.calls k t285 t286 t289 t292 _ A8.out).mono ?_); rintro e w19 ⟨v290, rfl, ho0, hb⟩; refine ⟨_, rfl, ?_⟩; have n0_ := Am (Kd.R_lower ho0 (below_size (by repeat (first | (with_reducible first | exact HB.out | apply bA | apply bN | apply bD | refine bS ?_ (IsS63.ge HI284.out) | refine bS ?_ GE288.out) | exact HB.out)))); have n1_ := Am (IsS63.below (show IsS63 w ((w16.setCell ⟨gb288, 0, none⟩ (.int .i64 t285)).setCell ⟨gb288, 1, none⟩ (.int .i64 t286)) g284 t287 from by repeat (first | (with_reducible first | exact HI284.out | apply IsS63.alloc | apply IsS63.drewN | apply IsS63.drew | refine IsS63.far ?_ NB284_288.out _) | exact HI284.out)) hb); have n2_ := Am (blk_below (g := gb288) (o := .cells #[.int .i64 t285, .int .i64 t286] 27 (0, 0)) (by (with_reducible repeat (first | apply kN | apply kD | apply kA)); refine blk_put (cs := #[.int .i64 t285, .int .i64 0]) ?_ 1 _ rfl; (with_reducible repeat (first | apply kN | apply kD | apply kA)); refine blk_put (cs := #[.int .i64 0, .int .i64 0]) ?_ 0 _ rfl; (with_reducible repeat (first | apply kN | apply kD | apply kA)); exact BK288.out) hb); have n3_ := Am (below_step (by repeat (first | (with_reducible first | exact HB.out | apply bA | apply bN | apply bD | refine bS ?_ (IsS63.ge HI284.out) | refine bS ?_ GE288.out) | exact HB.out)) hb); clear HI284; clear BK288; clear HB; have HO291 := n0_; have HI284 := n1_; have BK288 := n2_; have HB := n3_; clear n0_ n1_ n2_ n3_; (try clear hb); (try clear hb2); (try clear hk); (try clear hi); (try clear ho0)) | ((with_reducible refine gate_dst (N := 9) rfl ?_); refine box_event ?hg (N := 9) ?hd (cs := #[.slice none 0 0]) (t := 24) ?hr ?_; (case hd => rfl); (case hg => rfl); (case hr => first | (go_simp; done) | (go_simp; rfl)); intro gb293 hg w20 hbox hb; have n0_ := Am (Kd.R_below (by (with_reducible repeat (first | apply Kd.R_alloc | apply Kd.R_drewN | apply Kd.R_drew)); exact HO291.out) hb); have n1_ := Am (IsS63.below (by repeat (first | (with_reducible first | exact HI284.out | apply IsS63.alloc | apply IsS63.drewN | apply IsS63.drew | refine IsS63.far ?_ NB284_288.out _) | exact HI284.out)) hb); have n2_ := Am (blk_below (g := gb288) (o := .cells #[.int .i64 t285, .int .i64 t286] 27 (0, 0)) (by (with_reducible repeat (first | apply kN | apply kD | apply kA)); exact BK288.out) hb); have n3_ := Am (below_step (by repeat (first | (with_reducible first | exact HB.out | apply bA | apply bN | apply bD | refine bS ?_ (IsS63.ge HI284.out) | refine bS ?_ GE288.out) | exact HB.out)) hb); have n4_ := Am (hbox); have n5_ := Am ((by rw [hg]; exact (below_size (by repeat (first | (with_reducible first | exact HB.out | apply bA | apply bN | apply bD | refine bS ?_ (IsS63.ge HI284.out) | refine bS ?_ GE288.out) | exact HB.out))) : w.heap.size ≤ gb293)); have n6_ := Am ((by rw [hg]; exact (below_size (by repeat (first | (with_reducible first | exact HB.out | apply bA | apply bN | apply bD | refine bS ?_ (IsS63.ge HI284.out) | refine bS ?_ GE288.out) | exact HB.out))) : w.heap.size ≤ gb293)); have n7_ := Am ((by rw [hg]; exact Nat.ne_of_lt (blk_lt (g := gb288) (o := .cells #[.int .i64 t285, .int .i64 t286] 27 (0, 0)) (by (with_reducible repeat (first | apply kN | apply kD | apply kA)); exact BK288.out)) : gb288 ≠ gb293)); have n8_ := Am ((by rw [hg]; exact Nat.ne_of_gt (blk_lt (g := gb288) (o := .cells #[.int .i64 t285, .int .i64 t286] 27 (0, 0)) (by (with_reducible repeat (first | apply kN | apply kD | apply kA)); exact BK288.out)) : gb293 ≠ gb288)); have n9_ := Am ((by rw [hg]; exact Nat.ne_of_lt (IsS63.lt (show IsS63 w _ g284 t287 from by repeat (first | (with_reducible first | exact HI284.out | apply IsS63.alloc | apply IsS63.drewN | apply IsS63.drew | refine IsS63.far ?_ NB284_288.out _) | exact HI284.out))) : g284 ≠ gb293)); have n10_ := Am ((by rw [hg]; exact Nat.ne_of_gt (IsS63.lt (show IsS63 w _ g284 t287 from by repeat (first | (with_reducible first | exact HI284.out | apply IsS63.alloc | apply IsS63.drewN | apply IsS63.drew | refine IsS63.far ?_ NB284_288.out _) | exact HI284.out))) : gb293 ≠ g284)); clear HO291; clear HI284; clear BK288; clear HB; have HO291 := n0_; have HI284 := n1_; have BK288 := n2_; have HB := n3_; have BK293 := n4_; have GW293 := n5_; have GE293 := n6_; have NB288_293 := n7_; have NB293_288 := n8_; have NB284_293 := n9_; have NB293_284 := n10_; clear n0_ n1_ n2_ n3_ n4_ n5_ n6_ n7_ n8_ n9_ n10_; clear hb hbox hg; obtain ⟨Ao21, co21, eo21⟩ := Kd.R_slice HO291.out; subst eo21; have hnb22 := NB293_288.out; have hnc22 := NB288_293.out; have hnb23 := NB293_284.out; have hnc23 := NB284_293.out; have hcz24_0 : w20.cell? ⟨gb293, 0, none⟩ = some (.slice none 0 0) := (blk_cell BK293.out 0).trans rfl; have hfz24_0 := blk_frozen BK293.out 0; have hcz25_0 : w20.cell? ⟨gb288, 0, none⟩ = some (.int .i64 t285) := (blk_cell BK288.out 0).trans rfl; have hcz25_1 : w20.cell? ⟨gb288, 1, none⟩ = some (.int .i64 t286) := (blk_cell BK288.out 1).trans rfl; have hfz25_0 := blk_frozen BK288.out 0; have hfz25_1 := blk_frozen BK288.out 1) | ((with_reducible refine gate_callee (f := 15) rfl ?_); refine goesL_ (some 52) rfl rfl Try.func15 (by kernel_rfl) rfl #[.agg #[.slice Ao21 t289.length co21], .int .i64 (wrap64 (1 + (wrap64 (Int.tmod a1 500)))), .agg #[.int .i64 t285, .int .i64 t286]] rfl (by (try simp only [List.map_toArray, List.map_cons, List.map_nil]); first | done | rfl | (simp only [List.length_drop, List.length_take]; rfl)) ?_; (with_reducible refine (clock_Change.calls k _ _ t289 (wrap64 (1 + (wrap64 (Int.tmod a1 500)))) t285 t286 t294 t297 _ ?side1 ?side2 A9.out).mono ?_); (case side1 => refine (Kd.R_reads' (e := 61) (base := w.heap.size) (ok := fun k_ => True) (n := t289.length) (c := co21) ?_).2.2; exact (by (with_reducible repeat (first | apply Kd.R_alloc | apply Kd.R_drewN | apply Kd.R_drew)); exact (Kd.R_mono (Kd.R_far (p := ⟨gb293, 0, none⟩) (Kd.R_types HO291.out BK293.out (by decide)) (fun _ hk => hk.2) (.slice Ao21 t289.length co21)) (fun _ h_ => h_.1)))); (case side2 => exact (Kd.R_reads' HO291.out).2.1); rintro e w26 ⟨v295, rfl, ho0, hb⟩; refine ⟨_, rfl, ?_⟩; have n0_ := Am (Kd.R_elder' (by (with_reducible repeat (first | apply Kd.R_alloc | apply Kd.R_drewN | apply Kd.R_drew)); exact (Kd.R_mono (Kd.R_far (p := ⟨gb293, 0, none⟩) (Kd.R_types HO291.out BK293.out (by decide)) (fun _ hk => hk.2) (.slice Ao21 t289.length co21)) (fun _ h_ => h_.1))) (Kd.R_base ho0) hb); have n1_ := Am (Kd.R_lower (Kd.R_new' ho0 (Kd.R_lt (by (with_reducible repeat (first | apply Kd.R_alloc | apply Kd.R_drewN | apply Kd.R_drew)); exact (Kd.R_mono (Kd.R_far (p := ⟨gb293, 0, none⟩) (Kd.R_types HO291.out BK293.out (by decide)) (fun _ hk => hk.2) (.slice Ao21 t289.length co21)) (fun _ h_ => h_.1))))) (below_size (by repeat (first | (with_reducible first | exact HB.out | apply bA | apply bN | apply bD | refine bS ?_ (IsS63.ge HI284.out) | refine bS ?_ GE288.out | refine bS ?_ GE293.out) | exact HB.out)))); have n2_ := Am (IsS63.below (show IsS63 w (w20.setCell ⟨gb293, 0, none⟩ (.slice Ao21 t289.length co21)) g284 t287 from by repeat (first | (with_reducible first | exact HI284.out | apply IsS63.alloc | apply IsS63.drewN | apply IsS63.drew | refine IsS63.far ?_ NB284_288.out _ | refine IsS63.far ?_ NB284_293.out _) | exact HI284.out)) hb); have n3_ := Am (blk_below (g := gb288) (o := .cells #[.int .i64 t285, .int .i64 t286] 27 (0, 0)) (by (with_reducible repeat (first | apply kN | apply kD | apply kA)); refine blk_far ?_ NB288_293.out _; (with_reducible repeat (first | apply kN | apply kD | apply kA)); exact BK288.out) hb); have n4_ := Am (blk_below (g := gb293) (o := .cells #[.slice Ao21 t289.length co21] 24 (0, 0)) (by (with_reducible repeat (first | apply kN | apply kD | apply kA)); refine blk_put (cs := #[.slice none 0 0]) ?_ 0 _ rfl; (with_reducible repeat (first | apply kN | apply kD | apply kA)); exact BK293.out) hb); have n5_ := Am (below_step (by repeat (first | (with_reducible first | exact HB.out | apply bA | apply bN | apply bD | refine bS ?_ (IsS63.ge HI284.out) | refine bS ?_ GE288.out | refine bS ?_ GE293.out) | exact HB.out)) hb); clear HO291; clear HI284; clear BK288; clear BK293; clear HB; have HO291 := n0_; have HO296 := n1_; have HI284 := n2_; have BK288 := n3_; have BK293 := n4_; have HB := n5_; clear n0_ n1_ n2_ n3_ n4_ n5_; (try clear hb); (try clear hb2); (try clear hk); (try clear hi); (try clear ho0)) | ((with_reducible refine gate_dst (N := 13) rfl ?_); refine box_event ?hg (N := 13) ?hd (cs := #[.slice none 0 0]) (t := 24) ?hr ?_; (case hd => rfl); (case hg => rfl); (case hr => first | (go_simp; done) | (go_simp; rfl)); intro gb298 hg w27 hbox hb; have n0_ := Am (Kd.R_below (by (with_reducible repeat (first | apply Kd.R_alloc | apply Kd.R_drewN | apply Kd.R_drew)); exact HO291.out) hb); have n1_ := Am (Kd.R_below (by (with_reducible repeat (first | apply Kd.R_alloc | apply Kd.R_drewN | apply Kd.R_drew)); exact HO296.out) hb); have n2_ := Am (IsS63.below (by repeat (first | (with_reducible first | exact HI284.out | apply IsS63.alloc | apply IsS63.drewN | apply IsS63.drew | refine IsS63.far ?_ NB284_288.out _ | refine IsS63.far ?_ NB284_293.out _) | exact HI284.out)) hb); have n3_ := Am (blk_below (g := gb288) (o := .cells #[.int .i64 t285, .int .i64 t286] 27 (0, 0)) (by (with_reducible repeat (first | apply kN | apply kD | apply kA)); exact BK288.out) hb); have n4_ := Am (blk_below (g := gb293) (o := .cells #[.slice Ao21 t289.length co21] 24 (0, 0)) (by (with_reducible repeat (first | apply kN | apply kD | apply kA)); exact BK293.out) hb); have n5_ := Am (below_step (by repeat (first | (with_reducible first | exact HB.out | apply bA | apply bN | apply bD | refine bS ?_ (IsS63.ge HI284.out) | refine bS ?_ GE288.out | refine bS ?_ GE293.out) | exact HB.out)) hb); have n6_ := Am (hbox); have n7_ := Am ((by rw [hg]; exact (below_size (by repeat (first | (with_reducible first | exact HB.out | apply bA | apply bN | apply bD | refine bS ?_ (IsS63.ge HI284.out) | refine bS ?_ GE288.out | refine bS ?_ GE293.out) | exact HB.out))) : w.heap.size ≤ gb298)); have n8_ := Am ((by rw [hg]; exact (below_size (by repeat (first | (with_reducible first | exact HB.out | apply bA | apply bN | apply bD | refine bS ?_ (IsS63.ge HI284.out) | refine bS ?_ GE288.out | refine bS ?_ GE293.out) | exact HB.out))) : w.heap.size ≤ gb298)); have n9_ := Am ((by rw [hg]; exact Nat.ne_of_lt (blk_lt (g := gb288) (o := .cells #[.int .i64 t285, .int .i64 t286] 27 (0, 0)) (by (with_reducible repeat (first | apply kN | apply kD | apply kA)); exact BK288.out)) : gb288 ≠ gb298)); have n10_ := Am ((by rw [hg]; exact Nat.ne_of_gt (blk_lt (g := gb288) (o := .cells #[.int .i64 t285, .int .i64 t286] 27 (0, 0)) (by (with_reducible repeat (first | apply kN | apply kD | apply kA)); exact BK288.out)) : gb298 ≠ gb288)); have n11_ := Am ((by rw [hg]; exact Nat.ne_of_lt (blk_lt (g := gb293) (o := .cells #[.slice Ao21 t289.length co21] 24 (0, 0)) (by (with_reducible repeat (first | apply kN | apply kD | apply kA)); exact BK293.out)) : gb293 ≠ gb298)); have n12_ := Am ((by rw [hg]; exact Nat.ne_of_gt (blk_lt (g := gb293) (o := .cells #[.slice Ao21 t289.length co21] 24 (0, 0)) (by (with_reducible repeat (first | apply kN | apply kD | apply kA)); exact BK293.out)) : gb298 ≠ gb293)); have n13_ := Am ((by rw [hg]; exact Nat.ne_of_lt (IsS63.lt (show IsS63 w _ g284 t287 from by repeat (first | (with_reducible first | exact HI284.out | apply IsS63.alloc | apply IsS63.drewN | apply IsS63.drew | refine IsS63.far ?_ NB284_288.out _ | refine IsS63.far ?_ NB284_293.out _) | exact HI284.out))) : g284 ≠ gb298)); have n14_ := Am ((by rw [hg]; exact Nat.ne_of_gt (IsS63.lt (show IsS63 w _ g284 t287 from by repeat (first | (with_reducible first | exact HI284.out | apply IsS63.alloc | apply IsS63.drewN | apply IsS63.drew | refine IsS63.far ?_ NB284_288.out _ | refine IsS63.far ?_ NB284_293.out _) | exact HI284.out))) : gb298 ≠ g284)); clear HO291; clear HO296; clear HI284; clear BK288; clear BK293; clear HB; have HO291 := n0_; have HO296 := n1_; have HI284 := n2_; have BK288 := n3_; have BK293 := n4_; have HB := n5_; have BK298 := n6_; have GW298 := n7_; have GE298 := n8_; have NB288_298 := n9_; have NB298_288 := n10_; have NB293_298 := n11_; have NB298_293 := n12_; have NB284_298 := n13_; have NB298_284 := n14_; clear n0_ n1_ n2_ n3_ n4_ n5_ n6_ n7_ n8_ n9_ n10_ n11_ n12_ n13_ n14_; clear hb hbox hg; obtain ⟨Ao28, co28, eo28⟩ := Kd.R_slice HO296.out; subst eo28; have hnb29 := NB298_288.out; have hnc29 := NB288_298.out; have hnb30 := NB298_293.out; have hnc30 := NB293_298.out; have hnb31 := NB298_284.out; have hnc31 := NB284_298.out; have hcz32_0 : w27.cell? ⟨gb298, 0, none⟩ = some (.slice none 0 0) := (blk_cell BK298.out 0).trans rfl; have hfz32_0 := blk_frozen BK298.out 0))
  have n0_ : Aside0 (Kd.R k61 61 (w27.setCell ⟨gb298, 0, none⟩ (.slice Ao28 t294.length co28)) w.heap.size (fun k_ => some k_ ≠ (.slice Ao28 t294.length co28 : Value).ownBlock) (.slice Ao21 t289.length co21) t289) := ⟨by (with_reducible repeat (first | apply Kd.R_alloc | apply Kd.R_drewN | apply Kd.R_drew)); exact Kd.R_mono (Kd.R_far (p := ⟨gb298, 0, none⟩) (Kd.R_types HO291.out BK298.out (by decide)) (fun _ hk => hk.2) (.slice Ao28 t294.length co28)) (fun _ hk => hk.1.2)⟩
  have n1_ : Aside0 (Kd.R k61 61 (w27.setCell ⟨gb298, 0, none⟩ (.slice Ao28 t294.length co28)) w.heap.size (fun k_ => some k_ ≠ (.slice Ao21 t289.length co21 : Value).ownBlock) (.slice Ao28 t294.length co28) t294) := ⟨by (with_reducible repeat (first | apply Kd.R_alloc | apply Kd.R_drewN | apply Kd.R_drew)); exact Kd.R_mono (Kd.R_far (p := ⟨gb298, 0, none⟩) (Kd.R_types HO296.out BK298.out (by decide)) (fun _ hk => hk.2) (.slice Ao28 t294.length co28)) (fun _ hk => hk.1.2)⟩
  have n2_ : Aside0 ((w27.setCell ⟨gb298, 0, none⟩ (.slice Ao28 t294.length co28)).heap[gb288]? = some (.cells #[.int .i64 t285, .int .i64 t286] 27 (0, 0))) := ⟨by (with_reducible repeat (first | apply kN | apply kD | apply kA)); refine blk_far ?_ NB288_298.out _; (with_reducible repeat (first | apply kN | apply kD | apply kA)); exact BK288.out⟩
  have n3_ : Aside0 ((w27.setCell ⟨gb298, 0, none⟩ (.slice Ao28 t294.length co28)).heap[gb293]? = some (.cells #[.slice Ao21 t289.length co21] 24 (0, 0))) := ⟨by (with_reducible repeat (first | apply kN | apply kD | apply kA)); refine blk_far ?_ NB293_298.out _; (with_reducible repeat (first | apply kN | apply kD | apply kA)); exact BK293.out⟩
  have n4_ : Aside0 ((w27.setCell ⟨gb298, 0, none⟩ (.slice Ao28 t294.length co28)).heap[gb298]? = some (.cells #[.slice Ao28 t294.length co28] 24 (0, 0))) := ⟨by (with_reducible repeat (first | apply kN | apply kD | apply kA)); refine blk_put (cs := #[.slice none 0 0]) ?_ 0 _ rfl; (with_reducible repeat (first | apply kN | apply kD | apply kA)); exact BK298.out⟩
  have n5_ : Aside0 (IsS63 w (w27.setCell ⟨gb298, 0, none⟩ (.slice Ao28 t294.length co28)) g284 t287) := ⟨by repeat (first | (with_reducible first | exact HI284.out | apply IsS63.alloc | apply IsS63.drewN | apply IsS63.drew | refine IsS63.far ?_ NB284_288.out _ | refine IsS63.far ?_ NB284_293.out _ | refine IsS63.far ?_ NB284_298.out _) | exact HI284.out)⟩
  have n6_ : Aside0 (Below w.heap.size w (w27.setCell ⟨gb298, 0, none⟩ (.slice Ao28 t294.length co28))) := ⟨by repeat (first | (with_reducible first | exact HB.out | apply bA | apply bN | apply bD | refine bS ?_ (IsS63.ge HI284.out) | refine bS ?_ GE288.out | refine bS ?_ GE293.out | refine bS ?_ GE298.out) | exact HB.out)⟩
  (try clear HO291)
  (try clear HO296)
  (try clear BK288)
  (try clear BK293)
  (try clear BK298)
  (try clear HI284)
  (try clear HB)
  generalize (w27.setCell ⟨gb298, 0, none⟩ (.slice Ao28 t294.length co28)) = w33 at n0_ n1_ n2_ n3_ n4_ n5_ n6_ ⊢
  have HO291 := n0_
  have HO296 := n1_
  have BK288 := n2_
  have BK293 := n3_
  have BK298 := n4_
  have HI284 := n5_
  have HB := n6_
  clear n0_ n1_ n2_ n3_ n4_ n5_ n6_
  have n0_ := Am (Kd.R_drew HO291.out)
  have n1_ := Am (Kd.R_drew HO296.out)
  have n2_ := Am (kD BK288.out)
  have n3_ := Am (kD BK293.out)
  have n4_ := Am (kD BK298.out)
  have n5_ := Am (IsS63.drew HI284.out)
  have n6_ := Am (bD HB.out)
  clear HO291
  clear HO296
  clear BK288
  clear BK293
  clear BK298
  clear HI284
  clear HB
  have HO291 := n0_
  have HO296 := n1_
  have BK288 := n2_
  have BK293 := n3_
  have BK298 := n4_
  have HI284 := n5_
  have HB := n6_
  clear n0_ n1_ n2_ n3_ n4_ n5_ n6_
  refine start_ (n := 11) (S := fun w' => w'.cell? ⟨gb293, 0, none⟩ = some (.slice Ao21 t289.length co21)) (ds := []) soundservicelaw13_ClockChanges.q0 (by kernel_rfl) rfl rfl ((blk_cell BK293.out 0).trans rfl) (fun hHeld => ?_); refine with_tabW soundservicelaw13_ClockChanges.tab8 soundservicelaw13_ClockChanges.bits8 (fun HT_ HW_ => ?_)
  generalize w33.drew = w34 at HO291 HO296 BK288 BK293 BK298 HI284 HB hHeld ⊢
  refine pure_ (i := 1) (N := some 57) (v := ?_) (a' := ?_) soundservicelaw13_ClockChanges.q1 rfl rfl (any_of HT_.out (by kernel_rfl)) (fun _ _ _ h => h) (Or.inl ⟨by rfl, ?_⟩) ?_ ?_
  rotate_left
  ·intro w'
   go_simp
   with_reducible rfl
  rotate_left
  ·simp only [pL, i64_w, i32_w]
   rfl
  refine pure_ (i := 2) (N := some 58) (v := ?_) (a' := ?_) soundservicelaw13_ClockChanges.q2 rfl rfl (any_of HT_.out (by kernel_rfl)) (fun _ _ _ h => h) (Or.inl ⟨by rfl, ?_⟩) ?_ ?_
  rotate_left
  ·intro w'
   go_simp
   with_reducible rfl
  rotate_left
  ·simp only [pL, i64_w, i32_w]
   rfl
  refine take_ (i := 0) (N := some 56) (v := ?_) (a' := ?_) soundservicelaw13_ClockChanges.q3 rfl rfl (take_ofW HT_.out HW_.out (by kernel_rfl)) (fun _ _ _ h => h) (Or.inl ⟨by rfl, ?_⟩) hHeld ?_ ?_
  rotate_left
  ·intro w' s0
   go_simp
   with_reducible rfl
  rotate_left
  ·simp only [pL, i64_w, i32_w]
   rfl
  refine join_ (σ := Value × Nat) 2 soundservicelaw13_ClockChanges.q4 (fun s_ => [(59, .agg #[.int .i64 t299, .int .i64 t300]), (60, .tuple #[.agg #[s_.1], .int .i64 t305]), (15, .pointer (some ⟨s_.2, 0, none⟩)), (55, .tuple #[.agg #[s_.1], .int .i64 t305]), (61, .agg #[s_.1]), (62, .int .i64 t305)]) (fun s_ w' => (w'.cell? ⟨gb293, 0, none⟩ = some (.slice Ao21 t289.length co21)) ∧ (Kd.R k61 61 w' w.heap.size (fun k_ => some k_ ≠ (.slice Ao28 t294.length co28 : Value).ownBlock ∧ some k_ ≠ (s_.1 : Value).ownBlock) (.slice Ao21 t289.length co21) t289) ∧ (Kd.R k61 61 w' w.heap.size (fun k_ => some k_ ≠ (.slice Ao21 t289.length co21 : Value).ownBlock ∧ some k_ ≠ (s_.1 : Value).ownBlock) (.slice Ao28 t294.length co28) t294) ∧ (Kd.R k61 61 w' w.heap.size (fun k_ => some k_ ≠ (.slice Ao21 t289.length co21 : Value).ownBlock ∧ some k_ ≠ (.slice Ao28 t294.length co28 : Value).ownBlock) s_.1 t302) ∧ (w'.heap[gb288]? = some (.cells #[.int .i64 t285, .int .i64 t286] 27 (0, 0))) ∧ (w'.heap[gb293]? = some (.cells #[.slice Ao21 t289.length co21] 24 (0, 0))) ∧ (w'.heap[gb298]? = some (.cells #[.slice Ao28 t294.length co28] 24 (0, 0))) ∧ (w'.heap[s_.2]? = some (.cells #[.slice none 0 0] 24 (0, 0))) ∧ (w.heap.size ≤ s_.2) ∧ (w.heap.size ≤ s_.2) ∧ (g284 ≠ s_.2) ∧ (s_.2 ≠ g284) ∧ (gb288 ≠ s_.2) ∧ (s_.2 ≠ gb288) ∧ (gb293 ≠ s_.2) ∧ (s_.2 ≠ gb293) ∧ (gb298 ≠ s_.2) ∧ (s_.2 ≠ gb298) ∧ (IsS63 w w' g284 t301) ∧ (Below w.heap.size w w')) ?_ ?_
  rotate_left
  ·intro hCont
   refine two_ (i := 3) (j := 8) (Ni := some 59) (Nj := some 15) soundservicelaw13_ClockChanges.q5 soundservicelaw13_ClockChanges.q6 rfl rfl rfl rfl (two_of HT_.out (by kernel_rfl)) (by decide) (by decide) (fun K hK => ?_) (fun K hK => ?_)
   ·skip
    refine goes_ Try.func20 (by kernel_rfl) rfl #[.pointer (some ⟨g284, 0, none⟩)] (by rfl) rfl rfl (by (try simp only [List.map_toArray, List.map_cons, List.map_nil]); first | done | rfl | (simp only [List.length_drop, List.length_take]; rfl)) ?_
    with_reducible refine (soundservicemade_Rate.calls g284 t287 t299 t300 t301 w _ ?side1 ?side2 A10.out).mono ?_
    (case side1 => repeat (first | (with_reducible first | exact HI284.out | apply IsS63.alloc | apply IsS63.drewN | apply IsS63.drew | refine IsS63.far ?_ NB284_288.out _ | refine IsS63.far ?_ NB284_293.out _ | refine IsS63.far ?_ NB284_298.out _) | exact HI284.out))
    (case side2 => repeat (first | (with_reducible first | exact HB.out | apply bA | apply bN | apply bD | refine bS ?_ (IsS63.ge HI284.out) | refine bS ?_ GE288.out | refine bS ?_ GE293.out | refine bS ?_ GE298.out) | exact HB.out))
    rintro e w35 ⟨rfl, hi, hb, hk⟩
    refine ⟨_, rfl, ?_⟩
    have n0_ := Am (KeepBut.blk hk (g' := gb288) (o := .cells #[.int .i64 t285, .int .i64 t286] 27 (0, 0)) (by (with_reducible repeat (first | apply kN | apply kD | apply kA)); exact BK288.out) NB288_284.out (by simp))
    have n1_ := Am (Kd.R_mono (Kd.R_keep (IsS63.apart (show IsS63 w _ g284 t287 from by repeat (first | (with_reducible first | exact HI284.out | apply IsS63.alloc | apply IsS63.drewN | apply IsS63.drew | refine IsS63.far ?_ NB284_288.out _ | refine IsS63.far ?_ NB284_293.out _ | refine IsS63.far ?_ NB284_298.out _) | exact HI284.out)) (by (with_reducible repeat (first | apply Kd.R_alloc | apply Kd.R_drewN | apply Kd.R_drew)); exact HO291.out) (by decide)) hk (fun _ h => h.2)) (fun _ h => h.1))
    have n2_ := Am (KeepBut.blk hk (g' := gb293) (o := .cells #[.slice Ao21 t289.length co21] 24 (0, 0)) (by (with_reducible repeat (first | apply kN | apply kD | apply kA)); exact BK293.out) NB293_284.out (by simp))
    have n3_ := Am (Kd.R_mono (Kd.R_keep (IsS63.apart (show IsS63 w _ g284 t287 from by repeat (first | (with_reducible first | exact HI284.out | apply IsS63.alloc | apply IsS63.drewN | apply IsS63.drew | refine IsS63.far ?_ NB284_288.out _ | refine IsS63.far ?_ NB284_293.out _ | refine IsS63.far ?_ NB284_298.out _) | exact HI284.out)) (by (with_reducible repeat (first | apply Kd.R_alloc | apply Kd.R_drewN | apply Kd.R_drew)); exact HO296.out) (by decide)) hk (fun _ h => h.2)) (fun _ h => h.1))
    have n4_ := Am (KeepBut.blk hk (g' := gb298) (o := .cells #[.slice Ao28 t294.length co28] 24 (0, 0)) (by (with_reducible repeat (first | apply kN | apply kD | apply kA)); exact BK298.out) NB298_284.out (by simp))
    have n5_ := Am (hb)
    have n6_ := Am (hi)
    clear BK288
    clear HO291
    clear BK293
    clear HO296
    clear BK298
    clear HB
    clear HI284
    have BK288 := n0_
    have HO291 := n1_
    have BK293 := n2_
    have HO296 := n3_
    have BK298 := n4_
    have HB := n5_
    have HI284 := n6_
    clear n0_ n1_ n2_ n3_ n4_ n5_ n6_
    (try clear hb)
    (try clear hb2)
    (try clear hk)
    (try clear hi)
    refine hK.out _ _ ((blk_cell BK293.out 0).trans rfl) (fun hHeld => ?_)
    clear hK K
    refine norm_ (a' := ?_) ?_ ?_
    rotate_left
    ·show Act.put _ (some 59) _ = _
     simp only [pL, i64_w, i32_w]
     rfl
    refine two_ (i := 4) (j := 8) (Ni := some 60) (Nj := some 15) soundservicelaw13_ClockChanges.q7 soundservicelaw13_ClockChanges.q8 rfl rfl rfl rfl (two_of HT_.out (by kernel_rfl)) (by decide) (by decide) (fun K hK => ?_) (fun K hK => ?_)
    ·skip
     refine goes_ Try.func15 (by kernel_rfl) rfl #[.agg #[.slice Ao21 t289.length co21], .int .i64 (wrap64 (1 + (wrap64 (Int.tmod a1 500)))), .agg #[.int .i64 t299, .int .i64 t300]] (by rfl) rfl rfl (by (try simp only [List.map_toArray, List.map_cons, List.map_nil]); first | done | rfl | (simp only [List.length_drop, List.length_take]; rfl)) ?_
     with_reducible refine (clock_Change.calls k _ _ t289 (wrap64 (1 + (wrap64 (Int.tmod a1 500)))) t299 t300 t302 t305 _ ?side1 ?side2 A11.out).mono ?_
     (case side1 => repeat (first | exact (Kd.R_reads' HO291.out).2.2 | (with_reducible refine Kd.C_alloc ?_ _) | (with_reducible refine Kd.C_drewN ?_ _) | (with_reducible refine Kd.C_drew ?_)))
     (case side2 => exact (Kd.R_reads' HO291.out).2.1)
     rintro e w36 ⟨v303, rfl, ho0, hb⟩
     refine ⟨_, rfl, ?_⟩
     have n0_ := Am (Kd.R_elder' (by (with_reducible repeat (first | apply Kd.R_alloc | apply Kd.R_drewN | apply Kd.R_drew)); exact HO291.out) (Kd.R_base ho0) hb)
     have n1_ := Am (Kd.R_elder' (by (with_reducible repeat (first | apply Kd.R_alloc | apply Kd.R_drewN | apply Kd.R_drew)); exact HO296.out) (Kd.R_base ho0) hb)
     have n2_ := Am (Kd.R_lower (Kd.R_new' (Kd.R_new' ho0 (Kd.R_lt (by (with_reducible repeat (first | apply Kd.R_alloc | apply Kd.R_drewN | apply Kd.R_drew)); exact HO291.out))) (Kd.R_lt (by (with_reducible repeat (first | apply Kd.R_alloc | apply Kd.R_drewN | apply Kd.R_drew)); exact HO296.out))) (below_size (by repeat (first | (with_reducible first | exact HB.out | apply bA | apply bN | apply bD | refine bS ?_ (IsS63.ge HI284.out) | refine bS ?_ GE288.out | refine bS ?_ GE293.out | refine bS ?_ GE298.out) | exact HB.out))))
     have n3_ := Am (IsS63.below (by repeat (first | (with_reducible first | exact HI284.out | apply IsS63.alloc | apply IsS63.drewN | apply IsS63.drew | refine IsS63.far ?_ NB284_288.out _ | refine IsS63.far ?_ NB284_293.out _ | refine IsS63.far ?_ NB284_298.out _) | exact HI284.out)) hb)
     have n4_ := Am (blk_below (g := gb288) (o := .cells #[.int .i64 t285, .int .i64 t286] 27 (0, 0)) (by (with_reducible repeat (first | apply kN | apply kD | apply kA)); exact BK288.out) hb)
     have n5_ := Am (blk_below (g := gb293) (o := .cells #[.slice Ao21 t289.length co21] 24 (0, 0)) (by (with_reducible repeat (first | apply kN | apply kD | apply kA)); exact BK293.out) hb)
     have n6_ := Am (blk_below (g := gb298) (o := .cells #[.slice Ao28 t294.length co28] 24 (0, 0)) (by (with_reducible repeat (first | apply kN | apply kD | apply kA)); exact BK298.out) hb)
     have n7_ := Am (below_step (by repeat (first | (with_reducible first | exact HB.out | apply bA | apply bN | apply bD | refine bS ?_ (IsS63.ge HI284.out) | refine bS ?_ GE288.out | refine bS ?_ GE293.out | refine bS ?_ GE298.out) | exact HB.out)) hb)
     clear HO291
     clear HO296
     clear HI284
     clear BK288
     clear BK293
     clear BK298
     clear HB
     have HO291 := n0_
     have HO296 := n1_
     have HO304 := n2_
     have HI284 := n3_
     have BK288 := n4_
     have BK293 := n5_
     have BK298 := n6_
     have HB := n7_
     clear n0_ n1_ n2_ n3_ n4_ n5_ n6_ n7_
     (try clear hb)
     (try clear hb2)
     (try clear hk)
     (try clear hi)
     (try clear ho0)
     refine hK.out _ _ ((blk_cell BK293.out 0).trans rfl) (fun hHeld => ?_)
     clear hK K
     refine norm_ (a' := ?_) ?_ ?_
     rotate_left
     ·show Act.put _ (some 60) _ = _
      simp only [pL, i64_w, i32_w]
      rfl
     refine pure_ (i := 5) (N := some 55) (v := ?_) (a' := ?_) soundservicelaw13_ClockChanges.q9 rfl rfl (any_of HT_.out (by kernel_rfl)) (fun _ _ _ h => h) (Or.inl ⟨by rfl, ?_⟩) ?_ ?_
     rotate_left
     ·intro w'
      go_simp
      with_reducible rfl
     rotate_left
     ·simp only [pL, i64_w, i32_w]
      rfl
     refine pure_ (i := 6) (N := some 61) (v := ?_) (a' := ?_) soundservicelaw13_ClockChanges.q10 rfl rfl (any_of HT_.out (by kernel_rfl)) (fun _ _ _ h => h) (Or.inl ⟨by rfl, ?_⟩) ?_ ?_
     rotate_left
     ·intro w'
      go_simp
      with_reducible rfl
     rotate_left
     ·simp only [pL, i64_w, i32_w]
      rfl
     refine pure_ (i := 7) (N := some 62) (v := ?_) (a' := ?_) soundservicelaw13_ClockChanges.q11 rfl rfl (any_of HT_.out (by kernel_rfl)) (fun _ _ _ h => h) (Or.inl ⟨by rfl, ?_⟩) ?_ ?_
     rotate_left
     ·intro w'
      go_simp
      with_reducible rfl
     rotate_left
     ·simp only [pL, i64_w, i32_w]
      rfl
     refine one_ (i := 8) (N := some 15) soundservicelaw13_ClockChanges.q4 rfl rfl (one_of HT_.out (by kernel_rfl)) (by decide) (fun K hK => ?_)
     refine box_step ?hg (N := 15) ?hd (cs := #[.slice none 0 0]) (t := 24) ?hr ?_; (case hd => rfl); (case hg => rfl); (case hr => first | (go_simp; done) | (go_simp; rfl))
     intro gb306 hg w37 hbox hb
     have n0_ := Am (Kd.R_below (by (with_reducible repeat (first | apply Kd.R_alloc | apply Kd.R_drewN | apply Kd.R_drew)); exact HO291.out) hb)
     have n1_ := Am (Kd.R_below (by (with_reducible repeat (first | apply Kd.R_alloc | apply Kd.R_drewN | apply Kd.R_drew)); exact HO296.out) hb)
     have n2_ := Am (Kd.R_below (by (with_reducible repeat (first | apply Kd.R_alloc | apply Kd.R_drewN | apply Kd.R_drew)); exact HO304.out) hb)
     have n3_ := Am (IsS63.below (by repeat (first | (with_reducible first | exact HI284.out | apply IsS63.alloc | apply IsS63.drewN | apply IsS63.drew | refine IsS63.far ?_ NB284_288.out _ | refine IsS63.far ?_ NB284_293.out _ | refine IsS63.far ?_ NB284_298.out _) | exact HI284.out)) hb)
     have n4_ := Am (blk_below (g := gb288) (o := .cells #[.int .i64 t285, .int .i64 t286] 27 (0, 0)) (by (with_reducible repeat (first | apply kN | apply kD | apply kA)); exact BK288.out) hb)
     have n5_ := Am (blk_below (g := gb293) (o := .cells #[.slice Ao21 t289.length co21] 24 (0, 0)) (by (with_reducible repeat (first | apply kN | apply kD | apply kA)); exact BK293.out) hb)
     have n6_ := Am (blk_below (g := gb298) (o := .cells #[.slice Ao28 t294.length co28] 24 (0, 0)) (by (with_reducible repeat (first | apply kN | apply kD | apply kA)); exact BK298.out) hb)
     have n7_ := Am (below_step (by repeat (first | (with_reducible first | exact HB.out | apply bA | apply bN | apply bD | refine bS ?_ (IsS63.ge HI284.out) | refine bS ?_ GE288.out | refine bS ?_ GE293.out | refine bS ?_ GE298.out) | exact HB.out)) hb)
     have n8_ := Am (hbox)
     have n9_ := Am ((by rw [hg]; exact (below_size (by repeat (first | (with_reducible first | exact HB.out | apply bA | apply bN | apply bD | refine bS ?_ (IsS63.ge HI284.out) | refine bS ?_ GE288.out | refine bS ?_ GE293.out | refine bS ?_ GE298.out) | exact HB.out))) : w.heap.size ≤ gb306))
     have n10_ := Am ((by rw [hg]; exact (below_size (by repeat (first | (with_reducible first | exact HB.out | apply bA | apply bN | apply bD | refine bS ?_ (IsS63.ge HI284.out) | refine bS ?_ GE288.out | refine bS ?_ GE293.out | refine bS ?_ GE298.out) | exact HB.out))) : w.heap.size ≤ gb306))
     have n11_ := Am ((by rw [hg]; exact Nat.ne_of_lt (blk_lt (g := gb288) (o := .cells #[.int .i64 t285, .int .i64 t286] 27 (0, 0)) (by (with_reducible repeat (first | apply kN | apply kD | apply kA)); exact BK288.out)) : gb288 ≠ gb306))
     have n12_ := Am ((by rw [hg]; exact Nat.ne_of_gt (blk_lt (g := gb288) (o := .cells #[.int .i64 t285, .int .i64 t286] 27 (0, 0)) (by (with_reducible repeat (first | apply kN | apply kD | apply kA)); exact BK288.out)) : gb306 ≠ gb288))
     have n13_ := Am ((by rw [hg]; exact Nat.ne_of_lt (blk_lt (g := gb293) (o := .cells #[.slice Ao21 t289.length co21] 24 (0, 0)) (by (with_reducible repeat (first | apply kN | apply kD | apply kA)); exact BK293.out)) : gb293 ≠ gb306))
     have n14_ := Am ((by rw [hg]; exact Nat.ne_of_gt (blk_lt (g := gb293) (o := .cells #[.slice Ao21 t289.length co21] 24 (0, 0)) (by (with_reducible repeat (first | apply kN | apply kD | apply kA)); exact BK293.out)) : gb306 ≠ gb293))
     have n15_ := Am ((by rw [hg]; exact Nat.ne_of_lt (blk_lt (g := gb298) (o := .cells #[.slice Ao28 t294.length co28] 24 (0, 0)) (by (with_reducible repeat (first | apply kN | apply kD | apply kA)); exact BK298.out)) : gb298 ≠ gb306))
     have n16_ := Am ((by rw [hg]; exact Nat.ne_of_gt (blk_lt (g := gb298) (o := .cells #[.slice Ao28 t294.length co28] 24 (0, 0)) (by (with_reducible repeat (first | apply kN | apply kD | apply kA)); exact BK298.out)) : gb306 ≠ gb298))
     have n17_ := Am ((by rw [hg]; exact Nat.ne_of_lt (IsS63.lt (show IsS63 w _ g284 t301 from by repeat (first | (with_reducible first | exact HI284.out | apply IsS63.alloc | apply IsS63.drewN | apply IsS63.drew | refine IsS63.far ?_ NB284_288.out _ | refine IsS63.far ?_ NB284_293.out _ | refine IsS63.far ?_ NB284_298.out _) | exact HI284.out))) : g284 ≠ gb306))
     have n18_ := Am ((by rw [hg]; exact Nat.ne_of_gt (IsS63.lt (show IsS63 w _ g284 t301 from by repeat (first | (with_reducible first | exact HI284.out | apply IsS63.alloc | apply IsS63.drewN | apply IsS63.drew | refine IsS63.far ?_ NB284_288.out _ | refine IsS63.far ?_ NB284_293.out _ | refine IsS63.far ?_ NB284_298.out _) | exact HI284.out))) : gb306 ≠ g284))
     clear HO291
     clear HO296
     clear HO304
     clear HI284
     clear BK288
     clear BK293
     clear BK298
     clear HB
     have HO291 := n0_
     have HO296 := n1_
     have HO304 := n2_
     have HI284 := n3_
     have BK288 := n4_
     have BK293 := n5_
     have BK298 := n6_
     have HB := n7_
     have BK306 := n8_
     have GW306 := n9_
     have GE306 := n10_
     have NB288_306 := n11_
     have NB306_288 := n12_
     have NB293_306 := n13_
     have NB306_293 := n14_
     have NB298_306 := n15_
     have NB306_298 := n16_
     have NB284_306 := n17_
     have NB306_284 := n18_
     clear n0_ n1_ n2_ n3_ n4_ n5_ n6_ n7_ n8_ n9_ n10_ n11_ n12_ n13_ n14_ n15_ n16_ n17_ n18_
     clear hb hbox hg
     refine hK.out _ _ ((blk_cell BK293.out 0).trans rfl) (fun hHeld => ?_)
     clear hK K
     refine norm_ (a' := ?_) ?_ ?_
     rotate_left
     ·show Act.put _ (some 15) _ = _
      simp only [pL, i64_w, i32_w]
      rfl
     exact norm_ (by simp only [putAll, pL]) (hCont (v303, gb306) _ ⟨hHeld, (by (with_reducible repeat (first | apply Kd.R_alloc | apply Kd.R_drewN | apply Kd.R_drew)); exact HO291.out), (by (with_reducible repeat (first | apply Kd.R_alloc | apply Kd.R_drewN | apply Kd.R_drew)); exact HO296.out), (by (with_reducible repeat (first | apply Kd.R_alloc | apply Kd.R_drewN | apply Kd.R_drew)); exact Kd.R_mono HO304.out (fun _ hk => ⟨hk.1.2, hk.2⟩)), (by (with_reducible repeat (first | apply kN | apply kD | apply kA)); exact BK288.out), (by (with_reducible repeat (first | apply kN | apply kD | apply kA)); exact BK293.out), (by (with_reducible repeat (first | apply kN | apply kD | apply kA)); exact BK298.out), (by (with_reducible repeat (first | apply kN | apply kD | apply kA)); exact BK306.out), GW306.out, GE306.out, NB284_306.out, NB306_284.out, NB288_306.out, NB306_288.out, NB293_306.out, NB306_293.out, NB298_306.out, NB306_298.out, (by repeat (first | (with_reducible first | exact HI284.out | apply IsS63.alloc | apply IsS63.drewN | apply IsS63.drew | refine IsS63.far ?_ NB284_288.out _ | refine IsS63.far ?_ NB284_293.out _ | refine IsS63.far ?_ NB284_298.out _ | refine IsS63.far ?_ NB284_306.out _) | exact HI284.out)), (by repeat (first | (with_reducible first | exact HB.out | apply bA | apply bN | apply bD | refine bS ?_ (IsS63.ge HI284.out) | refine bS ?_ GE288.out | refine bS ?_ GE293.out | refine bS ?_ GE298.out | refine bS ?_ GE306.out) | exact HB.out))⟩)
    ·skip
     refine box_step ?hg (N := 15) ?hd (cs := #[.slice none 0 0]) (t := 24) ?hr ?_; (case hd => rfl); (case hg => rfl); (case hr => first | (go_simp; done) | (go_simp; rfl))
     intro gb306 hg w36 hbox hb
     have n0_ := Am (Kd.R_below (by (with_reducible repeat (first | apply Kd.R_alloc | apply Kd.R_drewN | apply Kd.R_drew)); exact HO291.out) hb)
     have n1_ := Am (Kd.R_below (by (with_reducible repeat (first | apply Kd.R_alloc | apply Kd.R_drewN | apply Kd.R_drew)); exact HO296.out) hb)
     have n2_ := Am (IsS63.below (by repeat (first | (with_reducible first | exact HI284.out | apply IsS63.alloc | apply IsS63.drewN | apply IsS63.drew | refine IsS63.far ?_ NB284_288.out _ | refine IsS63.far ?_ NB284_293.out _ | refine IsS63.far ?_ NB284_298.out _) | exact HI284.out)) hb)
     have n3_ := Am (blk_below (g := gb288) (o := .cells #[.int .i64 t285, .int .i64 t286] 27 (0, 0)) (by (with_reducible repeat (first | apply kN | apply kD | apply kA)); exact BK288.out) hb)
     have n4_ := Am (blk_below (g := gb293) (o := .cells #[.slice Ao21 t289.length co21] 24 (0, 0)) (by (with_reducible repeat (first | apply kN | apply kD | apply kA)); exact BK293.out) hb)
     have n5_ := Am (blk_below (g := gb298) (o := .cells #[.slice Ao28 t294.length co28] 24 (0, 0)) (by (with_reducible repeat (first | apply kN | apply kD | apply kA)); exact BK298.out) hb)
     have n6_ := Am (below_step (by repeat (first | (with_reducible first | exact HB.out | apply bA | apply bN | apply bD | refine bS ?_ (IsS63.ge HI284.out) | refine bS ?_ GE288.out | refine bS ?_ GE293.out | refine bS ?_ GE298.out) | exact HB.out)) hb)
     have n7_ := Am (hbox)
     have n8_ := Am ((by rw [hg]; exact (below_size (by repeat (first | (with_reducible first | exact HB.out | apply bA | apply bN | apply bD | refine bS ?_ (IsS63.ge HI284.out) | refine bS ?_ GE288.out | refine bS ?_ GE293.out | refine bS ?_ GE298.out) | exact HB.out))) : w.heap.size ≤ gb306))
     have n9_ := Am ((by rw [hg]; exact (below_size (by repeat (first | (with_reducible first | exact HB.out | apply bA | apply bN | apply bD | refine bS ?_ (IsS63.ge HI284.out) | refine bS ?_ GE288.out | refine bS ?_ GE293.out | refine bS ?_ GE298.out) | exact HB.out))) : w.heap.size ≤ gb306))
     have n10_ := Am ((by rw [hg]; exact Nat.ne_of_lt (blk_lt (g := gb288) (o := .cells #[.int .i64 t285, .int .i64 t286] 27 (0, 0)) (by (with_reducible repeat (first | apply kN | apply kD | apply kA)); exact BK288.out)) : gb288 ≠ gb306))
     have n11_ := Am ((by rw [hg]; exact Nat.ne_of_gt (blk_lt (g := gb288) (o := .cells #[.int .i64 t285, .int .i64 t286] 27 (0, 0)) (by (with_reducible repeat (first | apply kN | apply kD | apply kA)); exact BK288.out)) : gb306 ≠ gb288))
     have n12_ := Am ((by rw [hg]; exact Nat.ne_of_lt (blk_lt (g := gb293) (o := .cells #[.slice Ao21 t289.length co21] 24 (0, 0)) (by (with_reducible repeat (first | apply kN | apply kD | apply kA)); exact BK293.out)) : gb293 ≠ gb306))
     have n13_ := Am ((by rw [hg]; exact Nat.ne_of_gt (blk_lt (g := gb293) (o := .cells #[.slice Ao21 t289.length co21] 24 (0, 0)) (by (with_reducible repeat (first | apply kN | apply kD | apply kA)); exact BK293.out)) : gb306 ≠ gb293))
     have n14_ := Am ((by rw [hg]; exact Nat.ne_of_lt (blk_lt (g := gb298) (o := .cells #[.slice Ao28 t294.length co28] 24 (0, 0)) (by (with_reducible repeat (first | apply kN | apply kD | apply kA)); exact BK298.out)) : gb298 ≠ gb306))
     have n15_ := Am ((by rw [hg]; exact Nat.ne_of_gt (blk_lt (g := gb298) (o := .cells #[.slice Ao28 t294.length co28] 24 (0, 0)) (by (with_reducible repeat (first | apply kN | apply kD | apply kA)); exact BK298.out)) : gb306 ≠ gb298))
     have n16_ := Am ((by rw [hg]; exact Nat.ne_of_lt (IsS63.lt (show IsS63 w _ g284 t301 from by repeat (first | (with_reducible first | exact HI284.out | apply IsS63.alloc | apply IsS63.drewN | apply IsS63.drew | refine IsS63.far ?_ NB284_288.out _ | refine IsS63.far ?_ NB284_293.out _ | refine IsS63.far ?_ NB284_298.out _) | exact HI284.out))) : g284 ≠ gb306))
     have n17_ := Am ((by rw [hg]; exact Nat.ne_of_gt (IsS63.lt (show IsS63 w _ g284 t301 from by repeat (first | (with_reducible first | exact HI284.out | apply IsS63.alloc | apply IsS63.drewN | apply IsS63.drew | refine IsS63.far ?_ NB284_288.out _ | refine IsS63.far ?_ NB284_293.out _ | refine IsS63.far ?_ NB284_298.out _) | exact HI284.out))) : gb306 ≠ g284))
     clear HO291
     clear HO296
     clear HI284
     clear BK288
     clear BK293
     clear BK298
     clear HB
     have HO291 := n0_
     have HO296 := n1_
     have HI284 := n2_
     have BK288 := n3_
     have BK293 := n4_
     have BK298 := n5_
     have HB := n6_
     have BK306 := n7_
     have GW306 := n8_
     have GE306 := n9_
     have NB288_306 := n10_
     have NB306_288 := n11_
     have NB293_306 := n12_
     have NB306_293 := n13_
     have NB298_306 := n14_
     have NB306_298 := n15_
     have NB284_306 := n16_
     have NB306_284 := n17_
     clear n0_ n1_ n2_ n3_ n4_ n5_ n6_ n7_ n8_ n9_ n10_ n11_ n12_ n13_ n14_ n15_ n16_ n17_
     clear hb hbox hg
     refine hK.out _ _ ((blk_cell BK293.out 0).trans rfl) (fun hHeld => ?_)
     clear hK K
     refine norm_ (a' := ?_) ?_ ?_
     rotate_left
     ·show Act.put _ (some 15) _ = _
      simp only [pL, i64_w, i32_w]
      rfl
     refine one_ (i := 4) (N := some 60) soundservicelaw13_ClockChanges.q12 rfl rfl (one_of HT_.out (by kernel_rfl)) (by decide) (fun K hK => ?_)
     refine goes_ Try.func15 (by kernel_rfl) rfl #[.agg #[.slice Ao21 t289.length co21], .int .i64 (wrap64 (1 + (wrap64 (Int.tmod a1 500)))), .agg #[.int .i64 t299, .int .i64 t300]] (by rfl) rfl rfl (by (try simp only [List.map_toArray, List.map_cons, List.map_nil]); first | done | rfl | (simp only [List.length_drop, List.length_take]; rfl)) ?_
     with_reducible refine (clock_Change.calls k _ _ t289 (wrap64 (1 + (wrap64 (Int.tmod a1 500)))) t299 t300 t302 t305 _ ?side1 ?side2 A11.out).mono ?_
     (case side1 => repeat (first | exact (Kd.R_reads' HO291.out).2.2 | (with_reducible refine Kd.C_alloc ?_ _) | (with_reducible refine Kd.C_drewN ?_ _) | (with_reducible refine Kd.C_drew ?_)))
     (case side2 => exact (Kd.R_reads' HO291.out).2.1)
     rintro e w37 ⟨v303, rfl, ho0, hb⟩
     refine ⟨_, rfl, ?_⟩
     have n0_ := Am (Kd.R_elder' (by (with_reducible repeat (first | apply Kd.R_alloc | apply Kd.R_drewN | apply Kd.R_drew)); exact HO291.out) (Kd.R_base ho0) hb)
     have n1_ := Am (Kd.R_elder' (by (with_reducible repeat (first | apply Kd.R_alloc | apply Kd.R_drewN | apply Kd.R_drew)); exact HO296.out) (Kd.R_base ho0) hb)
     have n2_ := Am (Kd.R_lower (Kd.R_new' (Kd.R_new' ho0 (Kd.R_lt (by (with_reducible repeat (first | apply Kd.R_alloc | apply Kd.R_drewN | apply Kd.R_drew)); exact HO291.out))) (Kd.R_lt (by (with_reducible repeat (first | apply Kd.R_alloc | apply Kd.R_drewN | apply Kd.R_drew)); exact HO296.out))) (below_size (by repeat (first | (with_reducible first | exact HB.out | apply bA | apply bN | apply bD | refine bS ?_ (IsS63.ge HI284.out) | refine bS ?_ GE288.out | refine bS ?_ GE293.out | refine bS ?_ GE298.out | refine bS ?_ GE306.out) | exact HB.out))))
     have n3_ := Am (IsS63.below (by repeat (first | (with_reducible first | exact HI284.out | apply IsS63.alloc | apply IsS63.drewN | apply IsS63.drew | refine IsS63.far ?_ NB284_288.out _ | refine IsS63.far ?_ NB284_293.out _ | refine IsS63.far ?_ NB284_298.out _ | refine IsS63.far ?_ NB284_306.out _) | exact HI284.out)) hb)
     have n4_ := Am (blk_below (g := gb288) (o := .cells #[.int .i64 t285, .int .i64 t286] 27 (0, 0)) (by (with_reducible repeat (first | apply kN | apply kD | apply kA)); exact BK288.out) hb)
     have n5_ := Am (blk_below (g := gb293) (o := .cells #[.slice Ao21 t289.length co21] 24 (0, 0)) (by (with_reducible repeat (first | apply kN | apply kD | apply kA)); exact BK293.out) hb)
     have n6_ := Am (blk_below (g := gb298) (o := .cells #[.slice Ao28 t294.length co28] 24 (0, 0)) (by (with_reducible repeat (first | apply kN | apply kD | apply kA)); exact BK298.out) hb)
     have n7_ := Am (blk_below (g := gb306) (o := .cells #[.slice none 0 0] 24 (0, 0)) (by (with_reducible repeat (first | apply kN | apply kD | apply kA)); exact BK306.out) hb)
     have n8_ := Am (below_step (by repeat (first | (with_reducible first | exact HB.out | apply bA | apply bN | apply bD | refine bS ?_ (IsS63.ge HI284.out) | refine bS ?_ GE288.out | refine bS ?_ GE293.out | refine bS ?_ GE298.out | refine bS ?_ GE306.out) | exact HB.out)) hb)
     clear HO291
     clear HO296
     clear HI284
     clear BK288
     clear BK293
     clear BK298
     clear BK306
     clear HB
     have HO291 := n0_
     have HO296 := n1_
     have HO304 := n2_
     have HI284 := n3_
     have BK288 := n4_
     have BK293 := n5_
     have BK298 := n6_
     have BK306 := n7_
     have HB := n8_
     clear n0_ n1_ n2_ n3_ n4_ n5_ n6_ n7_ n8_
     (try clear hb)
     (try clear hb2)
     (try clear hk)
     (try clear hi)
     (try clear ho0)
     refine hK.out _ _ ((blk_cell BK293.out 0).trans rfl) (fun hHeld => ?_)
     clear hK K
     refine norm_ (a' := ?_) ?_ ?_
     rotate_left
     ·show Act.put _ (some 60) _ = _
      simp only [pL, i64_w, i32_w]
      rfl
     refine pure_ (i := 5) (N := some 55) (v := ?_) (a' := ?_) soundservicelaw13_ClockChanges.q13 rfl rfl (any_of HT_.out (by kernel_rfl)) (fun _ _ _ h => h) (Or.inl ⟨by rfl, ?_⟩) ?_ ?_
     rotate_left
     ·intro w'
      go_simp
      with_reducible rfl
     rotate_left
     ·simp only [pL, i64_w, i32_w]
      rfl
     refine pure_ (i := 6) (N := some 61) (v := ?_) (a' := ?_) soundservicelaw13_ClockChanges.q14 rfl rfl (any_of HT_.out (by kernel_rfl)) (fun _ _ _ h => h) (Or.inl ⟨by rfl, ?_⟩) ?_ ?_
     rotate_left
     ·intro w'
      go_simp
      with_reducible rfl
     rotate_left
     ·simp only [pL, i64_w, i32_w]
      rfl
     refine pure_ (i := 7) (N := some 62) (v := ?_) (a' := ?_) soundservicelaw13_ClockChanges.q4 rfl rfl (any_of HT_.out (by kernel_rfl)) (fun _ _ _ h => h) (Or.inl ⟨by rfl, ?_⟩) ?_ ?_
     rotate_left
     ·intro w'
      go_simp
      with_reducible rfl
     rotate_left
     ·simp only [pL, i64_w, i32_w]
      rfl
     exact norm_ (by simp only [putAll, pL]) (hCont (v303, gb306) _ ⟨hHeld, (by (with_reducible repeat (first | apply Kd.R_alloc | apply Kd.R_drewN | apply Kd.R_drew)); exact HO291.out), (by (with_reducible repeat (first | apply Kd.R_alloc | apply Kd.R_drewN | apply Kd.R_drew)); exact HO296.out), (by (with_reducible repeat (first | apply Kd.R_alloc | apply Kd.R_drewN | apply Kd.R_drew)); exact Kd.R_mono HO304.out (fun _ hk => ⟨hk.1.2, hk.2⟩)), (by (with_reducible repeat (first | apply kN | apply kD | apply kA)); exact BK288.out), (by (with_reducible repeat (first | apply kN | apply kD | apply kA)); exact BK293.out), (by (with_reducible repeat (first | apply kN | apply kD | apply kA)); exact BK298.out), (by (with_reducible repeat (first | apply kN | apply kD | apply kA)); exact BK306.out), GW306.out, GE306.out, NB284_306.out, NB306_284.out, NB288_306.out, NB306_288.out, NB293_306.out, NB306_293.out, NB298_306.out, NB306_298.out, (by repeat (first | (with_reducible first | exact HI284.out | apply IsS63.alloc | apply IsS63.drewN | apply IsS63.drew | refine IsS63.far ?_ NB284_288.out _ | refine IsS63.far ?_ NB284_293.out _ | refine IsS63.far ?_ NB284_298.out _ | refine IsS63.far ?_ NB284_306.out _) | exact HI284.out)), (by repeat (first | (with_reducible first | exact HB.out | apply bA | apply bN | apply bD | refine bS ?_ (IsS63.ge HI284.out) | refine bS ?_ GE288.out | refine bS ?_ GE293.out | refine bS ?_ GE298.out | refine bS ?_ GE306.out) | exact HB.out))⟩)
   ·skip
    refine box_step ?hg (N := 15) ?hd (cs := #[.slice none 0 0]) (t := 24) ?hr ?_; (case hd => rfl); (case hg => rfl); (case hr => first | (go_simp; done) | (go_simp; rfl))
    intro gb306 hg w35 hbox hb
    have n0_ := Am (Kd.R_below (by (with_reducible repeat (first | apply Kd.R_alloc | apply Kd.R_drewN | apply Kd.R_drew)); exact HO291.out) hb)
    have n1_ := Am (Kd.R_below (by (with_reducible repeat (first | apply Kd.R_alloc | apply Kd.R_drewN | apply Kd.R_drew)); exact HO296.out) hb)
    have n2_ := Am (IsS63.below (by repeat (first | (with_reducible first | exact HI284.out | apply IsS63.alloc | apply IsS63.drewN | apply IsS63.drew | refine IsS63.far ?_ NB284_288.out _ | refine IsS63.far ?_ NB284_293.out _ | refine IsS63.far ?_ NB284_298.out _) | exact HI284.out)) hb)
    have n3_ := Am (blk_below (g := gb288) (o := .cells #[.int .i64 t285, .int .i64 t286] 27 (0, 0)) (by (with_reducible repeat (first | apply kN | apply kD | apply kA)); exact BK288.out) hb)
    have n4_ := Am (blk_below (g := gb293) (o := .cells #[.slice Ao21 t289.length co21] 24 (0, 0)) (by (with_reducible repeat (first | apply kN | apply kD | apply kA)); exact BK293.out) hb)
    have n5_ := Am (blk_below (g := gb298) (o := .cells #[.slice Ao28 t294.length co28] 24 (0, 0)) (by (with_reducible repeat (first | apply kN | apply kD | apply kA)); exact BK298.out) hb)
    have n6_ := Am (below_step (by repeat (first | (with_reducible first | exact HB.out | apply bA | apply bN | apply bD | refine bS ?_ (IsS63.ge HI284.out) | refine bS ?_ GE288.out | refine bS ?_ GE293.out | refine bS ?_ GE298.out) | exact HB.out)) hb)
    have n7_ := Am (hbox)
    have n8_ := Am ((by rw [hg]; exact (below_size (by repeat (first | (with_reducible first | exact HB.out | apply bA | apply bN | apply bD | refine bS ?_ (IsS63.ge HI284.out) | refine bS ?_ GE288.out | refine bS ?_ GE293.out | refine bS ?_ GE298.out) | exact HB.out))) : w.heap.size ≤ gb306))
    have n9_ := Am ((by rw [hg]; exact (below_size (by repeat (first | (with_reducible first | exact HB.out | apply bA | apply bN | apply bD | refine bS ?_ (IsS63.ge HI284.out) | refine bS ?_ GE288.out | refine bS ?_ GE293.out | refine bS ?_ GE298.out) | exact HB.out))) : w.heap.size ≤ gb306))
    have n10_ := Am ((by rw [hg]; exact Nat.ne_of_lt (blk_lt (g := gb288) (o := .cells #[.int .i64 t285, .int .i64 t286] 27 (0, 0)) (by (with_reducible repeat (first | apply kN | apply kD | apply kA)); exact BK288.out)) : gb288 ≠ gb306))
    have n11_ := Am ((by rw [hg]; exact Nat.ne_of_gt (blk_lt (g := gb288) (o := .cells #[.int .i64 t285, .int .i64 t286] 27 (0, 0)) (by (with_reducible repeat (first | apply kN | apply kD | apply kA)); exact BK288.out)) : gb306 ≠ gb288))
    have n12_ := Am ((by rw [hg]; exact Nat.ne_of_lt (blk_lt (g := gb293) (o := .cells #[.slice Ao21 t289.length co21] 24 (0, 0)) (by (with_reducible repeat (first | apply kN | apply kD | apply kA)); exact BK293.out)) : gb293 ≠ gb306))
    have n13_ := Am ((by rw [hg]; exact Nat.ne_of_gt (blk_lt (g := gb293) (o := .cells #[.slice Ao21 t289.length co21] 24 (0, 0)) (by (with_reducible repeat (first | apply kN | apply kD | apply kA)); exact BK293.out)) : gb306 ≠ gb293))
    have n14_ := Am ((by rw [hg]; exact Nat.ne_of_lt (blk_lt (g := gb298) (o := .cells #[.slice Ao28 t294.length co28] 24 (0, 0)) (by (with_reducible repeat (first | apply kN | apply kD | apply kA)); exact BK298.out)) : gb298 ≠ gb306))
    have n15_ := Am ((by rw [hg]; exact Nat.ne_of_gt (blk_lt (g := gb298) (o := .cells #[.slice Ao28 t294.length co28] 24 (0, 0)) (by (with_reducible repeat (first | apply kN | apply kD | apply kA)); exact BK298.out)) : gb306 ≠ gb298))
    have n16_ := Am ((by rw [hg]; exact Nat.ne_of_lt (IsS63.lt (show IsS63 w _ g284 t287 from by repeat (first | (with_reducible first | exact HI284.out | apply IsS63.alloc | apply IsS63.drewN | apply IsS63.drew | refine IsS63.far ?_ NB284_288.out _ | refine IsS63.far ?_ NB284_293.out _ | refine IsS63.far ?_ NB284_298.out _) | exact HI284.out))) : g284 ≠ gb306))
    have n17_ := Am ((by rw [hg]; exact Nat.ne_of_gt (IsS63.lt (show IsS63 w _ g284 t287 from by repeat (first | (with_reducible first | exact HI284.out | apply IsS63.alloc | apply IsS63.drewN | apply IsS63.drew | refine IsS63.far ?_ NB284_288.out _ | refine IsS63.far ?_ NB284_293.out _ | refine IsS63.far ?_ NB284_298.out _) | exact HI284.out))) : gb306 ≠ g284))
    clear HO291
    clear HO296
    clear HI284
    clear BK288
    clear BK293
    clear BK298
    clear HB
    have HO291 := n0_
    have HO296 := n1_
    have HI284 := n2_
    have BK288 := n3_
    have BK293 := n4_
    have BK298 := n5_
    have HB := n6_
    have BK306 := n7_
    have GW306 := n8_
    have GE306 := n9_
    have NB288_306 := n10_
    have NB306_288 := n11_
    have NB293_306 := n12_
    have NB306_293 := n13_
    have NB298_306 := n14_
    have NB306_298 := n15_
    have NB284_306 := n16_
    have NB306_284 := n17_
    clear n0_ n1_ n2_ n3_ n4_ n5_ n6_ n7_ n8_ n9_ n10_ n11_ n12_ n13_ n14_ n15_ n16_ n17_
    clear hb hbox hg
    refine hK.out _ _ ((blk_cell BK293.out 0).trans rfl) (fun hHeld => ?_)
    clear hK K
    refine norm_ (a' := ?_) ?_ ?_
    rotate_left
    ·show Act.put _ (some 15) _ = _
     simp only [pL, i64_w, i32_w]
     rfl
    refine one_ (i := 3) (N := some 59) soundservicelaw13_ClockChanges.q8 rfl rfl (one_of HT_.out (by kernel_rfl)) (by decide) (fun K hK => ?_)
    refine goes_ Try.func20 (by kernel_rfl) rfl #[.pointer (some ⟨g284, 0, none⟩)] (by rfl) rfl rfl (by (try simp only [List.map_toArray, List.map_cons, List.map_nil]); first | done | rfl | (simp only [List.length_drop, List.length_take]; rfl)) ?_
    with_reducible refine (soundservicemade_Rate.calls g284 t287 t299 t300 t301 w _ ?side1 ?side2 A10.out).mono ?_
    (case side1 => repeat (first | (with_reducible first | exact HI284.out | apply IsS63.alloc | apply IsS63.drewN | apply IsS63.drew | refine IsS63.far ?_ NB284_288.out _ | refine IsS63.far ?_ NB284_293.out _ | refine IsS63.far ?_ NB284_298.out _ | refine IsS63.far ?_ NB284_306.out _) | exact HI284.out))
    (case side2 => repeat (first | (with_reducible first | exact HB.out | apply bA | apply bN | apply bD | refine bS ?_ (IsS63.ge HI284.out) | refine bS ?_ GE288.out | refine bS ?_ GE293.out | refine bS ?_ GE298.out | refine bS ?_ GE306.out) | exact HB.out))
    rintro e w36 ⟨rfl, hi, hb, hk⟩
    refine ⟨_, rfl, ?_⟩
    have n0_ := Am (KeepBut.blk hk (g' := gb288) (o := .cells #[.int .i64 t285, .int .i64 t286] 27 (0, 0)) (by (with_reducible repeat (first | apply kN | apply kD | apply kA)); exact BK288.out) NB288_284.out (by simp))
    have n1_ := Am (Kd.R_mono (Kd.R_keep (IsS63.apart (show IsS63 w _ g284 t287 from by repeat (first | (with_reducible first | exact HI284.out | apply IsS63.alloc | apply IsS63.drewN | apply IsS63.drew | refine IsS63.far ?_ NB284_288.out _ | refine IsS63.far ?_ NB284_293.out _ | refine IsS63.far ?_ NB284_298.out _ | refine IsS63.far ?_ NB284_306.out _) | exact HI284.out)) (by (with_reducible repeat (first | apply Kd.R_alloc | apply Kd.R_drewN | apply Kd.R_drew)); exact HO291.out) (by decide)) hk (fun _ h => h.2)) (fun _ h => h.1))
    have n2_ := Am (KeepBut.blk hk (g' := gb293) (o := .cells #[.slice Ao21 t289.length co21] 24 (0, 0)) (by (with_reducible repeat (first | apply kN | apply kD | apply kA)); exact BK293.out) NB293_284.out (by simp))
    have n3_ := Am (Kd.R_mono (Kd.R_keep (IsS63.apart (show IsS63 w _ g284 t287 from by repeat (first | (with_reducible first | exact HI284.out | apply IsS63.alloc | apply IsS63.drewN | apply IsS63.drew | refine IsS63.far ?_ NB284_288.out _ | refine IsS63.far ?_ NB284_293.out _ | refine IsS63.far ?_ NB284_298.out _ | refine IsS63.far ?_ NB284_306.out _) | exact HI284.out)) (by (with_reducible repeat (first | apply Kd.R_alloc | apply Kd.R_drewN | apply Kd.R_drew)); exact HO296.out) (by decide)) hk (fun _ h => h.2)) (fun _ h => h.1))
    have n4_ := Am (KeepBut.blk hk (g' := gb298) (o := .cells #[.slice Ao28 t294.length co28] 24 (0, 0)) (by (with_reducible repeat (first | apply kN | apply kD | apply kA)); exact BK298.out) NB298_284.out (by simp))
    have n5_ := Am (KeepBut.blk hk (g' := gb306) (o := .cells #[.slice none 0 0] 24 (0, 0)) (by (with_reducible repeat (first | apply kN | apply kD | apply kA)); exact BK306.out) NB306_284.out (by simp))
    have n6_ := Am (hb)
    have n7_ := Am (hi)
    clear BK288
    clear HO291
    clear BK293
    clear HO296
    clear BK298
    clear BK306
    clear HB
    clear HI284
    have BK288 := n0_
    have HO291 := n1_
    have BK293 := n2_
    have HO296 := n3_
    have BK298 := n4_
    have BK306 := n5_
    have HB := n6_
    have HI284 := n7_
    clear n0_ n1_ n2_ n3_ n4_ n5_ n6_ n7_
    (try clear hb)
    (try clear hb2)
    (try clear hk)
    (try clear hi)
    refine hK.out _ _ ((blk_cell BK293.out 0).trans rfl) (fun hHeld => ?_)
    clear hK K
    refine norm_ (a' := ?_) ?_ ?_
    rotate_left
    ·show Act.put _ (some 59) _ = _
     simp only [pL, i64_w, i32_w]
     rfl
    refine one_ (i := 4) (N := some 60) soundservicelaw13_ClockChanges.q12 rfl rfl (one_of HT_.out (by kernel_rfl)) (by decide) (fun K hK => ?_)
    refine goes_ Try.func15 (by kernel_rfl) rfl #[.agg #[.slice Ao21 t289.length co21], .int .i64 (wrap64 (1 + (wrap64 (Int.tmod a1 500)))), .agg #[.int .i64 t299, .int .i64 t300]] (by rfl) rfl rfl (by (try simp only [List.map_toArray, List.map_cons, List.map_nil]); first | done | rfl | (simp only [List.length_drop, List.length_take]; rfl)) ?_
    with_reducible refine (clock_Change.calls k _ _ t289 (wrap64 (1 + (wrap64 (Int.tmod a1 500)))) t299 t300 t302 t305 _ ?side1 ?side2 A11.out).mono ?_
    (case side1 => repeat (first | exact (Kd.R_reads' HO291.out).2.2 | (with_reducible refine Kd.C_alloc ?_ _) | (with_reducible refine Kd.C_drewN ?_ _) | (with_reducible refine Kd.C_drew ?_)))
    (case side2 => exact (Kd.R_reads' HO291.out).2.1)
    rintro e w37 ⟨v303, rfl, ho0, hb⟩
    refine ⟨_, rfl, ?_⟩
    have n0_ := Am (Kd.R_elder' (by (with_reducible repeat (first | apply Kd.R_alloc | apply Kd.R_drewN | apply Kd.R_drew)); exact HO291.out) (Kd.R_base ho0) hb)
    have n1_ := Am (Kd.R_elder' (by (with_reducible repeat (first | apply Kd.R_alloc | apply Kd.R_drewN | apply Kd.R_drew)); exact HO296.out) (Kd.R_base ho0) hb)
    have n2_ := Am (Kd.R_lower (Kd.R_new' (Kd.R_new' ho0 (Kd.R_lt (by (with_reducible repeat (first | apply Kd.R_alloc | apply Kd.R_drewN | apply Kd.R_drew)); exact HO291.out))) (Kd.R_lt (by (with_reducible repeat (first | apply Kd.R_alloc | apply Kd.R_drewN | apply Kd.R_drew)); exact HO296.out))) (below_size (by repeat (first | (with_reducible first | exact HB.out | apply bA | apply bN | apply bD | refine bS ?_ (IsS63.ge HI284.out) | refine bS ?_ GE288.out | refine bS ?_ GE293.out | refine bS ?_ GE298.out | refine bS ?_ GE306.out) | exact HB.out))))
    have n3_ := Am (IsS63.below (by repeat (first | (with_reducible first | exact HI284.out | apply IsS63.alloc | apply IsS63.drewN | apply IsS63.drew | refine IsS63.far ?_ NB284_288.out _ | refine IsS63.far ?_ NB284_293.out _ | refine IsS63.far ?_ NB284_298.out _ | refine IsS63.far ?_ NB284_306.out _) | exact HI284.out)) hb)
    have n4_ := Am (blk_below (g := gb288) (o := .cells #[.int .i64 t285, .int .i64 t286] 27 (0, 0)) (by (with_reducible repeat (first | apply kN | apply kD | apply kA)); exact BK288.out) hb)
    have n5_ := Am (blk_below (g := gb293) (o := .cells #[.slice Ao21 t289.length co21] 24 (0, 0)) (by (with_reducible repeat (first | apply kN | apply kD | apply kA)); exact BK293.out) hb)
    have n6_ := Am (blk_below (g := gb298) (o := .cells #[.slice Ao28 t294.length co28] 24 (0, 0)) (by (with_reducible repeat (first | apply kN | apply kD | apply kA)); exact BK298.out) hb)
    have n7_ := Am (blk_below (g := gb306) (o := .cells #[.slice none 0 0] 24 (0, 0)) (by (with_reducible repeat (first | apply kN | apply kD | apply kA)); exact BK306.out) hb)
    have n8_ := Am (below_step (by repeat (first | (with_reducible first | exact HB.out | apply bA | apply bN | apply bD | refine bS ?_ (IsS63.ge HI284.out) | refine bS ?_ GE288.out | refine bS ?_ GE293.out | refine bS ?_ GE298.out | refine bS ?_ GE306.out) | exact HB.out)) hb)
    clear HO291
    clear HO296
    clear HI284
    clear BK288
    clear BK293
    clear BK298
    clear BK306
    clear HB
    have HO291 := n0_
    have HO296 := n1_
    have HO304 := n2_
    have HI284 := n3_
    have BK288 := n4_
    have BK293 := n5_
    have BK298 := n6_
    have BK306 := n7_
    have HB := n8_
    clear n0_ n1_ n2_ n3_ n4_ n5_ n6_ n7_ n8_
    (try clear hb)
    (try clear hb2)
    (try clear hk)
    (try clear hi)
    (try clear ho0)
    refine hK.out _ _ ((blk_cell BK293.out 0).trans rfl) (fun hHeld => ?_)
    clear hK K
    refine norm_ (a' := ?_) ?_ ?_
    rotate_left
    ·show Act.put _ (some 60) _ = _
     simp only [pL, i64_w, i32_w]
     rfl
    refine pure_ (i := 5) (N := some 55) (v := ?_) (a' := ?_) soundservicelaw13_ClockChanges.q13 rfl rfl (any_of HT_.out (by kernel_rfl)) (fun _ _ _ h => h) (Or.inl ⟨by rfl, ?_⟩) ?_ ?_
    rotate_left
    ·intro w'
     go_simp
     with_reducible rfl
    rotate_left
    ·simp only [pL, i64_w, i32_w]
     rfl
    refine pure_ (i := 6) (N := some 61) (v := ?_) (a' := ?_) soundservicelaw13_ClockChanges.q14 rfl rfl (any_of HT_.out (by kernel_rfl)) (fun _ _ _ h => h) (Or.inl ⟨by rfl, ?_⟩) ?_ ?_
    rotate_left
    ·intro w'
     go_simp
     with_reducible rfl
    rotate_left
    ·simp only [pL, i64_w, i32_w]
     rfl
    refine pure_ (i := 7) (N := some 62) (v := ?_) (a' := ?_) soundservicelaw13_ClockChanges.q4 rfl rfl (any_of HT_.out (by kernel_rfl)) (fun _ _ _ h => h) (Or.inl ⟨by rfl, ?_⟩) ?_ ?_
    rotate_left
    ·intro w'
     go_simp
     with_reducible rfl
    rotate_left
    ·simp only [pL, i64_w, i32_w]
     rfl
    exact norm_ (by simp only [putAll, pL]) (hCont (v303, gb306) _ ⟨hHeld, (by (with_reducible repeat (first | apply Kd.R_alloc | apply Kd.R_drewN | apply Kd.R_drew)); exact HO291.out), (by (with_reducible repeat (first | apply Kd.R_alloc | apply Kd.R_drewN | apply Kd.R_drew)); exact HO296.out), (by (with_reducible repeat (first | apply Kd.R_alloc | apply Kd.R_drewN | apply Kd.R_drew)); exact Kd.R_mono HO304.out (fun _ hk => ⟨hk.1.2, hk.2⟩)), (by (with_reducible repeat (first | apply kN | apply kD | apply kA)); exact BK288.out), (by (with_reducible repeat (first | apply kN | apply kD | apply kA)); exact BK293.out), (by (with_reducible repeat (first | apply kN | apply kD | apply kA)); exact BK298.out), (by (with_reducible repeat (first | apply kN | apply kD | apply kA)); exact BK306.out), GW306.out, GE306.out, NB284_306.out, NB306_284.out, NB288_306.out, NB306_288.out, NB293_306.out, NB306_293.out, NB298_306.out, NB306_298.out, (by repeat (first | (with_reducible first | exact HI284.out | apply IsS63.alloc | apply IsS63.drewN | apply IsS63.drew | refine IsS63.far ?_ NB284_288.out _ | refine IsS63.far ?_ NB284_293.out _ | refine IsS63.far ?_ NB284_298.out _ | refine IsS63.far ?_ NB284_306.out _) | exact HI284.out)), (by repeat (first | (with_reducible first | exact HB.out | apply bA | apply bN | apply bD | refine bS ?_ (IsS63.ge HI284.out) | refine bS ?_ GE288.out | refine bS ?_ GE293.out | refine bS ?_ GE298.out | refine bS ?_ GE306.out) | exact HB.out))⟩)
  rintro ⟨v303, gb306⟩ w38 ⟨hS_, h0_, h1_, h2_, h3_, h4_, h5_, h6_, h7_, h8_, h9_, h10_, h11_, h12_, h13_, h14_, h15_, h16_, h17_, h18_⟩
  have n0_ : Aside0 (Kd.R k61 61 w38 w.heap.size (fun k_ => some k_ ≠ (.slice Ao28 t294.length co28 : Value).ownBlock ∧ some k_ ≠ (v303 : Value).ownBlock) (.slice Ao21 t289.length co21) t289) := ⟨h0_⟩
  have n1_ : Aside0 (Kd.R k61 61 w38 w.heap.size (fun k_ => some k_ ≠ (.slice Ao21 t289.length co21 : Value).ownBlock ∧ some k_ ≠ (v303 : Value).ownBlock) (.slice Ao28 t294.length co28) t294) := ⟨h1_⟩
  have n2_ : Aside0 (Kd.R k61 61 w38 w.heap.size (fun k_ => some k_ ≠ (.slice Ao21 t289.length co21 : Value).ownBlock ∧ some k_ ≠ (.slice Ao28 t294.length co28 : Value).ownBlock) v303 t302) := ⟨h2_⟩
  have n3_ : Aside0 (w38.heap[gb288]? = some (.cells #[.int .i64 t285, .int .i64 t286] 27 (0, 0))) := ⟨h3_⟩
  have n4_ : Aside0 (w38.heap[gb293]? = some (.cells #[.slice Ao21 t289.length co21] 24 (0, 0))) := ⟨h4_⟩
  have n5_ : Aside0 (w38.heap[gb298]? = some (.cells #[.slice Ao28 t294.length co28] 24 (0, 0))) := ⟨h5_⟩
  have n6_ : Aside0 (w38.heap[gb306]? = some (.cells #[.slice none 0 0] 24 (0, 0))) := ⟨h6_⟩
  have n7_ : Aside0 (w.heap.size ≤ gb306) := ⟨h7_⟩
  have n8_ : Aside0 (w.heap.size ≤ gb306) := ⟨h8_⟩
  have n9_ : Aside0 (g284 ≠ gb306) := ⟨h9_⟩
  have n10_ : Aside0 (gb306 ≠ g284) := ⟨h10_⟩
  have n11_ : Aside0 (gb288 ≠ gb306) := ⟨h11_⟩
  have n12_ : Aside0 (gb306 ≠ gb288) := ⟨h12_⟩
  have n13_ : Aside0 (gb293 ≠ gb306) := ⟨h13_⟩
  have n14_ : Aside0 (gb306 ≠ gb293) := ⟨h14_⟩
  have n15_ : Aside0 (gb298 ≠ gb306) := ⟨h15_⟩
  have n16_ : Aside0 (gb306 ≠ gb298) := ⟨h16_⟩
  have n17_ : Aside0 (IsS63 w w38 g284 t301) := ⟨h17_⟩
  have n18_ : Aside0 (Below w.heap.size w w38) := ⟨h18_⟩
  clear HO291
  clear HO296
  clear BK288
  clear BK293
  clear BK298
  clear HI284
  clear HB
  clear h0_ h1_ h2_ h3_ h4_ h5_ h6_ h7_ h8_ h9_ h10_ h11_ h12_ h13_ h14_ h15_ h16_ h17_ h18_
  have HO291 := n0_
  have HO296 := n1_
  have HO304 := n2_
  have BK288 := n3_
  have BK293 := n4_
  have BK298 := n5_
  have BK306 := n6_
  have GW306 := n7_
  have GE306 := n8_
  have NB284_306 := n9_
  have NB306_284 := n10_
  have NB288_306 := n11_
  have NB306_288 := n12_
  have NB293_306 := n13_
  have NB306_293 := n14_
  have NB298_306 := n15_
  have NB306_298 := n16_
  have HI284 := n17_
  have HB := n18_
  clear n0_ n1_ n2_ n3_ n4_ n5_ n6_ n7_ n8_ n9_ n10_ n11_ n12_ n13_ n14_ n15_ n16_ n17_ n18_
  have hHeld : w38.cell? ⟨gb293, 0, none⟩ = some (.slice Ao21 t289.length co21) := hS_
  obtain ⟨Ao39, co39, eo39⟩ := Kd.R_slice HO304.out
  (first | subst eo39 | (injection eo39 with f1_ f2_ f3_; have f4_ := f1_.symm; have f5_ := f3_.symm; clear f1_ f2_ f3_; subst f4_; subst f5_))
  refine norm_ (a' := ?_) ?_ ?_
  rotate_left
  ·simp only [putAll, pL]
   rfl
  refine one_ (i := 9) (N := none) soundservicelaw13_ClockChanges.q15 rfl rfl (one_of HT_.out (by kernel_rfl)) (by decide) (fun K hK => ?_)
  have hs40 : w38.cell? ⟨gb306, 0, none⟩ = some (.slice none 0 0) := (blk_cell BK306.out 0).trans rfl
  have hfs40 := blk_frozen BK306.out 0
  have hns40_0 := NB288_306.out
  have hns40_1 := NB293_306.out
  have hns40_2 := NB298_306.out
  have hms40_0 := NB306_288.out
  have hms40_1 := NB306_293.out
  have hms40_2 := NB306_298.out
  refine skip_ (w1 := ?_) (by rfl) rfl ?_ ?_
  rotate_left
  ·go_simp
   rfl
  refine hK.out _ _ (((cell_far (p := ⟨gb306, _, none⟩) NB293_306.out _).trans (hHeld))) (fun hHeld => ?_)
  clear hK K
  refine pure_ (i := 10) (N := some 16) (v := ?_) (a' := ?_) soundservicelaw13_ClockChanges.q16 rfl rfl (any_of HT_.out (by kernel_rfl)) (fun _ _ _ h => h) (Or.inl ⟨by rfl, ?_⟩) ?_ ?_
  rotate_left
  ·intro w'
   go_simp
   with_reducible rfl
  rotate_left
  ·simp only [pL, i64_w, i32_w]
   rfl
  refine done_ (done_of HT_.out (by kernel_rfl)) ?_
  go_upto_region 9 with (fail)
  go_cut [72] (fun v72 wc => ∃ (kq : Nat) (x72_11 : Bool), v72 = .bool x72_11 ∧ Aside0 (soundservicelaw13_ClockChanges.j0 kq (wrap64 (1 + (wrap64 (Int.tmod a1 500)))) (wrap64 ((wrap64 (1 + (wrap64 (Int.tmod a1 500)))) + (wrap64 (Int.tmod a2 900)))) x72_11 t289 t294 t302 = some r) ∧ Aside0 (kq ≤ k) ∧ Aside0 (Kd.R k61 61 wc w.heap.size (fun k_ => some k_ ≠ ((.slice Ao28 t294.length co28) : Value).ownBlock ∧ some k_ ≠ ((.slice Ao39 t302.length co39) : Value).ownBlock) (.slice Ao21 t289.length co21) t289) ∧ Aside0 (Kd.R k61 61 wc w.heap.size (fun k_ => some k_ ≠ ((.slice Ao21 t289.length co21) : Value).ownBlock ∧ some k_ ≠ ((.slice Ao39 t302.length co39) : Value).ownBlock) (.slice Ao28 t294.length co28) t294) ∧ Aside0 (Kd.R k61 61 wc w.heap.size (fun k_ => some k_ ≠ ((.slice Ao21 t289.length co21) : Value).ownBlock ∧ some k_ ≠ ((.slice Ao28 t294.length co28) : Value).ownBlock) (.slice Ao39 t302.length co39) t302) ∧ Aside0 (wc.heap[gb288]? = some (.cells #[.int .i64 t285, .int .i64 t286] 27 (0, 0))) ∧ Aside0 (wc.heap[gb293]? = some (.cells #[(.slice Ao21 t289.length co21)] 24 (0, 0))) ∧ Aside0 (wc.heap[gb298]? = some (.cells #[(.slice Ao28 t294.length co28)] 24 (0, 0))) ∧ Aside0 (wc.heap[gb306]? = some (.cells #[(.slice Ao39 t302.length co39)] 24 (0, 0))) ∧ Aside0 (Below w.heap.size w wc))
  case first =>
   have H := HC12.out
   clear HC12
   by_cases c41 : t292 = 0
   ·rw [if_pos c41] at H
    have c41b0 : (t292 == 0) = true := beq_iff_eq.mpr c41
    have c41b1 : (t292 != 0) = false := bne_eq_false_iff_eq.mpr c41
    clear c41
    (first | rw [c41b0] | (simp only [i64_w, i32_w]; rw [c41b0]) | skip)
    by_cases c42 : t297 = 0
    ·rw [if_pos c42] at H
     have c42b0 : (t297 == 0) = true := beq_iff_eq.mpr c42
     have c42b1 : (t297 != 0) = false := bne_eq_false_iff_eq.mpr c42
     clear c42
     have H' := Am H
     clear H
     go_wp2
     go_meet
     case rel => exact ⟨_, ((t305 != 0)), (by first | rfl | (simp; done) | (simp [*]; done)), H', ⟨by first | omega | exact Nat.le_refl _⟩, ⟨by (with_reducible repeat (first | apply Kd.R_alloc | apply Kd.R_drewN | apply Kd.R_drew)); exact Kd.R_mono (Kd.R_far (p := ⟨gb306, 0, none⟩) (Kd.R_types HO291.out BK306.out (by decide)) (fun _ hk => hk.2) (.slice Ao39 t302.length co39)) (fun _ hk => ⟨hk.1.1, hk.1.2⟩)⟩, ⟨by (with_reducible repeat (first | apply Kd.R_alloc | apply Kd.R_drewN | apply Kd.R_drew)); exact Kd.R_mono (Kd.R_far (p := ⟨gb306, 0, none⟩) (Kd.R_types HO296.out BK306.out (by decide)) (fun _ hk => hk.2) (.slice Ao39 t302.length co39)) (fun _ hk => ⟨hk.1.1, hk.1.2⟩)⟩, ⟨by (with_reducible repeat (first | apply Kd.R_alloc | apply Kd.R_drewN | apply Kd.R_drew)); exact Kd.R_mono (Kd.R_far (p := ⟨gb306, 0, none⟩) (Kd.R_types HO304.out BK306.out (by decide)) (fun _ hk => hk.2) (.slice Ao39 t302.length co39)) (fun _ hk => ⟨hk.1.1, hk.1.2⟩)⟩, ⟨by (with_reducible repeat (first | apply kN | apply kD | apply kA)); refine blk_far ?_ NB288_306.out _; (with_reducible repeat (first | apply kN | apply kD | apply kA)); exact BK288.out⟩, ⟨by (with_reducible repeat (first | apply kN | apply kD | apply kA)); refine blk_far ?_ NB293_306.out _; (with_reducible repeat (first | apply kN | apply kD | apply kA)); exact BK293.out⟩, ⟨by (with_reducible repeat (first | apply kN | apply kD | apply kA)); refine blk_far ?_ NB298_306.out _; (with_reducible repeat (first | apply kN | apply kD | apply kA)); exact BK298.out⟩, ⟨by (with_reducible repeat (first | apply kN | apply kD | apply kA)); refine blk_put (cs := #[.slice none 0 0]) ?_ 0 _ rfl; (with_reducible repeat (first | apply kN | apply kD | apply kA)); exact BK306.out⟩, ⟨by repeat (first | (with_reducible first | exact HB.out | apply bA | apply bN | apply bD | refine bS ?_ (IsS63.ge HI284.out) | refine bS ?_ GE288.out | refine bS ?_ GE293.out | refine bS ?_ GE298.out | refine bS ?_ GE306.out) | exact HB.out)⟩⟩
    ·rw [if_neg c42] at H
     have c42b0 : (t297 == 0) = false := beq_eq_false_iff_ne.mpr c42
     have c42b1 : (t297 != 0) = true := bne_iff_ne.mpr c42
     have H' := Am H
     clear H
     go_wp2
     go_meet
     case rel => exact ⟨_, (true), (by first | rfl | (simp; done) | (simp [*]; done)), H', ⟨by first | omega | exact Nat.le_refl _⟩, ⟨by (with_reducible repeat (first | apply Kd.R_alloc | apply Kd.R_drewN | apply Kd.R_drew)); exact Kd.R_mono (Kd.R_far (p := ⟨gb306, 0, none⟩) (Kd.R_types HO291.out BK306.out (by decide)) (fun _ hk => hk.2) (.slice Ao39 t302.length co39)) (fun _ hk => ⟨hk.1.1, hk.1.2⟩)⟩, ⟨by (with_reducible repeat (first | apply Kd.R_alloc | apply Kd.R_drewN | apply Kd.R_drew)); exact Kd.R_mono (Kd.R_far (p := ⟨gb306, 0, none⟩) (Kd.R_types HO296.out BK306.out (by decide)) (fun _ hk => hk.2) (.slice Ao39 t302.length co39)) (fun _ hk => ⟨hk.1.1, hk.1.2⟩)⟩, ⟨by (with_reducible repeat (first | apply Kd.R_alloc | apply Kd.R_drewN | apply Kd.R_drew)); exact Kd.R_mono (Kd.R_far (p := ⟨gb306, 0, none⟩) (Kd.R_types HO304.out BK306.out (by decide)) (fun _ hk => hk.2) (.slice Ao39 t302.length co39)) (fun _ hk => ⟨hk.1.1, hk.1.2⟩)⟩, ⟨by (with_reducible repeat (first | apply kN | apply kD | apply kA)); refine blk_far ?_ NB288_306.out _; (with_reducible repeat (first | apply kN | apply kD | apply kA)); exact BK288.out⟩, ⟨by (with_reducible repeat (first | apply kN | apply kD | apply kA)); refine blk_far ?_ NB293_306.out _; (with_reducible repeat (first | apply kN | apply kD | apply kA)); exact BK293.out⟩, ⟨by (with_reducible repeat (first | apply kN | apply kD | apply kA)); refine blk_far ?_ NB298_306.out _; (with_reducible repeat (first | apply kN | apply kD | apply kA)); exact BK298.out⟩, ⟨by (with_reducible repeat (first | apply kN | apply kD | apply kA)); refine blk_put (cs := #[.slice none 0 0]) ?_ 0 _ rfl; (with_reducible repeat (first | apply kN | apply kD | apply kA)); exact BK306.out⟩, ⟨by repeat (first | (with_reducible first | exact HB.out | apply bA | apply bN | apply bD | refine bS ?_ (IsS63.ge HI284.out) | refine bS ?_ GE288.out | refine bS ?_ GE293.out | refine bS ?_ GE298.out | refine bS ?_ GE306.out) | exact HB.out)⟩⟩
   ·rw [if_neg c41] at H
    have c41b0 : (t292 == 0) = false := beq_eq_false_iff_ne.mpr c41
    have c41b1 : (t292 != 0) = true := bne_iff_ne.mpr c41
    (first | rw [c41b0] | (simp only [i64_w, i32_w]; rw [c41b0]) | skip)
    have H' := Am H
    clear H
    go_wp2
    go_meet
    case rel => exact ⟨_, (true), (by first | rfl | (simp; done) | (simp [*]; done)), H', ⟨by first | omega | exact Nat.le_refl _⟩, ⟨by (with_reducible repeat (first | apply Kd.R_alloc | apply Kd.R_drewN | apply Kd.R_drew)); exact Kd.R_mono (Kd.R_far (p := ⟨gb306, 0, none⟩) (Kd.R_types HO291.out BK306.out (by decide)) (fun _ hk => hk.2) (.slice Ao39 t302.length co39)) (fun _ hk => ⟨hk.1.1, hk.1.2⟩)⟩, ⟨by (with_reducible repeat (first | apply Kd.R_alloc | apply Kd.R_drewN | apply Kd.R_drew)); exact Kd.R_mono (Kd.R_far (p := ⟨gb306, 0, none⟩) (Kd.R_types HO296.out BK306.out (by decide)) (fun _ hk => hk.2) (.slice Ao39 t302.length co39)) (fun _ hk => ⟨hk.1.1, hk.1.2⟩)⟩, ⟨by (with_reducible repeat (first | apply Kd.R_alloc | apply Kd.R_drewN | apply Kd.R_drew)); exact Kd.R_mono (Kd.R_far (p := ⟨gb306, 0, none⟩) (Kd.R_types HO304.out BK306.out (by decide)) (fun _ hk => hk.2) (.slice Ao39 t302.length co39)) (fun _ hk => ⟨hk.1.1, hk.1.2⟩)⟩, ⟨by (with_reducible repeat (first | apply kN | apply kD | apply kA)); refine blk_far ?_ NB288_306.out _; (with_reducible repeat (first | apply kN | apply kD | apply kA)); exact BK288.out⟩, ⟨by (with_reducible repeat (first | apply kN | apply kD | apply kA)); refine blk_far ?_ NB293_306.out _; (with_reducible repeat (first | apply kN | apply kD | apply kA)); exact BK293.out⟩, ⟨by (with_reducible repeat (first | apply kN | apply kD | apply kA)); refine blk_far ?_ NB298_306.out _; (with_reducible repeat (first | apply kN | apply kD | apply kA)); exact BK298.out⟩, ⟨by (with_reducible repeat (first | apply kN | apply kD | apply kA)); refine blk_put (cs := #[.slice none 0 0]) ?_ 0 _ rfl; (with_reducible repeat (first | apply kN | apply kD | apply kA)); exact BK306.out⟩, ⟨by repeat (first | (with_reducible first | exact HB.out | apply bA | apply bN | apply bD | refine bS ?_ (IsS63.ge HI284.out) | refine bS ?_ GE288.out | refine bS ?_ GE293.out | refine bS ?_ GE298.out | refine bS ?_ GE306.out) | exact HB.out)⟩⟩
  case rest =>
   clear HC12
   try clear c1
   try clear c2
   try clear p2
   try clear c4
   try clear p6
   try clear c15
   try clear c20
   try clear c41
   try clear c41b0
   try clear c41b1
   try clear c42
   try clear c42b0
   try clear c42b1
   obtain ⟨kq, x72_11, rfl, HA, HJ11, HO_294000, HO_299000, HO_307000, BK288, BK293, BK298, BK306, HB⟩ := hcut
   cases kq with
   | zero => exact absurd HA.out (by simp [soundservicelaw13_ClockChanges.j0])
   | succ kj11 =>
    have H := HA.out
    clear HA
    simp only [soundservicelaw13_ClockChanges.j0] at H
    by_cases c43 : x72_11 = true
    ·subst c43
     have H1 : (some false) = some r := by rw [if_pos rfl] at H; exact H
     clear H
     have H := H1
     clear H1
     obtain rfl := Option.some.inj H
     go_wp2
     go_ret
     exact ⟨by first | rfl | (simp [errW_none, errW_some] <;> rfl) | (simp [*, errW_none, errW_some] <;> rfl), by repeat (first | (with_reducible first | exact HB.out | apply bA | apply bN | apply bD | refine bS ?_ GE288.out | refine bS ?_ GE293.out | refine bS ?_ GE298.out | refine bS ?_ GE306.out) | exact HB.out)⟩
    ·replace c43 := Bool.eq_false_iff.mpr c43
     subst c43
     have H1 : ((clock_Position.f kj11 t289 (wrap64 ((wrap64 (1 + (wrap64 (Int.tmod a1 500)))) + (wrap64 (Int.tmod a2 900))))).bind fun bt307 => ((clock_Position.f kj11 t294 (wrap64 ((wrap64 (1 + (wrap64 (Int.tmod a1 500)))) + (wrap64 (Int.tmod a2 900))))).bind fun bt309 => ((clock_Position.f kj11 t289 (wrap64 (1 + (wrap64 (Int.tmod a1 500))))).bind fun bt311 => ((clock_Position.f kj11 t302 (wrap64 (1 + (wrap64 (Int.tmod a1 500))))).bind fun bt313 => (if bt307.2 = 0 then (if bt309.2 = 0 then (if bt311.2 = 0 then (if bt313.2 = 0 then (if bt307.1 = bt309.1 then (some (bt311.1 == bt313.1)) else (if bt307.1 = (wrap64 (bt309.1 + 1)) then (some (bt311.1 == bt313.1)) else (some false))) else (some false)) else (some false)) else (some false)) else (some false)))))) = some r := by rw [if_neg (show ¬ (false = true) by decide)] at H; exact H
     clear H
     have H := H1
     clear H1
     replace H := Option.bind_eq_some_iff.mp H
     obtain ⟨⟨t307, t308⟩, A440, H⟩ := H
     replace H : ((clock_Position.f kj11 t294 (wrap64 ((wrap64 (1 + (wrap64 (Int.tmod a1 500)))) + (wrap64 (Int.tmod a2 900))))).bind fun bt309 => ((clock_Position.f kj11 t289 (wrap64 (1 + (wrap64 (Int.tmod a1 500))))).bind fun bt311 => ((clock_Position.f kj11 t302 (wrap64 (1 + (wrap64 (Int.tmod a1 500))))).bind fun bt313 => (if t308 = 0 then (if bt309.2 = 0 then (if bt311.2 = 0 then (if bt313.2 = 0 then (if t307 = bt309.1 then (some (bt311.1 == bt313.1)) else (if t307 = (wrap64 (bt309.1 + 1)) then (some (bt311.1 == bt313.1)) else (some false))) else (some false)) else (some false)) else (some false)) else (some false))))) = some r := H
     have A44 := Am A440
     clear A440
     replace H := Option.bind_eq_some_iff.mp H
     obtain ⟨⟨t309, t310⟩, A450, H⟩ := H
     replace H : ((clock_Position.f kj11 t289 (wrap64 (1 + (wrap64 (Int.tmod a1 500))))).bind fun bt311 => ((clock_Position.f kj11 t302 (wrap64 (1 + (wrap64 (Int.tmod a1 500))))).bind fun bt313 => (if t308 = 0 then (if t310 = 0 then (if bt311.2 = 0 then (if bt313.2 = 0 then (if t307 = t309 then (some (bt311.1 == bt313.1)) else (if t307 = (wrap64 (t309 + 1)) then (some (bt311.1 == bt313.1)) else (some false))) else (some false)) else (some false)) else (some false)) else (some false)))) = some r := H
     have A45 := Am A450
     clear A450
     replace H := Option.bind_eq_some_iff.mp H
     obtain ⟨⟨t311, t312⟩, A460, H⟩ := H
     replace H : ((clock_Position.f kj11 t302 (wrap64 (1 + (wrap64 (Int.tmod a1 500))))).bind fun bt313 => (if t308 = 0 then (if t310 = 0 then (if t312 = 0 then (if bt313.2 = 0 then (if t307 = t309 then (some (t311 == bt313.1)) else (if t307 = (wrap64 (t309 + 1)) then (some (t311 == bt313.1)) else (some false))) else (some false)) else (some false)) else (some false)) else (some false))) = some r := H
     have A46 := Am A460
     clear A460
     replace H := Option.bind_eq_some_iff.mp H
     obtain ⟨⟨t313, t314⟩, A470, H⟩ := H
     replace H : (if t308 = 0 then (if t310 = 0 then (if t312 = 0 then (if t314 = 0 then (if t307 = t309 then (some (t311 == t313)) else (if t307 = (wrap64 (t309 + 1)) then (some (t311 == t313)) else (some false))) else (some false)) else (some false)) else (some false)) else (some false)) = some r := H
     have A47 := Am A470
     clear A470
     by_cases c48 : t308 = 0
     ·rw [if_pos c48] at H
      have c48b0 : (t308 == 0) = true := beq_iff_eq.mpr c48
      have c48b1 : (t308 != 0) = false := bne_eq_false_iff_eq.mpr c48
      clear c48
      by_cases c49 : t310 = 0
      ·rw [if_pos c49] at H
       have c49b0 : (t310 == 0) = true := beq_iff_eq.mpr c49
       have c49b1 : (t310 != 0) = false := bne_eq_false_iff_eq.mpr c49
       clear c49
       by_cases c50 : t312 = 0
       ·rw [if_pos c50] at H
        have c50b0 : (t312 == 0) = true := beq_iff_eq.mpr c50
        have c50b1 : (t312 != 0) = false := bne_eq_false_iff_eq.mpr c50
        clear c50
        by_cases c51 : t314 = 0
        ·rw [if_pos c51] at H
         have c51b0 : (t314 == 0) = true := beq_iff_eq.mpr c51
         have c51b1 : (t314 != 0) = false := bne_eq_false_iff_eq.mpr c51
         clear c51
         by_cases c52 : t307 = t309
         ·rw [if_pos c52] at H
          have c52b0 : (t307 == t309) = true := beq_iff_eq.mpr c52
          have c52b1 : (t307 != t309) = false := bne_eq_false_iff_eq.mpr c52
          clear c52
          obtain rfl := Option.some.inj H
          have hnb53 := NB293_288.out
          have hnc53 := NB288_293.out
          have hnb54 := NB293_298.out
          have hnc54 := NB298_293.out
          have hnb55 := NB293_306.out
          have hnc55 := NB306_293.out
          have hcz56_0 : wc.cell? ⟨gb293, 0, none⟩ = some (.slice Ao21 t289.length co21) := (blk_cell BK293.out 0).trans rfl
          have hfz56_0 := blk_frozen BK293.out 0
          go_wp2_with (first | ((with_reducible refine gate_callee (f := 21) rfl ?_); refine goesL_ (some 76) rfl rfl Try.func21 (by kernel_rfl) rfl #[.agg #[.slice Ao21 t289.length co21], .int .i64 (wrap64 ((wrap64 (1 + (wrap64 (Int.tmod a1 500)))) + (wrap64 (Int.tmod a2 900))))] rfl (by (try simp only [List.map_toArray, List.map_cons, List.map_nil]); first | done | rfl | (simp only [List.length_drop, List.length_take]; rfl)) ?_; (with_reducible refine (clock_Position.calls kj11 _ _ t289 (wrap64 ((wrap64 (1 + (wrap64 (Int.tmod a1 500)))) + (wrap64 (Int.tmod a2 900)))) t307 t308 _ ?side1 ?side2 A44.out).mono ?_); (case side1 => repeat (first | exact (Kd.R_reads' HO_294000.out).2.2 | (with_reducible refine Kd.C_alloc ?_ _) | (with_reducible refine Kd.C_drewN ?_ _) | (with_reducible refine Kd.C_drew ?_))); (case side2 => exact (Kd.R_reads' HO_294000.out).2.1); rintro e w57 ⟨rfl, hb⟩; refine ⟨_, rfl, ?_⟩; have n0_ := Am (Kd.R_below (by (with_reducible repeat (first | apply Kd.R_alloc | apply Kd.R_drewN | apply Kd.R_drew)); exact HO_294000.out) hb); have n1_ := Am (Kd.R_below (by (with_reducible repeat (first | apply Kd.R_alloc | apply Kd.R_drewN | apply Kd.R_drew)); exact HO_299000.out) hb); have n2_ := Am (Kd.R_below (by (with_reducible repeat (first | apply Kd.R_alloc | apply Kd.R_drewN | apply Kd.R_drew)); exact HO_307000.out) hb); have n3_ := Am (blk_below (g := gb288) (o := .cells #[.int .i64 t285, .int .i64 t286] 27 (0, 0)) (by (with_reducible repeat (first | apply kN | apply kD | apply kA)); exact BK288.out) hb); have n4_ := Am (blk_below (g := gb293) (o := .cells #[.slice Ao21 t289.length co21] 24 (0, 0)) (by (with_reducible repeat (first | apply kN | apply kD | apply kA)); exact BK293.out) hb); have n5_ := Am (blk_below (g := gb298) (o := .cells #[.slice Ao28 t294.length co28] 24 (0, 0)) (by (with_reducible repeat (first | apply kN | apply kD | apply kA)); exact BK298.out) hb); have n6_ := Am (blk_below (g := gb306) (o := .cells #[.slice Ao39 t302.length co39] 24 (0, 0)) (by (with_reducible repeat (first | apply kN | apply kD | apply kA)); exact BK306.out) hb); have n7_ := Am (below_step (by repeat (first | (with_reducible first | exact HB.out | apply bA | apply bN | apply bD | refine bS ?_ GE288.out | refine bS ?_ GE293.out | refine bS ?_ GE298.out | refine bS ?_ GE306.out) | exact HB.out)) hb); clear HO_294000; clear HO_299000; clear HO_307000; clear BK288; clear BK293; clear BK298; clear BK306; clear HB; have HO_294000 := n0_; have HO_299000 := n1_; have HO_307000 := n2_; have BK288 := n3_; have BK293 := n4_; have BK298 := n5_; have BK306 := n6_; have HB := n7_; clear n0_ n1_ n2_ n3_ n4_ n5_ n6_ n7_; (try clear hb); (try clear hb2); (try clear hk); (try clear hi); have hnb58 := NB298_288.out; have hnc58 := NB288_298.out; have hnb59 := NB298_306.out; have hnc59 := NB306_298.out; have hcz60_0 : w57.cell? ⟨gb298, 0, none⟩ = some (.slice Ao28 t294.length co28) := (blk_cell BK298.out 0).trans rfl; have hfz60_0 := blk_frozen BK298.out 0) | ((with_reducible refine gate_callee (f := 21) rfl ?_); refine goesL_ (some 82) rfl rfl Try.func21 (by kernel_rfl) rfl #[.agg #[.slice Ao28 t294.length co28], .int .i64 (wrap64 ((wrap64 (1 + (wrap64 (Int.tmod a1 500)))) + (wrap64 (Int.tmod a2 900))))] rfl (by (try simp only [List.map_toArray, List.map_cons, List.map_nil]); first | done | rfl | (simp only [List.length_drop, List.length_take]; rfl)) ?_; (with_reducible refine (clock_Position.calls kj11 _ _ t294 (wrap64 ((wrap64 (1 + (wrap64 (Int.tmod a1 500)))) + (wrap64 (Int.tmod a2 900)))) t309 t310 _ ?side1 ?side2 A45.out).mono ?_); (case side1 => repeat (first | exact (Kd.R_reads' HO_299000.out).2.2 | (with_reducible refine Kd.C_alloc ?_ _) | (with_reducible refine Kd.C_drewN ?_ _) | (with_reducible refine Kd.C_drew ?_))); (case side2 => exact (Kd.R_reads' HO_299000.out).2.1); rintro e w61 ⟨rfl, hb⟩; refine ⟨_, rfl, ?_⟩; have n0_ := Am (Kd.R_below (by (with_reducible repeat (first | apply Kd.R_alloc | apply Kd.R_drewN | apply Kd.R_drew)); exact HO_294000.out) hb); have n1_ := Am (Kd.R_below (by (with_reducible repeat (first | apply Kd.R_alloc | apply Kd.R_drewN | apply Kd.R_drew)); exact HO_299000.out) hb); have n2_ := Am (Kd.R_below (by (with_reducible repeat (first | apply Kd.R_alloc | apply Kd.R_drewN | apply Kd.R_drew)); exact HO_307000.out) hb); have n3_ := Am (blk_below (g := gb288) (o := .cells #[.int .i64 t285, .int .i64 t286] 27 (0, 0)) (by (with_reducible repeat (first | apply kN | apply kD | apply kA)); exact BK288.out) hb); have n4_ := Am (blk_below (g := gb293) (o := .cells #[.slice Ao21 t289.length co21] 24 (0, 0)) (by (with_reducible repeat (first | apply kN | apply kD | apply kA)); exact BK293.out) hb); have n5_ := Am (blk_below (g := gb298) (o := .cells #[.slice Ao28 t294.length co28] 24 (0, 0)) (by (with_reducible repeat (first | apply kN | apply kD | apply kA)); exact BK298.out) hb); have n6_ := Am (blk_below (g := gb306) (o := .cells #[.slice Ao39 t302.length co39] 24 (0, 0)) (by (with_reducible repeat (first | apply kN | apply kD | apply kA)); exact BK306.out) hb); have n7_ := Am (below_step (by repeat (first | (with_reducible first | exact HB.out | apply bA | apply bN | apply bD | refine bS ?_ GE288.out | refine bS ?_ GE293.out | refine bS ?_ GE298.out | refine bS ?_ GE306.out) | exact HB.out)) hb); clear HO_294000; clear HO_299000; clear HO_307000; clear BK288; clear BK293; clear BK298; clear BK306; clear HB; have HO_294000 := n0_; have HO_299000 := n1_; have HO_307000 := n2_; have BK288 := n3_; have BK293 := n4_; have BK298 := n5_; have BK306 := n6_; have HB := n7_; clear n0_ n1_ n2_ n3_ n4_ n5_ n6_ n7_; (try clear hb); (try clear hb2); (try clear hk); (try clear hi); have hcz62_0 : w61.cell? ⟨gb293, 0, none⟩ = some (.slice Ao21 t289.length co21) := (blk_cell BK293.out 0).trans rfl; have hfz62_0 := blk_frozen BK293.out 0) | ((with_reducible refine gate_callee (f := 21) rfl ?_); refine goesL_ (some 88) rfl rfl Try.func21 (by kernel_rfl) rfl #[.agg #[.slice Ao21 t289.length co21], .int .i64 (wrap64 (1 + (wrap64 (Int.tmod a1 500))))] rfl (by (try simp only [List.map_toArray, List.map_cons, List.map_nil]); first | done | rfl | (simp only [List.length_drop, List.length_take]; rfl)) ?_; (with_reducible refine (clock_Position.calls kj11 _ _ t289 (wrap64 (1 + (wrap64 (Int.tmod a1 500)))) t311 t312 _ ?side1 ?side2 A46.out).mono ?_); (case side1 => repeat (first | exact (Kd.R_reads' HO_294000.out).2.2 | (with_reducible refine Kd.C_alloc ?_ _) | (with_reducible refine Kd.C_drewN ?_ _) | (with_reducible refine Kd.C_drew ?_))); (case side2 => exact (Kd.R_reads' HO_294000.out).2.1); rintro e w63 ⟨rfl, hb⟩; refine ⟨_, rfl, ?_⟩; have n0_ := Am (Kd.R_below (by (with_reducible repeat (first | apply Kd.R_alloc | apply Kd.R_drewN | apply Kd.R_drew)); exact HO_294000.out) hb); have n1_ := Am (Kd.R_below (by (with_reducible repeat (first | apply Kd.R_alloc | apply Kd.R_drewN | apply Kd.R_drew)); exact HO_299000.out) hb); have n2_ := Am (Kd.R_below (by (with_reducible repeat (first | apply Kd.R_alloc | apply Kd.R_drewN | apply Kd.R_drew)); exact HO_307000.out) hb); have n3_ := Am (blk_below (g := gb288) (o := .cells #[.int .i64 t285, .int .i64 t286] 27 (0, 0)) (by (with_reducible repeat (first | apply kN | apply kD | apply kA)); exact BK288.out) hb); have n4_ := Am (blk_below (g := gb293) (o := .cells #[.slice Ao21 t289.length co21] 24 (0, 0)) (by (with_reducible repeat (first | apply kN | apply kD | apply kA)); exact BK293.out) hb); have n5_ := Am (blk_below (g := gb298) (o := .cells #[.slice Ao28 t294.length co28] 24 (0, 0)) (by (with_reducible repeat (first | apply kN | apply kD | apply kA)); exact BK298.out) hb); have n6_ := Am (blk_below (g := gb306) (o := .cells #[.slice Ao39 t302.length co39] 24 (0, 0)) (by (with_reducible repeat (first | apply kN | apply kD | apply kA)); exact BK306.out) hb); have n7_ := Am (below_step (by repeat (first | (with_reducible first | exact HB.out | apply bA | apply bN | apply bD | refine bS ?_ GE288.out | refine bS ?_ GE293.out | refine bS ?_ GE298.out | refine bS ?_ GE306.out) | exact HB.out)) hb); clear HO_294000; clear HO_299000; clear HO_307000; clear BK288; clear BK293; clear BK298; clear BK306; clear HB; have HO_294000 := n0_; have HO_299000 := n1_; have HO_307000 := n2_; have BK288 := n3_; have BK293 := n4_; have BK298 := n5_; have BK306 := n6_; have HB := n7_; clear n0_ n1_ n2_ n3_ n4_ n5_ n6_ n7_; (try clear hb); (try clear hb2); (try clear hk); (try clear hi); have hnb64 := NB306_288.out; have hnc64 := NB288_306.out; have hcz65_0 : w63.cell? ⟨gb306, 0, none⟩ = some (.slice Ao39 t302.length co39) := (blk_cell BK306.out 0).trans rfl; have hfz65_0 := blk_frozen BK306.out 0) | ((with_reducible refine gate_callee (f := 21) rfl ?_); refine goesL_ (some 94) rfl rfl Try.func21 (by kernel_rfl) rfl #[.agg #[.slice Ao39 t302.length co39], .int .i64 (wrap64 (1 + (wrap64 (Int.tmod a1 500))))] rfl (by (try simp only [List.map_toArray, List.map_cons, List.map_nil]); first | done | rfl | (simp only [List.length_drop, List.length_take]; rfl)) ?_; (with_reducible refine (clock_Position.calls kj11 _ _ t302 (wrap64 (1 + (wrap64 (Int.tmod a1 500)))) t313 t314 _ ?side1 ?side2 A47.out).mono ?_); (case side1 => repeat (first | exact (Kd.R_reads' HO_307000.out).2.2 | (with_reducible refine Kd.C_alloc ?_ _) | (with_reducible refine Kd.C_drewN ?_ _) | (with_reducible refine Kd.C_drew ?_))); (case side2 => exact (Kd.R_reads' HO_307000.out).2.1); rintro e w66 ⟨rfl, hb⟩; refine ⟨_, rfl, ?_⟩; have n0_ := Am (Kd.R_below (by (with_reducible repeat (first | apply Kd.R_alloc | apply Kd.R_drewN | apply Kd.R_drew)); exact HO_294000.out) hb); have n1_ := Am (Kd.R_below (by (with_reducible repeat (first | apply Kd.R_alloc | apply Kd.R_drewN | apply Kd.R_drew)); exact HO_299000.out) hb); have n2_ := Am (Kd.R_below (by (with_reducible repeat (first | apply Kd.R_alloc | apply Kd.R_drewN | apply Kd.R_drew)); exact HO_307000.out) hb); have n3_ := Am (blk_below (g := gb288) (o := .cells #[.int .i64 t285, .int .i64 t286] 27 (0, 0)) (by (with_reducible repeat (first | apply kN | apply kD | apply kA)); exact BK288.out) hb); have n4_ := Am (blk_below (g := gb293) (o := .cells #[.slice Ao21 t289.length co21] 24 (0, 0)) (by (with_reducible repeat (first | apply kN | apply kD | apply kA)); exact BK293.out) hb); have n5_ := Am (blk_below (g := gb298) (o := .cells #[.slice Ao28 t294.length co28] 24 (0, 0)) (by (with_reducible repeat (first | apply kN | apply kD | apply kA)); exact BK298.out) hb); have n6_ := Am (blk_below (g := gb306) (o := .cells #[.slice Ao39 t302.length co39] 24 (0, 0)) (by (with_reducible repeat (first | apply kN | apply kD | apply kA)); exact BK306.out) hb); have n7_ := Am (below_step (by repeat (first | (with_reducible first | exact HB.out | apply bA | apply bN | apply bD | refine bS ?_ GE288.out | refine bS ?_ GE293.out | refine bS ?_ GE298.out | refine bS ?_ GE306.out) | exact HB.out)) hb); clear HO_294000; clear HO_299000; clear HO_307000; clear BK288; clear BK293; clear BK298; clear BK306; clear HB; have HO_294000 := n0_; have HO_299000 := n1_; have HO_307000 := n2_; have BK288 := n3_; have BK293 := n4_; have BK298 := n5_; have BK306 := n6_; have HB := n7_; clear n0_ n1_ n2_ n3_ n4_ n5_ n6_ n7_; (try clear hb); (try clear hb2); (try clear hk); (try clear hi)))
          go_ret
          exact ⟨by first | rfl | (simp [errW_none, errW_some] <;> rfl) | (simp [*, errW_none, errW_some] <;> rfl), by repeat (first | (with_reducible first | exact HB.out | apply bA | apply bN | apply bD | refine bS ?_ GE288.out | refine bS ?_ GE293.out | refine bS ?_ GE298.out | refine bS ?_ GE306.out) | exact HB.out)⟩
         ·rw [if_neg c52] at H
          have c52b0 : (t307 == t309) = false := beq_eq_false_iff_ne.mpr c52
          have c52b1 : (t307 != t309) = true := bne_iff_ne.mpr c52
          by_cases c67 : t307 = (wrap64 (t309 + 1))
          ·rw [if_pos c67] at H
           have c67b0 : (t307 == (wrap64 (t309 + 1))) = true := beq_iff_eq.mpr c67
           have c67b1 : (t307 != (wrap64 (t309 + 1))) = false := bne_eq_false_iff_eq.mpr c67
           clear c67
           obtain rfl := Option.some.inj H
           have hnb68 := NB293_288.out
           have hnc68 := NB288_293.out
           have hnb69 := NB293_298.out
           have hnc69 := NB298_293.out
           have hnb70 := NB293_306.out
           have hnc70 := NB306_293.out
           have hcz71_0 : wc.cell? ⟨gb293, 0, none⟩ = some (.slice Ao21 t289.length co21) := (blk_cell BK293.out 0).trans rfl
           have hfz71_0 := blk_frozen BK293.out 0
           go_wp2_with (first | ((with_reducible refine gate_callee (f := 21) rfl ?_); refine goesL_ (some 76) rfl rfl Try.func21 (by kernel_rfl) rfl #[.agg #[.slice Ao21 t289.length co21], .int .i64 (wrap64 ((wrap64 (1 + (wrap64 (Int.tmod a1 500)))) + (wrap64 (Int.tmod a2 900))))] rfl (by (try simp only [List.map_toArray, List.map_cons, List.map_nil]); first | done | rfl | (simp only [List.length_drop, List.length_take]; rfl)) ?_; (with_reducible refine (clock_Position.calls kj11 _ _ t289 (wrap64 ((wrap64 (1 + (wrap64 (Int.tmod a1 500)))) + (wrap64 (Int.tmod a2 900)))) t307 t308 _ ?side1 ?side2 A44.out).mono ?_); (case side1 => repeat (first | exact (Kd.R_reads' HO_294000.out).2.2 | (with_reducible refine Kd.C_alloc ?_ _) | (with_reducible refine Kd.C_drewN ?_ _) | (with_reducible refine Kd.C_drew ?_))); (case side2 => exact (Kd.R_reads' HO_294000.out).2.1); rintro e w72 ⟨rfl, hb⟩; refine ⟨_, rfl, ?_⟩; have n0_ := Am (Kd.R_below (by (with_reducible repeat (first | apply Kd.R_alloc | apply Kd.R_drewN | apply Kd.R_drew)); exact HO_294000.out) hb); have n1_ := Am (Kd.R_below (by (with_reducible repeat (first | apply Kd.R_alloc | apply Kd.R_drewN | apply Kd.R_drew)); exact HO_299000.out) hb); have n2_ := Am (Kd.R_below (by (with_reducible repeat (first | apply Kd.R_alloc | apply Kd.R_drewN | apply Kd.R_drew)); exact HO_307000.out) hb); have n3_ := Am (blk_below (g := gb288) (o := .cells #[.int .i64 t285, .int .i64 t286] 27 (0, 0)) (by (with_reducible repeat (first | apply kN | apply kD | apply kA)); exact BK288.out) hb); have n4_ := Am (blk_below (g := gb293) (o := .cells #[.slice Ao21 t289.length co21] 24 (0, 0)) (by (with_reducible repeat (first | apply kN | apply kD | apply kA)); exact BK293.out) hb); have n5_ := Am (blk_below (g := gb298) (o := .cells #[.slice Ao28 t294.length co28] 24 (0, 0)) (by (with_reducible repeat (first | apply kN | apply kD | apply kA)); exact BK298.out) hb); have n6_ := Am (blk_below (g := gb306) (o := .cells #[.slice Ao39 t302.length co39] 24 (0, 0)) (by (with_reducible repeat (first | apply kN | apply kD | apply kA)); exact BK306.out) hb); have n7_ := Am (below_step (by repeat (first | (with_reducible first | exact HB.out | apply bA | apply bN | apply bD | refine bS ?_ GE288.out | refine bS ?_ GE293.out | refine bS ?_ GE298.out | refine bS ?_ GE306.out) | exact HB.out)) hb); clear HO_294000; clear HO_299000; clear HO_307000; clear BK288; clear BK293; clear BK298; clear BK306; clear HB; have HO_294000 := n0_; have HO_299000 := n1_; have HO_307000 := n2_; have BK288 := n3_; have BK293 := n4_; have BK298 := n5_; have BK306 := n6_; have HB := n7_; clear n0_ n1_ n2_ n3_ n4_ n5_ n6_ n7_; (try clear hb); (try clear hb2); (try clear hk); (try clear hi); have hnb73 := NB298_288.out; have hnc73 := NB288_298.out; have hnb74 := NB298_306.out; have hnc74 := NB306_298.out; have hcz75_0 : w72.cell? ⟨gb298, 0, none⟩ = some (.slice Ao28 t294.length co28) := (blk_cell BK298.out 0).trans rfl; have hfz75_0 := blk_frozen BK298.out 0) | ((with_reducible refine gate_callee (f := 21) rfl ?_); refine goesL_ (some 82) rfl rfl Try.func21 (by kernel_rfl) rfl #[.agg #[.slice Ao28 t294.length co28], .int .i64 (wrap64 ((wrap64 (1 + (wrap64 (Int.tmod a1 500)))) + (wrap64 (Int.tmod a2 900))))] rfl (by (try simp only [List.map_toArray, List.map_cons, List.map_nil]); first | done | rfl | (simp only [List.length_drop, List.length_take]; rfl)) ?_; (with_reducible refine (clock_Position.calls kj11 _ _ t294 (wrap64 ((wrap64 (1 + (wrap64 (Int.tmod a1 500)))) + (wrap64 (Int.tmod a2 900)))) t309 t310 _ ?side1 ?side2 A45.out).mono ?_); (case side1 => repeat (first | exact (Kd.R_reads' HO_299000.out).2.2 | (with_reducible refine Kd.C_alloc ?_ _) | (with_reducible refine Kd.C_drewN ?_ _) | (with_reducible refine Kd.C_drew ?_))); (case side2 => exact (Kd.R_reads' HO_299000.out).2.1); rintro e w76 ⟨rfl, hb⟩; refine ⟨_, rfl, ?_⟩; have n0_ := Am (Kd.R_below (by (with_reducible repeat (first | apply Kd.R_alloc | apply Kd.R_drewN | apply Kd.R_drew)); exact HO_294000.out) hb); have n1_ := Am (Kd.R_below (by (with_reducible repeat (first | apply Kd.R_alloc | apply Kd.R_drewN | apply Kd.R_drew)); exact HO_299000.out) hb); have n2_ := Am (Kd.R_below (by (with_reducible repeat (first | apply Kd.R_alloc | apply Kd.R_drewN | apply Kd.R_drew)); exact HO_307000.out) hb); have n3_ := Am (blk_below (g := gb288) (o := .cells #[.int .i64 t285, .int .i64 t286] 27 (0, 0)) (by (with_reducible repeat (first | apply kN | apply kD | apply kA)); exact BK288.out) hb); have n4_ := Am (blk_below (g := gb293) (o := .cells #[.slice Ao21 t289.length co21] 24 (0, 0)) (by (with_reducible repeat (first | apply kN | apply kD | apply kA)); exact BK293.out) hb); have n5_ := Am (blk_below (g := gb298) (o := .cells #[.slice Ao28 t294.length co28] 24 (0, 0)) (by (with_reducible repeat (first | apply kN | apply kD | apply kA)); exact BK298.out) hb); have n6_ := Am (blk_below (g := gb306) (o := .cells #[.slice Ao39 t302.length co39] 24 (0, 0)) (by (with_reducible repeat (first | apply kN | apply kD | apply kA)); exact BK306.out) hb); have n7_ := Am (below_step (by repeat (first | (with_reducible first | exact HB.out | apply bA | apply bN | apply bD | refine bS ?_ GE288.out | refine bS ?_ GE293.out | refine bS ?_ GE298.out | refine bS ?_ GE306.out) | exact HB.out)) hb); clear HO_294000; clear HO_299000; clear HO_307000; clear BK288; clear BK293; clear BK298; clear BK306; clear HB; have HO_294000 := n0_; have HO_299000 := n1_; have HO_307000 := n2_; have BK288 := n3_; have BK293 := n4_; have BK298 := n5_; have BK306 := n6_; have HB := n7_; clear n0_ n1_ n2_ n3_ n4_ n5_ n6_ n7_; (try clear hb); (try clear hb2); (try clear hk); (try clear hi); have hcz77_0 : w76.cell? ⟨gb293, 0, none⟩ = some (.slice Ao21 t289.length co21) := (blk_cell BK293.out 0).trans rfl; have hfz77_0 := blk_frozen BK293.out 0) | ((with_reducible refine gate_callee (f := 21) rfl ?_); refine goesL_ (some 88) rfl rfl Try.func21 (by kernel_rfl) rfl #[.agg #[.slice Ao21 t289.length co21], .int .i64 (wrap64 (1 + (wrap64 (Int.tmod a1 500))))] rfl (by (try simp only [List.map_toArray, List.map_cons, List.map_nil]); first | done | rfl | (simp only [List.length_drop, List.length_take]; rfl)) ?_; (with_reducible refine (clock_Position.calls kj11 _ _ t289 (wrap64 (1 + (wrap64 (Int.tmod a1 500)))) t311 t312 _ ?side1 ?side2 A46.out).mono ?_); (case side1 => repeat (first | exact (Kd.R_reads' HO_294000.out).2.2 | (with_reducible refine Kd.C_alloc ?_ _) | (with_reducible refine Kd.C_drewN ?_ _) | (with_reducible refine Kd.C_drew ?_))); (case side2 => exact (Kd.R_reads' HO_294000.out).2.1); rintro e w78 ⟨rfl, hb⟩; refine ⟨_, rfl, ?_⟩; have n0_ := Am (Kd.R_below (by (with_reducible repeat (first | apply Kd.R_alloc | apply Kd.R_drewN | apply Kd.R_drew)); exact HO_294000.out) hb); have n1_ := Am (Kd.R_below (by (with_reducible repeat (first | apply Kd.R_alloc | apply Kd.R_drewN | apply Kd.R_drew)); exact HO_299000.out) hb); have n2_ := Am (Kd.R_below (by (with_reducible repeat (first | apply Kd.R_alloc | apply Kd.R_drewN | apply Kd.R_drew)); exact HO_307000.out) hb); have n3_ := Am (blk_below (g := gb288) (o := .cells #[.int .i64 t285, .int .i64 t286] 27 (0, 0)) (by (with_reducible repeat (first | apply kN | apply kD | apply kA)); exact BK288.out) hb); have n4_ := Am (blk_below (g := gb293) (o := .cells #[.slice Ao21 t289.length co21] 24 (0, 0)) (by (with_reducible repeat (first | apply kN | apply kD | apply kA)); exact BK293.out) hb); have n5_ := Am (blk_below (g := gb298) (o := .cells #[.slice Ao28 t294.length co28] 24 (0, 0)) (by (with_reducible repeat (first | apply kN | apply kD | apply kA)); exact BK298.out) hb); have n6_ := Am (blk_below (g := gb306) (o := .cells #[.slice Ao39 t302.length co39] 24 (0, 0)) (by (with_reducible repeat (first | apply kN | apply kD | apply kA)); exact BK306.out) hb); have n7_ := Am (below_step (by repeat (first | (with_reducible first | exact HB.out | apply bA | apply bN | apply bD | refine bS ?_ GE288.out | refine bS ?_ GE293.out | refine bS ?_ GE298.out | refine bS ?_ GE306.out) | exact HB.out)) hb); clear HO_294000; clear HO_299000; clear HO_307000; clear BK288; clear BK293; clear BK298; clear BK306; clear HB; have HO_294000 := n0_; have HO_299000 := n1_; have HO_307000 := n2_; have BK288 := n3_; have BK293 := n4_; have BK298 := n5_; have BK306 := n6_; have HB := n7_; clear n0_ n1_ n2_ n3_ n4_ n5_ n6_ n7_; (try clear hb); (try clear hb2); (try clear hk); (try clear hi); have hnb79 := NB306_288.out; have hnc79 := NB288_306.out; have hcz80_0 : w78.cell? ⟨gb306, 0, none⟩ = some (.slice Ao39 t302.length co39) := (blk_cell BK306.out 0).trans rfl; have hfz80_0 := blk_frozen BK306.out 0) | ((with_reducible refine gate_callee (f := 21) rfl ?_); refine goesL_ (some 94) rfl rfl Try.func21 (by kernel_rfl) rfl #[.agg #[.slice Ao39 t302.length co39], .int .i64 (wrap64 (1 + (wrap64 (Int.tmod a1 500))))] rfl (by (try simp only [List.map_toArray, List.map_cons, List.map_nil]); first | done | rfl | (simp only [List.length_drop, List.length_take]; rfl)) ?_; (with_reducible refine (clock_Position.calls kj11 _ _ t302 (wrap64 (1 + (wrap64 (Int.tmod a1 500)))) t313 t314 _ ?side1 ?side2 A47.out).mono ?_); (case side1 => repeat (first | exact (Kd.R_reads' HO_307000.out).2.2 | (with_reducible refine Kd.C_alloc ?_ _) | (with_reducible refine Kd.C_drewN ?_ _) | (with_reducible refine Kd.C_drew ?_))); (case side2 => exact (Kd.R_reads' HO_307000.out).2.1); rintro e w81 ⟨rfl, hb⟩; refine ⟨_, rfl, ?_⟩; have n0_ := Am (Kd.R_below (by (with_reducible repeat (first | apply Kd.R_alloc | apply Kd.R_drewN | apply Kd.R_drew)); exact HO_294000.out) hb); have n1_ := Am (Kd.R_below (by (with_reducible repeat (first | apply Kd.R_alloc | apply Kd.R_drewN | apply Kd.R_drew)); exact HO_299000.out) hb); have n2_ := Am (Kd.R_below (by (with_reducible repeat (first | apply Kd.R_alloc | apply Kd.R_drewN | apply Kd.R_drew)); exact HO_307000.out) hb); have n3_ := Am (blk_below (g := gb288) (o := .cells #[.int .i64 t285, .int .i64 t286] 27 (0, 0)) (by (with_reducible repeat (first | apply kN | apply kD | apply kA)); exact BK288.out) hb); have n4_ := Am (blk_below (g := gb293) (o := .cells #[.slice Ao21 t289.length co21] 24 (0, 0)) (by (with_reducible repeat (first | apply kN | apply kD | apply kA)); exact BK293.out) hb); have n5_ := Am (blk_below (g := gb298) (o := .cells #[.slice Ao28 t294.length co28] 24 (0, 0)) (by (with_reducible repeat (first | apply kN | apply kD | apply kA)); exact BK298.out) hb); have n6_ := Am (blk_below (g := gb306) (o := .cells #[.slice Ao39 t302.length co39] 24 (0, 0)) (by (with_reducible repeat (first | apply kN | apply kD | apply kA)); exact BK306.out) hb); have n7_ := Am (below_step (by repeat (first | (with_reducible first | exact HB.out | apply bA | apply bN | apply bD | refine bS ?_ GE288.out | refine bS ?_ GE293.out | refine bS ?_ GE298.out | refine bS ?_ GE306.out) | exact HB.out)) hb); clear HO_294000; clear HO_299000; clear HO_307000; clear BK288; clear BK293; clear BK298; clear BK306; clear HB; have HO_294000 := n0_; have HO_299000 := n1_; have HO_307000 := n2_; have BK288 := n3_; have BK293 := n4_; have BK298 := n5_; have BK306 := n6_; have HB := n7_; clear n0_ n1_ n2_ n3_ n4_ n5_ n6_ n7_; (try clear hb); (try clear hb2); (try clear hk); (try clear hi)))
           go_ret
           exact ⟨by first | rfl | (simp [errW_none, errW_some] <;> rfl) | (simp [*, errW_none, errW_some] <;> rfl), by repeat (first | (with_reducible first | exact HB.out | apply bA | apply bN | apply bD | refine bS ?_ GE288.out | refine bS ?_ GE293.out | refine bS ?_ GE298.out | refine bS ?_ GE306.out) | exact HB.out)⟩
          ·rw [if_neg c67] at H
           have c67b0 : (t307 == (wrap64 (t309 + 1))) = false := beq_eq_false_iff_ne.mpr c67
           have c67b1 : (t307 != (wrap64 (t309 + 1))) = true := bne_iff_ne.mpr c67
           obtain rfl := Option.some.inj H
           have hnb82 := NB293_288.out
           have hnc82 := NB288_293.out
           have hnb83 := NB293_298.out
           have hnc83 := NB298_293.out
           have hnb84 := NB293_306.out
           have hnc84 := NB306_293.out
           have hcz85_0 : wc.cell? ⟨gb293, 0, none⟩ = some (.slice Ao21 t289.length co21) := (blk_cell BK293.out 0).trans rfl
           have hfz85_0 := blk_frozen BK293.out 0
           go_wp2_with (first | ((with_reducible refine gate_callee (f := 21) rfl ?_); refine goesL_ (some 76) rfl rfl Try.func21 (by kernel_rfl) rfl #[.agg #[.slice Ao21 t289.length co21], .int .i64 (wrap64 ((wrap64 (1 + (wrap64 (Int.tmod a1 500)))) + (wrap64 (Int.tmod a2 900))))] rfl (by (try simp only [List.map_toArray, List.map_cons, List.map_nil]); first | done | rfl | (simp only [List.length_drop, List.length_take]; rfl)) ?_; (with_reducible refine (clock_Position.calls kj11 _ _ t289 (wrap64 ((wrap64 (1 + (wrap64 (Int.tmod a1 500)))) + (wrap64 (Int.tmod a2 900)))) t307 t308 _ ?side1 ?side2 A44.out).mono ?_); (case side1 => repeat (first | exact (Kd.R_reads' HO_294000.out).2.2 | (with_reducible refine Kd.C_alloc ?_ _) | (with_reducible refine Kd.C_drewN ?_ _) | (with_reducible refine Kd.C_drew ?_))); (case side2 => exact (Kd.R_reads' HO_294000.out).2.1); rintro e w86 ⟨rfl, hb⟩; refine ⟨_, rfl, ?_⟩; have n0_ := Am (Kd.R_below (by (with_reducible repeat (first | apply Kd.R_alloc | apply Kd.R_drewN | apply Kd.R_drew)); exact HO_294000.out) hb); have n1_ := Am (Kd.R_below (by (with_reducible repeat (first | apply Kd.R_alloc | apply Kd.R_drewN | apply Kd.R_drew)); exact HO_299000.out) hb); have n2_ := Am (Kd.R_below (by (with_reducible repeat (first | apply Kd.R_alloc | apply Kd.R_drewN | apply Kd.R_drew)); exact HO_307000.out) hb); have n3_ := Am (blk_below (g := gb288) (o := .cells #[.int .i64 t285, .int .i64 t286] 27 (0, 0)) (by (with_reducible repeat (first | apply kN | apply kD | apply kA)); exact BK288.out) hb); have n4_ := Am (blk_below (g := gb293) (o := .cells #[.slice Ao21 t289.length co21] 24 (0, 0)) (by (with_reducible repeat (first | apply kN | apply kD | apply kA)); exact BK293.out) hb); have n5_ := Am (blk_below (g := gb298) (o := .cells #[.slice Ao28 t294.length co28] 24 (0, 0)) (by (with_reducible repeat (first | apply kN | apply kD | apply kA)); exact BK298.out) hb); have n6_ := Am (blk_below (g := gb306) (o := .cells #[.slice Ao39 t302.length co39] 24 (0, 0)) (by (with_reducible repeat (first | apply kN | apply kD | apply kA)); exact BK306.out) hb); have n7_ := Am (below_step (by repeat (first | (with_reducible first | exact HB.out | apply bA | apply bN | apply bD | refine bS ?_ GE288.out | refine bS ?_ GE293.out | refine bS ?_ GE298.out | refine bS ?_ GE306.out) | exact HB.out)) hb); clear HO_294000; clear HO_299000; clear HO_307000; clear BK288; clear BK293; clear BK298; clear BK306; clear HB; have HO_294000 := n0_; have HO_299000 := n1_; have HO_307000 := n2_; have BK288 := n3_; have BK293 := n4_; have BK298 := n5_; have BK306 := n6_; have HB := n7_; clear n0_ n1_ n2_ n3_ n4_ n5_ n6_ n7_; (try clear hb); (try clear hb2); (try clear hk); (try clear hi); have hnb87 := NB298_288.out; have hnc87 := NB288_298.out; have hnb88 := NB298_306.out; have hnc88 := NB306_298.out; have hcz89_0 : w86.cell? ⟨gb298, 0, none⟩ = some (.slice Ao28 t294.length co28) := (blk_cell BK298.out 0).trans rfl; have hfz89_0 := blk_frozen BK298.out 0) | ((with_reducible refine gate_callee (f := 21) rfl ?_); refine goesL_ (some 82) rfl rfl Try.func21 (by kernel_rfl) rfl #[.agg #[.slice Ao28 t294.length co28], .int .i64 (wrap64 ((wrap64 (1 + (wrap64 (Int.tmod a1 500)))) + (wrap64 (Int.tmod a2 900))))] rfl (by (try simp only [List.map_toArray, List.map_cons, List.map_nil]); first | done | rfl | (simp only [List.length_drop, List.length_take]; rfl)) ?_; (with_reducible refine (clock_Position.calls kj11 _ _ t294 (wrap64 ((wrap64 (1 + (wrap64 (Int.tmod a1 500)))) + (wrap64 (Int.tmod a2 900)))) t309 t310 _ ?side1 ?side2 A45.out).mono ?_); (case side1 => repeat (first | exact (Kd.R_reads' HO_299000.out).2.2 | (with_reducible refine Kd.C_alloc ?_ _) | (with_reducible refine Kd.C_drewN ?_ _) | (with_reducible refine Kd.C_drew ?_))); (case side2 => exact (Kd.R_reads' HO_299000.out).2.1); rintro e w90 ⟨rfl, hb⟩; refine ⟨_, rfl, ?_⟩; have n0_ := Am (Kd.R_below (by (with_reducible repeat (first | apply Kd.R_alloc | apply Kd.R_drewN | apply Kd.R_drew)); exact HO_294000.out) hb); have n1_ := Am (Kd.R_below (by (with_reducible repeat (first | apply Kd.R_alloc | apply Kd.R_drewN | apply Kd.R_drew)); exact HO_299000.out) hb); have n2_ := Am (Kd.R_below (by (with_reducible repeat (first | apply Kd.R_alloc | apply Kd.R_drewN | apply Kd.R_drew)); exact HO_307000.out) hb); have n3_ := Am (blk_below (g := gb288) (o := .cells #[.int .i64 t285, .int .i64 t286] 27 (0, 0)) (by (with_reducible repeat (first | apply kN | apply kD | apply kA)); exact BK288.out) hb); have n4_ := Am (blk_below (g := gb293) (o := .cells #[.slice Ao21 t289.length co21] 24 (0, 0)) (by (with_reducible repeat (first | apply kN | apply kD | apply kA)); exact BK293.out) hb); have n5_ := Am (blk_below (g := gb298) (o := .cells #[.slice Ao28 t294.length co28] 24 (0, 0)) (by (with_reducible repeat (first | apply kN | apply kD | apply kA)); exact BK298.out) hb); have n6_ := Am (blk_below (g := gb306) (o := .cells #[.slice Ao39 t302.length co39] 24 (0, 0)) (by (with_reducible repeat (first | apply kN | apply kD | apply kA)); exact BK306.out) hb); have n7_ := Am (below_step (by repeat (first | (with_reducible first | exact HB.out | apply bA | apply bN | apply bD | refine bS ?_ GE288.out | refine bS ?_ GE293.out | refine bS ?_ GE298.out | refine bS ?_ GE306.out) | exact HB.out)) hb); clear HO_294000; clear HO_299000; clear HO_307000; clear BK288; clear BK293; clear BK298; clear BK306; clear HB; have HO_294000 := n0_; have HO_299000 := n1_; have HO_307000 := n2_; have BK288 := n3_; have BK293 := n4_; have BK298 := n5_; have BK306 := n6_; have HB := n7_; clear n0_ n1_ n2_ n3_ n4_ n5_ n6_ n7_; (try clear hb); (try clear hb2); (try clear hk); (try clear hi); have hcz91_0 : w90.cell? ⟨gb293, 0, none⟩ = some (.slice Ao21 t289.length co21) := (blk_cell BK293.out 0).trans rfl; have hfz91_0 := blk_frozen BK293.out 0) | ((with_reducible refine gate_callee (f := 21) rfl ?_); refine goesL_ (some 88) rfl rfl Try.func21 (by kernel_rfl) rfl #[.agg #[.slice Ao21 t289.length co21], .int .i64 (wrap64 (1 + (wrap64 (Int.tmod a1 500))))] rfl (by (try simp only [List.map_toArray, List.map_cons, List.map_nil]); first | done | rfl | (simp only [List.length_drop, List.length_take]; rfl)) ?_; (with_reducible refine (clock_Position.calls kj11 _ _ t289 (wrap64 (1 + (wrap64 (Int.tmod a1 500)))) t311 t312 _ ?side1 ?side2 A46.out).mono ?_); (case side1 => repeat (first | exact (Kd.R_reads' HO_294000.out).2.2 | (with_reducible refine Kd.C_alloc ?_ _) | (with_reducible refine Kd.C_drewN ?_ _) | (with_reducible refine Kd.C_drew ?_))); (case side2 => exact (Kd.R_reads' HO_294000.out).2.1); rintro e w92 ⟨rfl, hb⟩; refine ⟨_, rfl, ?_⟩; have n0_ := Am (Kd.R_below (by (with_reducible repeat (first | apply Kd.R_alloc | apply Kd.R_drewN | apply Kd.R_drew)); exact HO_294000.out) hb); have n1_ := Am (Kd.R_below (by (with_reducible repeat (first | apply Kd.R_alloc | apply Kd.R_drewN | apply Kd.R_drew)); exact HO_299000.out) hb); have n2_ := Am (Kd.R_below (by (with_reducible repeat (first | apply Kd.R_alloc | apply Kd.R_drewN | apply Kd.R_drew)); exact HO_307000.out) hb); have n3_ := Am (blk_below (g := gb288) (o := .cells #[.int .i64 t285, .int .i64 t286] 27 (0, 0)) (by (with_reducible repeat (first | apply kN | apply kD | apply kA)); exact BK288.out) hb); have n4_ := Am (blk_below (g := gb293) (o := .cells #[.slice Ao21 t289.length co21] 24 (0, 0)) (by (with_reducible repeat (first | apply kN | apply kD | apply kA)); exact BK293.out) hb); have n5_ := Am (blk_below (g := gb298) (o := .cells #[.slice Ao28 t294.length co28] 24 (0, 0)) (by (with_reducible repeat (first | apply kN | apply kD | apply kA)); exact BK298.out) hb); have n6_ := Am (blk_below (g := gb306) (o := .cells #[.slice Ao39 t302.length co39] 24 (0, 0)) (by (with_reducible repeat (first | apply kN | apply kD | apply kA)); exact BK306.out) hb); have n7_ := Am (below_step (by repeat (first | (with_reducible first | exact HB.out | apply bA | apply bN | apply bD | refine bS ?_ GE288.out | refine bS ?_ GE293.out | refine bS ?_ GE298.out | refine bS ?_ GE306.out) | exact HB.out)) hb); clear HO_294000; clear HO_299000; clear HO_307000; clear BK288; clear BK293; clear BK298; clear BK306; clear HB; have HO_294000 := n0_; have HO_299000 := n1_; have HO_307000 := n2_; have BK288 := n3_; have BK293 := n4_; have BK298 := n5_; have BK306 := n6_; have HB := n7_; clear n0_ n1_ n2_ n3_ n4_ n5_ n6_ n7_; (try clear hb); (try clear hb2); (try clear hk); (try clear hi); have hnb93 := NB306_288.out; have hnc93 := NB288_306.out; have hcz94_0 : w92.cell? ⟨gb306, 0, none⟩ = some (.slice Ao39 t302.length co39) := (blk_cell BK306.out 0).trans rfl; have hfz94_0 := blk_frozen BK306.out 0) | ((with_reducible refine gate_callee (f := 21) rfl ?_); refine goesL_ (some 94) rfl rfl Try.func21 (by kernel_rfl) rfl #[.agg #[.slice Ao39 t302.length co39], .int .i64 (wrap64 (1 + (wrap64 (Int.tmod a1 500))))] rfl (by (try simp only [List.map_toArray, List.map_cons, List.map_nil]); first | done | rfl | (simp only [List.length_drop, List.length_take]; rfl)) ?_; (with_reducible refine (clock_Position.calls kj11 _ _ t302 (wrap64 (1 + (wrap64 (Int.tmod a1 500)))) t313 t314 _ ?side1 ?side2 A47.out).mono ?_); (case side1 => repeat (first | exact (Kd.R_reads' HO_307000.out).2.2 | (with_reducible refine Kd.C_alloc ?_ _) | (with_reducible refine Kd.C_drewN ?_ _) | (with_reducible refine Kd.C_drew ?_))); (case side2 => exact (Kd.R_reads' HO_307000.out).2.1); rintro e w95 ⟨rfl, hb⟩; refine ⟨_, rfl, ?_⟩; have n0_ := Am (Kd.R_below (by (with_reducible repeat (first | apply Kd.R_alloc | apply Kd.R_drewN | apply Kd.R_drew)); exact HO_294000.out) hb); have n1_ := Am (Kd.R_below (by (with_reducible repeat (first | apply Kd.R_alloc | apply Kd.R_drewN | apply Kd.R_drew)); exact HO_299000.out) hb); have n2_ := Am (Kd.R_below (by (with_reducible repeat (first | apply Kd.R_alloc | apply Kd.R_drewN | apply Kd.R_drew)); exact HO_307000.out) hb); have n3_ := Am (blk_below (g := gb288) (o := .cells #[.int .i64 t285, .int .i64 t286] 27 (0, 0)) (by (with_reducible repeat (first | apply kN | apply kD | apply kA)); exact BK288.out) hb); have n4_ := Am (blk_below (g := gb293) (o := .cells #[.slice Ao21 t289.length co21] 24 (0, 0)) (by (with_reducible repeat (first | apply kN | apply kD | apply kA)); exact BK293.out) hb); have n5_ := Am (blk_below (g := gb298) (o := .cells #[.slice Ao28 t294.length co28] 24 (0, 0)) (by (with_reducible repeat (first | apply kN | apply kD | apply kA)); exact BK298.out) hb); have n6_ := Am (blk_below (g := gb306) (o := .cells #[.slice Ao39 t302.length co39] 24 (0, 0)) (by (with_reducible repeat (first | apply kN | apply kD | apply kA)); exact BK306.out) hb); have n7_ := Am (below_step (by repeat (first | (with_reducible first | exact HB.out | apply bA | apply bN | apply bD | refine bS ?_ GE288.out | refine bS ?_ GE293.out | refine bS ?_ GE298.out | refine bS ?_ GE306.out) | exact HB.out)) hb); clear HO_294000; clear HO_299000; clear HO_307000; clear BK288; clear BK293; clear BK298; clear BK306; clear HB; have HO_294000 := n0_; have HO_299000 := n1_; have HO_307000 := n2_; have BK288 := n3_; have BK293 := n4_; have BK298 := n5_; have BK306 := n6_; have HB := n7_; clear n0_ n1_ n2_ n3_ n4_ n5_ n6_ n7_; (try clear hb); (try clear hb2); (try clear hk); (try clear hi)))
           go_ret
           exact ⟨by first | rfl | (simp [errW_none, errW_some] <;> rfl) | (simp [*, errW_none, errW_some] <;> rfl), by repeat (first | (with_reducible first | exact HB.out | apply bA | apply bN | apply bD | refine bS ?_ GE288.out | refine bS ?_ GE293.out | refine bS ?_ GE298.out | refine bS ?_ GE306.out) | exact HB.out)⟩
        ·rw [if_neg c51] at H
         have c51b0 : (t314 == 0) = false := beq_eq_false_iff_ne.mpr c51
         have c51b1 : (t314 != 0) = true := bne_iff_ne.mpr c51
         obtain rfl := Option.some.inj H
         have hnb96 := NB293_288.out
         have hnc96 := NB288_293.out
         have hnb97 := NB293_298.out
         have hnc97 := NB298_293.out
         have hnb98 := NB293_306.out
         have hnc98 := NB306_293.out
         have hcz99_0 : wc.cell? ⟨gb293, 0, none⟩ = some (.slice Ao21 t289.length co21) := (blk_cell BK293.out 0).trans rfl
         have hfz99_0 := blk_frozen BK293.out 0
         go_wp2_with (first | ((with_reducible refine gate_callee (f := 21) rfl ?_); refine goesL_ (some 76) rfl rfl Try.func21 (by kernel_rfl) rfl #[.agg #[.slice Ao21 t289.length co21], .int .i64 (wrap64 ((wrap64 (1 + (wrap64 (Int.tmod a1 500)))) + (wrap64 (Int.tmod a2 900))))] rfl (by (try simp only [List.map_toArray, List.map_cons, List.map_nil]); first | done | rfl | (simp only [List.length_drop, List.length_take]; rfl)) ?_; (with_reducible refine (clock_Position.calls kj11 _ _ t289 (wrap64 ((wrap64 (1 + (wrap64 (Int.tmod a1 500)))) + (wrap64 (Int.tmod a2 900)))) t307 t308 _ ?side1 ?side2 A44.out).mono ?_); (case side1 => repeat (first | exact (Kd.R_reads' HO_294000.out).2.2 | (with_reducible refine Kd.C_alloc ?_ _) | (with_reducible refine Kd.C_drewN ?_ _) | (with_reducible refine Kd.C_drew ?_))); (case side2 => exact (Kd.R_reads' HO_294000.out).2.1); rintro e w100 ⟨rfl, hb⟩; refine ⟨_, rfl, ?_⟩; have n0_ := Am (Kd.R_below (by (with_reducible repeat (first | apply Kd.R_alloc | apply Kd.R_drewN | apply Kd.R_drew)); exact HO_294000.out) hb); have n1_ := Am (Kd.R_below (by (with_reducible repeat (first | apply Kd.R_alloc | apply Kd.R_drewN | apply Kd.R_drew)); exact HO_299000.out) hb); have n2_ := Am (Kd.R_below (by (with_reducible repeat (first | apply Kd.R_alloc | apply Kd.R_drewN | apply Kd.R_drew)); exact HO_307000.out) hb); have n3_ := Am (blk_below (g := gb288) (o := .cells #[.int .i64 t285, .int .i64 t286] 27 (0, 0)) (by (with_reducible repeat (first | apply kN | apply kD | apply kA)); exact BK288.out) hb); have n4_ := Am (blk_below (g := gb293) (o := .cells #[.slice Ao21 t289.length co21] 24 (0, 0)) (by (with_reducible repeat (first | apply kN | apply kD | apply kA)); exact BK293.out) hb); have n5_ := Am (blk_below (g := gb298) (o := .cells #[.slice Ao28 t294.length co28] 24 (0, 0)) (by (with_reducible repeat (first | apply kN | apply kD | apply kA)); exact BK298.out) hb); have n6_ := Am (blk_below (g := gb306) (o := .cells #[.slice Ao39 t302.length co39] 24 (0, 0)) (by (with_reducible repeat (first | apply kN | apply kD | apply kA)); exact BK306.out) hb); have n7_ := Am (below_step (by repeat (first | (with_reducible first | exact HB.out | apply bA | apply bN | apply bD | refine bS ?_ GE288.out | refine bS ?_ GE293.out | refine bS ?_ GE298.out | refine bS ?_ GE306.out) | exact HB.out)) hb); clear HO_294000; clear HO_299000; clear HO_307000; clear BK288; clear BK293; clear BK298; clear BK306; clear HB; have HO_294000 := n0_; have HO_299000 := n1_; have HO_307000 := n2_; have BK288 := n3_; have BK293 := n4_; have BK298 := n5_; have BK306 := n6_; have HB := n7_; clear n0_ n1_ n2_ n3_ n4_ n5_ n6_ n7_; (try clear hb); (try clear hb2); (try clear hk); (try clear hi); have hnb101 := NB298_288.out; have hnc101 := NB288_298.out; have hnb102 := NB298_306.out; have hnc102 := NB306_298.out; have hcz103_0 : w100.cell? ⟨gb298, 0, none⟩ = some (.slice Ao28 t294.length co28) := (blk_cell BK298.out 0).trans rfl; have hfz103_0 := blk_frozen BK298.out 0) | ((with_reducible refine gate_callee (f := 21) rfl ?_); refine goesL_ (some 82) rfl rfl Try.func21 (by kernel_rfl) rfl #[.agg #[.slice Ao28 t294.length co28], .int .i64 (wrap64 ((wrap64 (1 + (wrap64 (Int.tmod a1 500)))) + (wrap64 (Int.tmod a2 900))))] rfl (by (try simp only [List.map_toArray, List.map_cons, List.map_nil]); first | done | rfl | (simp only [List.length_drop, List.length_take]; rfl)) ?_; (with_reducible refine (clock_Position.calls kj11 _ _ t294 (wrap64 ((wrap64 (1 + (wrap64 (Int.tmod a1 500)))) + (wrap64 (Int.tmod a2 900)))) t309 t310 _ ?side1 ?side2 A45.out).mono ?_); (case side1 => repeat (first | exact (Kd.R_reads' HO_299000.out).2.2 | (with_reducible refine Kd.C_alloc ?_ _) | (with_reducible refine Kd.C_drewN ?_ _) | (with_reducible refine Kd.C_drew ?_))); (case side2 => exact (Kd.R_reads' HO_299000.out).2.1); rintro e w104 ⟨rfl, hb⟩; refine ⟨_, rfl, ?_⟩; have n0_ := Am (Kd.R_below (by (with_reducible repeat (first | apply Kd.R_alloc | apply Kd.R_drewN | apply Kd.R_drew)); exact HO_294000.out) hb); have n1_ := Am (Kd.R_below (by (with_reducible repeat (first | apply Kd.R_alloc | apply Kd.R_drewN | apply Kd.R_drew)); exact HO_299000.out) hb); have n2_ := Am (Kd.R_below (by (with_reducible repeat (first | apply Kd.R_alloc | apply Kd.R_drewN | apply Kd.R_drew)); exact HO_307000.out) hb); have n3_ := Am (blk_below (g := gb288) (o := .cells #[.int .i64 t285, .int .i64 t286] 27 (0, 0)) (by (with_reducible repeat (first | apply kN | apply kD | apply kA)); exact BK288.out) hb); have n4_ := Am (blk_below (g := gb293) (o := .cells #[.slice Ao21 t289.length co21] 24 (0, 0)) (by (with_reducible repeat (first | apply kN | apply kD | apply kA)); exact BK293.out) hb); have n5_ := Am (blk_below (g := gb298) (o := .cells #[.slice Ao28 t294.length co28] 24 (0, 0)) (by (with_reducible repeat (first | apply kN | apply kD | apply kA)); exact BK298.out) hb); have n6_ := Am (blk_below (g := gb306) (o := .cells #[.slice Ao39 t302.length co39] 24 (0, 0)) (by (with_reducible repeat (first | apply kN | apply kD | apply kA)); exact BK306.out) hb); have n7_ := Am (below_step (by repeat (first | (with_reducible first | exact HB.out | apply bA | apply bN | apply bD | refine bS ?_ GE288.out | refine bS ?_ GE293.out | refine bS ?_ GE298.out | refine bS ?_ GE306.out) | exact HB.out)) hb); clear HO_294000; clear HO_299000; clear HO_307000; clear BK288; clear BK293; clear BK298; clear BK306; clear HB; have HO_294000 := n0_; have HO_299000 := n1_; have HO_307000 := n2_; have BK288 := n3_; have BK293 := n4_; have BK298 := n5_; have BK306 := n6_; have HB := n7_; clear n0_ n1_ n2_ n3_ n4_ n5_ n6_ n7_; (try clear hb); (try clear hb2); (try clear hk); (try clear hi); have hcz105_0 : w104.cell? ⟨gb293, 0, none⟩ = some (.slice Ao21 t289.length co21) := (blk_cell BK293.out 0).trans rfl; have hfz105_0 := blk_frozen BK293.out 0) | ((with_reducible refine gate_callee (f := 21) rfl ?_); refine goesL_ (some 88) rfl rfl Try.func21 (by kernel_rfl) rfl #[.agg #[.slice Ao21 t289.length co21], .int .i64 (wrap64 (1 + (wrap64 (Int.tmod a1 500))))] rfl (by (try simp only [List.map_toArray, List.map_cons, List.map_nil]); first | done | rfl | (simp only [List.length_drop, List.length_take]; rfl)) ?_; (with_reducible refine (clock_Position.calls kj11 _ _ t289 (wrap64 (1 + (wrap64 (Int.tmod a1 500)))) t311 t312 _ ?side1 ?side2 A46.out).mono ?_); (case side1 => repeat (first | exact (Kd.R_reads' HO_294000.out).2.2 | (with_reducible refine Kd.C_alloc ?_ _) | (with_reducible refine Kd.C_drewN ?_ _) | (with_reducible refine Kd.C_drew ?_))); (case side2 => exact (Kd.R_reads' HO_294000.out).2.1); rintro e w106 ⟨rfl, hb⟩; refine ⟨_, rfl, ?_⟩; have n0_ := Am (Kd.R_below (by (with_reducible repeat (first | apply Kd.R_alloc | apply Kd.R_drewN | apply Kd.R_drew)); exact HO_294000.out) hb); have n1_ := Am (Kd.R_below (by (with_reducible repeat (first | apply Kd.R_alloc | apply Kd.R_drewN | apply Kd.R_drew)); exact HO_299000.out) hb); have n2_ := Am (Kd.R_below (by (with_reducible repeat (first | apply Kd.R_alloc | apply Kd.R_drewN | apply Kd.R_drew)); exact HO_307000.out) hb); have n3_ := Am (blk_below (g := gb288) (o := .cells #[.int .i64 t285, .int .i64 t286] 27 (0, 0)) (by (with_reducible repeat (first | apply kN | apply kD | apply kA)); exact BK288.out) hb); have n4_ := Am (blk_below (g := gb293) (o := .cells #[.slice Ao21 t289.length co21] 24 (0, 0)) (by (with_reducible repeat (first | apply kN | apply kD | apply kA)); exact BK293.out) hb); have n5_ := Am (blk_below (g := gb298) (o := .cells #[.slice Ao28 t294.length co28] 24 (0, 0)) (by (with_reducible repeat (first | apply kN | apply kD | apply kA)); exact BK298.out) hb); have n6_ := Am (blk_below (g := gb306) (o := .cells #[.slice Ao39 t302.length co39] 24 (0, 0)) (by (with_reducible repeat (first | apply kN | apply kD | apply kA)); exact BK306.out) hb); have n7_ := Am (below_step (by repeat (first | (with_reducible first | exact HB.out | apply bA | apply bN | apply bD | refine bS ?_ GE288.out | refine bS ?_ GE293.out | refine bS ?_ GE298.out | refine bS ?_ GE306.out) | exact HB.out)) hb); clear HO_294000; clear HO_299000; clear HO_307000; clear BK288; clear BK293; clear BK298; clear BK306; clear HB; have HO_294000 := n0_; have HO_299000 := n1_; have HO_307000 := n2_; have BK288 := n3_; have BK293 := n4_; have BK298 := n5_; have BK306 := n6_; have HB := n7_; clear n0_ n1_ n2_ n3_ n4_ n5_ n6_ n7_; (try clear hb); (try clear hb2); (try clear hk); (try clear hi); have hnb107 := NB306_288.out; have hnc107 := NB288_306.out; have hcz108_0 : w106.cell? ⟨gb306, 0, none⟩ = some (.slice Ao39 t302.length co39) := (blk_cell BK306.out 0).trans rfl; have hfz108_0 := blk_frozen BK306.out 0) | ((with_reducible refine gate_callee (f := 21) rfl ?_); refine goesL_ (some 94) rfl rfl Try.func21 (by kernel_rfl) rfl #[.agg #[.slice Ao39 t302.length co39], .int .i64 (wrap64 (1 + (wrap64 (Int.tmod a1 500))))] rfl (by (try simp only [List.map_toArray, List.map_cons, List.map_nil]); first | done | rfl | (simp only [List.length_drop, List.length_take]; rfl)) ?_; (with_reducible refine (clock_Position.calls kj11 _ _ t302 (wrap64 (1 + (wrap64 (Int.tmod a1 500)))) t313 t314 _ ?side1 ?side2 A47.out).mono ?_); (case side1 => repeat (first | exact (Kd.R_reads' HO_307000.out).2.2 | (with_reducible refine Kd.C_alloc ?_ _) | (with_reducible refine Kd.C_drewN ?_ _) | (with_reducible refine Kd.C_drew ?_))); (case side2 => exact (Kd.R_reads' HO_307000.out).2.1); rintro e w109 ⟨rfl, hb⟩; refine ⟨_, rfl, ?_⟩; have n0_ := Am (Kd.R_below (by (with_reducible repeat (first | apply Kd.R_alloc | apply Kd.R_drewN | apply Kd.R_drew)); exact HO_294000.out) hb); have n1_ := Am (Kd.R_below (by (with_reducible repeat (first | apply Kd.R_alloc | apply Kd.R_drewN | apply Kd.R_drew)); exact HO_299000.out) hb); have n2_ := Am (Kd.R_below (by (with_reducible repeat (first | apply Kd.R_alloc | apply Kd.R_drewN | apply Kd.R_drew)); exact HO_307000.out) hb); have n3_ := Am (blk_below (g := gb288) (o := .cells #[.int .i64 t285, .int .i64 t286] 27 (0, 0)) (by (with_reducible repeat (first | apply kN | apply kD | apply kA)); exact BK288.out) hb); have n4_ := Am (blk_below (g := gb293) (o := .cells #[.slice Ao21 t289.length co21] 24 (0, 0)) (by (with_reducible repeat (first | apply kN | apply kD | apply kA)); exact BK293.out) hb); have n5_ := Am (blk_below (g := gb298) (o := .cells #[.slice Ao28 t294.length co28] 24 (0, 0)) (by (with_reducible repeat (first | apply kN | apply kD | apply kA)); exact BK298.out) hb); have n6_ := Am (blk_below (g := gb306) (o := .cells #[.slice Ao39 t302.length co39] 24 (0, 0)) (by (with_reducible repeat (first | apply kN | apply kD | apply kA)); exact BK306.out) hb); have n7_ := Am (below_step (by repeat (first | (with_reducible first | exact HB.out | apply bA | apply bN | apply bD | refine bS ?_ GE288.out | refine bS ?_ GE293.out | refine bS ?_ GE298.out | refine bS ?_ GE306.out) | exact HB.out)) hb); clear HO_294000; clear HO_299000; clear HO_307000; clear BK288; clear BK293; clear BK298; clear BK306; clear HB; have HO_294000 := n0_; have HO_299000 := n1_; have HO_307000 := n2_; have BK288 := n3_; have BK293 := n4_; have BK298 := n5_; have BK306 := n6_; have HB := n7_; clear n0_ n1_ n2_ n3_ n4_ n5_ n6_ n7_; (try clear hb); (try clear hb2); (try clear hk); (try clear hi)))
         go_ret
         exact ⟨by first | rfl | (simp [errW_none, errW_some] <;> rfl) | (simp [*, errW_none, errW_some] <;> rfl), by repeat (first | (with_reducible first | exact HB.out | apply bA | apply bN | apply bD | refine bS ?_ GE288.out | refine bS ?_ GE293.out | refine bS ?_ GE298.out | refine bS ?_ GE306.out) | exact HB.out)⟩
       ·rw [if_neg c50] at H
        have c50b0 : (t312 == 0) = false := beq_eq_false_iff_ne.mpr c50
        have c50b1 : (t312 != 0) = true := bne_iff_ne.mpr c50
        obtain rfl := Option.some.inj H
        have hnb110 := NB293_288.out
        have hnc110 := NB288_293.out
        have hnb111 := NB293_298.out
        have hnc111 := NB298_293.out
        have hnb112 := NB293_306.out
        have hnc112 := NB306_293.out
        have hcz113_0 : wc.cell? ⟨gb293, 0, none⟩ = some (.slice Ao21 t289.length co21) := (blk_cell BK293.out 0).trans rfl
        have hfz113_0 := blk_frozen BK293.out 0
        go_wp2_with (first | ((with_reducible refine gate_callee (f := 21) rfl ?_); refine goesL_ (some 76) rfl rfl Try.func21 (by kernel_rfl) rfl #[.agg #[.slice Ao21 t289.length co21], .int .i64 (wrap64 ((wrap64 (1 + (wrap64 (Int.tmod a1 500)))) + (wrap64 (Int.tmod a2 900))))] rfl (by (try simp only [List.map_toArray, List.map_cons, List.map_nil]); first | done | rfl | (simp only [List.length_drop, List.length_take]; rfl)) ?_; (with_reducible refine (clock_Position.calls kj11 _ _ t289 (wrap64 ((wrap64 (1 + (wrap64 (Int.tmod a1 500)))) + (wrap64 (Int.tmod a2 900)))) t307 t308 _ ?side1 ?side2 A44.out).mono ?_); (case side1 => repeat (first | exact (Kd.R_reads' HO_294000.out).2.2 | (with_reducible refine Kd.C_alloc ?_ _) | (with_reducible refine Kd.C_drewN ?_ _) | (with_reducible refine Kd.C_drew ?_))); (case side2 => exact (Kd.R_reads' HO_294000.out).2.1); rintro e w114 ⟨rfl, hb⟩; refine ⟨_, rfl, ?_⟩; have n0_ := Am (Kd.R_below (by (with_reducible repeat (first | apply Kd.R_alloc | apply Kd.R_drewN | apply Kd.R_drew)); exact HO_294000.out) hb); have n1_ := Am (Kd.R_below (by (with_reducible repeat (first | apply Kd.R_alloc | apply Kd.R_drewN | apply Kd.R_drew)); exact HO_299000.out) hb); have n2_ := Am (Kd.R_below (by (with_reducible repeat (first | apply Kd.R_alloc | apply Kd.R_drewN | apply Kd.R_drew)); exact HO_307000.out) hb); have n3_ := Am (blk_below (g := gb288) (o := .cells #[.int .i64 t285, .int .i64 t286] 27 (0, 0)) (by (with_reducible repeat (first | apply kN | apply kD | apply kA)); exact BK288.out) hb); have n4_ := Am (blk_below (g := gb293) (o := .cells #[.slice Ao21 t289.length co21] 24 (0, 0)) (by (with_reducible repeat (first | apply kN | apply kD | apply kA)); exact BK293.out) hb); have n5_ := Am (blk_below (g := gb298) (o := .cells #[.slice Ao28 t294.length co28] 24 (0, 0)) (by (with_reducible repeat (first | apply kN | apply kD | apply kA)); exact BK298.out) hb); have n6_ := Am (blk_below (g := gb306) (o := .cells #[.slice Ao39 t302.length co39] 24 (0, 0)) (by (with_reducible repeat (first | apply kN | apply kD | apply kA)); exact BK306.out) hb); have n7_ := Am (below_step (by repeat (first | (with_reducible first | exact HB.out | apply bA | apply bN | apply bD | refine bS ?_ GE288.out | refine bS ?_ GE293.out | refine bS ?_ GE298.out | refine bS ?_ GE306.out) | exact HB.out)) hb); clear HO_294000; clear HO_299000; clear HO_307000; clear BK288; clear BK293; clear BK298; clear BK306; clear HB; have HO_294000 := n0_; have HO_299000 := n1_; have HO_307000 := n2_; have BK288 := n3_; have BK293 := n4_; have BK298 := n5_; have BK306 := n6_; have HB := n7_; clear n0_ n1_ n2_ n3_ n4_ n5_ n6_ n7_; (try clear hb); (try clear hb2); (try clear hk); (try clear hi); have hnb115 := NB298_288.out; have hnc115 := NB288_298.out; have hnb116 := NB298_306.out; have hnc116 := NB306_298.out; have hcz117_0 : w114.cell? ⟨gb298, 0, none⟩ = some (.slice Ao28 t294.length co28) := (blk_cell BK298.out 0).trans rfl; have hfz117_0 := blk_frozen BK298.out 0) | ((with_reducible refine gate_callee (f := 21) rfl ?_); refine goesL_ (some 82) rfl rfl Try.func21 (by kernel_rfl) rfl #[.agg #[.slice Ao28 t294.length co28], .int .i64 (wrap64 ((wrap64 (1 + (wrap64 (Int.tmod a1 500)))) + (wrap64 (Int.tmod a2 900))))] rfl (by (try simp only [List.map_toArray, List.map_cons, List.map_nil]); first | done | rfl | (simp only [List.length_drop, List.length_take]; rfl)) ?_; (with_reducible refine (clock_Position.calls kj11 _ _ t294 (wrap64 ((wrap64 (1 + (wrap64 (Int.tmod a1 500)))) + (wrap64 (Int.tmod a2 900)))) t309 t310 _ ?side1 ?side2 A45.out).mono ?_); (case side1 => repeat (first | exact (Kd.R_reads' HO_299000.out).2.2 | (with_reducible refine Kd.C_alloc ?_ _) | (with_reducible refine Kd.C_drewN ?_ _) | (with_reducible refine Kd.C_drew ?_))); (case side2 => exact (Kd.R_reads' HO_299000.out).2.1); rintro e w118 ⟨rfl, hb⟩; refine ⟨_, rfl, ?_⟩; have n0_ := Am (Kd.R_below (by (with_reducible repeat (first | apply Kd.R_alloc | apply Kd.R_drewN | apply Kd.R_drew)); exact HO_294000.out) hb); have n1_ := Am (Kd.R_below (by (with_reducible repeat (first | apply Kd.R_alloc | apply Kd.R_drewN | apply Kd.R_drew)); exact HO_299000.out) hb); have n2_ := Am (Kd.R_below (by (with_reducible repeat (first | apply Kd.R_alloc | apply Kd.R_drewN | apply Kd.R_drew)); exact HO_307000.out) hb); have n3_ := Am (blk_below (g := gb288) (o := .cells #[.int .i64 t285, .int .i64 t286] 27 (0, 0)) (by (with_reducible repeat (first | apply kN | apply kD | apply kA)); exact BK288.out) hb); have n4_ := Am (blk_below (g := gb293) (o := .cells #[.slice Ao21 t289.length co21] 24 (0, 0)) (by (with_reducible repeat (first | apply kN | apply kD | apply kA)); exact BK293.out) hb); have n5_ := Am (blk_below (g := gb298) (o := .cells #[.slice Ao28 t294.length co28] 24 (0, 0)) (by (with_reducible repeat (first | apply kN | apply kD | apply kA)); exact BK298.out) hb); have n6_ := Am (blk_below (g := gb306) (o := .cells #[.slice Ao39 t302.length co39] 24 (0, 0)) (by (with_reducible repeat (first | apply kN | apply kD | apply kA)); exact BK306.out) hb); have n7_ := Am (below_step (by repeat (first | (with_reducible first | exact HB.out | apply bA | apply bN | apply bD | refine bS ?_ GE288.out | refine bS ?_ GE293.out | refine bS ?_ GE298.out | refine bS ?_ GE306.out) | exact HB.out)) hb); clear HO_294000; clear HO_299000; clear HO_307000; clear BK288; clear BK293; clear BK298; clear BK306; clear HB; have HO_294000 := n0_; have HO_299000 := n1_; have HO_307000 := n2_; have BK288 := n3_; have BK293 := n4_; have BK298 := n5_; have BK306 := n6_; have HB := n7_; clear n0_ n1_ n2_ n3_ n4_ n5_ n6_ n7_; (try clear hb); (try clear hb2); (try clear hk); (try clear hi); have hcz119_0 : w118.cell? ⟨gb293, 0, none⟩ = some (.slice Ao21 t289.length co21) := (blk_cell BK293.out 0).trans rfl; have hfz119_0 := blk_frozen BK293.out 0) | ((with_reducible refine gate_callee (f := 21) rfl ?_); refine goesL_ (some 88) rfl rfl Try.func21 (by kernel_rfl) rfl #[.agg #[.slice Ao21 t289.length co21], .int .i64 (wrap64 (1 + (wrap64 (Int.tmod a1 500))))] rfl (by (try simp only [List.map_toArray, List.map_cons, List.map_nil]); first | done | rfl | (simp only [List.length_drop, List.length_take]; rfl)) ?_; (with_reducible refine (clock_Position.calls kj11 _ _ t289 (wrap64 (1 + (wrap64 (Int.tmod a1 500)))) t311 t312 _ ?side1 ?side2 A46.out).mono ?_); (case side1 => repeat (first | exact (Kd.R_reads' HO_294000.out).2.2 | (with_reducible refine Kd.C_alloc ?_ _) | (with_reducible refine Kd.C_drewN ?_ _) | (with_reducible refine Kd.C_drew ?_))); (case side2 => exact (Kd.R_reads' HO_294000.out).2.1); rintro e w120 ⟨rfl, hb⟩; refine ⟨_, rfl, ?_⟩; have n0_ := Am (Kd.R_below (by (with_reducible repeat (first | apply Kd.R_alloc | apply Kd.R_drewN | apply Kd.R_drew)); exact HO_294000.out) hb); have n1_ := Am (Kd.R_below (by (with_reducible repeat (first | apply Kd.R_alloc | apply Kd.R_drewN | apply Kd.R_drew)); exact HO_299000.out) hb); have n2_ := Am (Kd.R_below (by (with_reducible repeat (first | apply Kd.R_alloc | apply Kd.R_drewN | apply Kd.R_drew)); exact HO_307000.out) hb); have n3_ := Am (blk_below (g := gb288) (o := .cells #[.int .i64 t285, .int .i64 t286] 27 (0, 0)) (by (with_reducible repeat (first | apply kN | apply kD | apply kA)); exact BK288.out) hb); have n4_ := Am (blk_below (g := gb293) (o := .cells #[.slice Ao21 t289.length co21] 24 (0, 0)) (by (with_reducible repeat (first | apply kN | apply kD | apply kA)); exact BK293.out) hb); have n5_ := Am (blk_below (g := gb298) (o := .cells #[.slice Ao28 t294.length co28] 24 (0, 0)) (by (with_reducible repeat (first | apply kN | apply kD | apply kA)); exact BK298.out) hb); have n6_ := Am (blk_below (g := gb306) (o := .cells #[.slice Ao39 t302.length co39] 24 (0, 0)) (by (with_reducible repeat (first | apply kN | apply kD | apply kA)); exact BK306.out) hb); have n7_ := Am (below_step (by repeat (first | (with_reducible first | exact HB.out | apply bA | apply bN | apply bD | refine bS ?_ GE288.out | refine bS ?_ GE293.out | refine bS ?_ GE298.out | refine bS ?_ GE306.out) | exact HB.out)) hb); clear HO_294000; clear HO_299000; clear HO_307000; clear BK288; clear BK293; clear BK298; clear BK306; clear HB; have HO_294000 := n0_; have HO_299000 := n1_; have HO_307000 := n2_; have BK288 := n3_; have BK293 := n4_; have BK298 := n5_; have BK306 := n6_; have HB := n7_; clear n0_ n1_ n2_ n3_ n4_ n5_ n6_ n7_; (try clear hb); (try clear hb2); (try clear hk); (try clear hi); have hnb121 := NB306_288.out; have hnc121 := NB288_306.out; have hcz122_0 : w120.cell? ⟨gb306, 0, none⟩ = some (.slice Ao39 t302.length co39) := (blk_cell BK306.out 0).trans rfl; have hfz122_0 := blk_frozen BK306.out 0) | ((with_reducible refine gate_callee (f := 21) rfl ?_); refine goesL_ (some 94) rfl rfl Try.func21 (by kernel_rfl) rfl #[.agg #[.slice Ao39 t302.length co39], .int .i64 (wrap64 (1 + (wrap64 (Int.tmod a1 500))))] rfl (by (try simp only [List.map_toArray, List.map_cons, List.map_nil]); first | done | rfl | (simp only [List.length_drop, List.length_take]; rfl)) ?_; (with_reducible refine (clock_Position.calls kj11 _ _ t302 (wrap64 (1 + (wrap64 (Int.tmod a1 500)))) t313 t314 _ ?side1 ?side2 A47.out).mono ?_); (case side1 => repeat (first | exact (Kd.R_reads' HO_307000.out).2.2 | (with_reducible refine Kd.C_alloc ?_ _) | (with_reducible refine Kd.C_drewN ?_ _) | (with_reducible refine Kd.C_drew ?_))); (case side2 => exact (Kd.R_reads' HO_307000.out).2.1); rintro e w123 ⟨rfl, hb⟩; refine ⟨_, rfl, ?_⟩; have n0_ := Am (Kd.R_below (by (with_reducible repeat (first | apply Kd.R_alloc | apply Kd.R_drewN | apply Kd.R_drew)); exact HO_294000.out) hb); have n1_ := Am (Kd.R_below (by (with_reducible repeat (first | apply Kd.R_alloc | apply Kd.R_drewN | apply Kd.R_drew)); exact HO_299000.out) hb); have n2_ := Am (Kd.R_below (by (with_reducible repeat (first | apply Kd.R_alloc | apply Kd.R_drewN | apply Kd.R_drew)); exact HO_307000.out) hb); have n3_ := Am (blk_below (g := gb288) (o := .cells #[.int .i64 t285, .int .i64 t286] 27 (0, 0)) (by (with_reducible repeat (first | apply kN | apply kD | apply kA)); exact BK288.out) hb); have n4_ := Am (blk_below (g := gb293) (o := .cells #[.slice Ao21 t289.length co21] 24 (0, 0)) (by (with_reducible repeat (first | apply kN | apply kD | apply kA)); exact BK293.out) hb); have n5_ := Am (blk_below (g := gb298) (o := .cells #[.slice Ao28 t294.length co28] 24 (0, 0)) (by (with_reducible repeat (first | apply kN | apply kD | apply kA)); exact BK298.out) hb); have n6_ := Am (blk_below (g := gb306) (o := .cells #[.slice Ao39 t302.length co39] 24 (0, 0)) (by (with_reducible repeat (first | apply kN | apply kD | apply kA)); exact BK306.out) hb); have n7_ := Am (below_step (by repeat (first | (with_reducible first | exact HB.out | apply bA | apply bN | apply bD | refine bS ?_ GE288.out | refine bS ?_ GE293.out | refine bS ?_ GE298.out | refine bS ?_ GE306.out) | exact HB.out)) hb); clear HO_294000; clear HO_299000; clear HO_307000; clear BK288; clear BK293; clear BK298; clear BK306; clear HB; have HO_294000 := n0_; have HO_299000 := n1_; have HO_307000 := n2_; have BK288 := n3_; have BK293 := n4_; have BK298 := n5_; have BK306 := n6_; have HB := n7_; clear n0_ n1_ n2_ n3_ n4_ n5_ n6_ n7_; (try clear hb); (try clear hb2); (try clear hk); (try clear hi)))
        go_ret
        exact ⟨by first | rfl | (simp [errW_none, errW_some] <;> rfl) | (simp [*, errW_none, errW_some] <;> rfl), by repeat (first | (with_reducible first | exact HB.out | apply bA | apply bN | apply bD | refine bS ?_ GE288.out | refine bS ?_ GE293.out | refine bS ?_ GE298.out | refine bS ?_ GE306.out) | exact HB.out)⟩
      ·rw [if_neg c49] at H
       have c49b0 : (t310 == 0) = false := beq_eq_false_iff_ne.mpr c49
       have c49b1 : (t310 != 0) = true := bne_iff_ne.mpr c49
       obtain rfl := Option.some.inj H
       have hnb124 := NB293_288.out
       have hnc124 := NB288_293.out
       have hnb125 := NB293_298.out
       have hnc125 := NB298_293.out
       have hnb126 := NB293_306.out
       have hnc126 := NB306_293.out
       have hcz127_0 : wc.cell? ⟨gb293, 0, none⟩ = some (.slice Ao21 t289.length co21) := (blk_cell BK293.out 0).trans rfl
       have hfz127_0 := blk_frozen BK293.out 0
       go_wp2_with (first | ((with_reducible refine gate_callee (f := 21) rfl ?_); refine goesL_ (some 76) rfl rfl Try.func21 (by kernel_rfl) rfl #[.agg #[.slice Ao21 t289.length co21], .int .i64 (wrap64 ((wrap64 (1 + (wrap64 (Int.tmod a1 500)))) + (wrap64 (Int.tmod a2 900))))] rfl (by (try simp only [List.map_toArray, List.map_cons, List.map_nil]); first | done | rfl | (simp only [List.length_drop, List.length_take]; rfl)) ?_; (with_reducible refine (clock_Position.calls kj11 _ _ t289 (wrap64 ((wrap64 (1 + (wrap64 (Int.tmod a1 500)))) + (wrap64 (Int.tmod a2 900)))) t307 t308 _ ?side1 ?side2 A44.out).mono ?_); (case side1 => repeat (first | exact (Kd.R_reads' HO_294000.out).2.2 | (with_reducible refine Kd.C_alloc ?_ _) | (with_reducible refine Kd.C_drewN ?_ _) | (with_reducible refine Kd.C_drew ?_))); (case side2 => exact (Kd.R_reads' HO_294000.out).2.1); rintro e w128 ⟨rfl, hb⟩; refine ⟨_, rfl, ?_⟩; have n0_ := Am (Kd.R_below (by (with_reducible repeat (first | apply Kd.R_alloc | apply Kd.R_drewN | apply Kd.R_drew)); exact HO_294000.out) hb); have n1_ := Am (Kd.R_below (by (with_reducible repeat (first | apply Kd.R_alloc | apply Kd.R_drewN | apply Kd.R_drew)); exact HO_299000.out) hb); have n2_ := Am (Kd.R_below (by (with_reducible repeat (first | apply Kd.R_alloc | apply Kd.R_drewN | apply Kd.R_drew)); exact HO_307000.out) hb); have n3_ := Am (blk_below (g := gb288) (o := .cells #[.int .i64 t285, .int .i64 t286] 27 (0, 0)) (by (with_reducible repeat (first | apply kN | apply kD | apply kA)); exact BK288.out) hb); have n4_ := Am (blk_below (g := gb293) (o := .cells #[.slice Ao21 t289.length co21] 24 (0, 0)) (by (with_reducible repeat (first | apply kN | apply kD | apply kA)); exact BK293.out) hb); have n5_ := Am (blk_below (g := gb298) (o := .cells #[.slice Ao28 t294.length co28] 24 (0, 0)) (by (with_reducible repeat (first | apply kN | apply kD | apply kA)); exact BK298.out) hb); have n6_ := Am (blk_below (g := gb306) (o := .cells #[.slice Ao39 t302.length co39] 24 (0, 0)) (by (with_reducible repeat (first | apply kN | apply kD | apply kA)); exact BK306.out) hb); have n7_ := Am (below_step (by repeat (first | (with_reducible first | exact HB.out | apply bA | apply bN | apply bD | refine bS ?_ GE288.out | refine bS ?_ GE293.out | refine bS ?_ GE298.out | refine bS ?_ GE306.out) | exact HB.out)) hb); clear HO_294000; clear HO_299000; clear HO_307000; clear BK288; clear BK293; clear BK298; clear BK306; clear HB; have HO_294000 := n0_; have HO_299000 := n1_; have HO_307000 := n2_; have BK288 := n3_; have BK293 := n4_; have BK298 := n5_; have BK306 := n6_; have HB := n7_; clear n0_ n1_ n2_ n3_ n4_ n5_ n6_ n7_; (try clear hb); (try clear hb2); (try clear hk); (try clear hi); have hnb129 := NB298_288.out; have hnc129 := NB288_298.out; have hnb130 := NB298_306.out; have hnc130 := NB306_298.out; have hcz131_0 : w128.cell? ⟨gb298, 0, none⟩ = some (.slice Ao28 t294.length co28) := (blk_cell BK298.out 0).trans rfl; have hfz131_0 := blk_frozen BK298.out 0) | ((with_reducible refine gate_callee (f := 21) rfl ?_); refine goesL_ (some 82) rfl rfl Try.func21 (by kernel_rfl) rfl #[.agg #[.slice Ao28 t294.length co28], .int .i64 (wrap64 ((wrap64 (1 + (wrap64 (Int.tmod a1 500)))) + (wrap64 (Int.tmod a2 900))))] rfl (by (try simp only [List.map_toArray, List.map_cons, List.map_nil]); first | done | rfl | (simp only [List.length_drop, List.length_take]; rfl)) ?_; (with_reducible refine (clock_Position.calls kj11 _ _ t294 (wrap64 ((wrap64 (1 + (wrap64 (Int.tmod a1 500)))) + (wrap64 (Int.tmod a2 900)))) t309 t310 _ ?side1 ?side2 A45.out).mono ?_); (case side1 => repeat (first | exact (Kd.R_reads' HO_299000.out).2.2 | (with_reducible refine Kd.C_alloc ?_ _) | (with_reducible refine Kd.C_drewN ?_ _) | (with_reducible refine Kd.C_drew ?_))); (case side2 => exact (Kd.R_reads' HO_299000.out).2.1); rintro e w132 ⟨rfl, hb⟩; refine ⟨_, rfl, ?_⟩; have n0_ := Am (Kd.R_below (by (with_reducible repeat (first | apply Kd.R_alloc | apply Kd.R_drewN | apply Kd.R_drew)); exact HO_294000.out) hb); have n1_ := Am (Kd.R_below (by (with_reducible repeat (first | apply Kd.R_alloc | apply Kd.R_drewN | apply Kd.R_drew)); exact HO_299000.out) hb); have n2_ := Am (Kd.R_below (by (with_reducible repeat (first | apply Kd.R_alloc | apply Kd.R_drewN | apply Kd.R_drew)); exact HO_307000.out) hb); have n3_ := Am (blk_below (g := gb288) (o := .cells #[.int .i64 t285, .int .i64 t286] 27 (0, 0)) (by (with_reducible repeat (first | apply kN | apply kD | apply kA)); exact BK288.out) hb); have n4_ := Am (blk_below (g := gb293) (o := .cells #[.slice Ao21 t289.length co21] 24 (0, 0)) (by (with_reducible repeat (first | apply kN | apply kD | apply kA)); exact BK293.out) hb); have n5_ := Am (blk_below (g := gb298) (o := .cells #[.slice Ao28 t294.length co28] 24 (0, 0)) (by (with_reducible repeat (first | apply kN | apply kD | apply kA)); exact BK298.out) hb); have n6_ := Am (blk_below (g := gb306) (o := .cells #[.slice Ao39 t302.length co39] 24 (0, 0)) (by (with_reducible repeat (first | apply kN | apply kD | apply kA)); exact BK306.out) hb); have n7_ := Am (below_step (by repeat (first | (with_reducible first | exact HB.out | apply bA | apply bN | apply bD | refine bS ?_ GE288.out | refine bS ?_ GE293.out | refine bS ?_ GE298.out | refine bS ?_ GE306.out) | exact HB.out)) hb); clear HO_294000; clear HO_299000; clear HO_307000; clear BK288; clear BK293; clear BK298; clear BK306; clear HB; have HO_294000 := n0_; have HO_299000 := n1_; have HO_307000 := n2_; have BK288 := n3_; have BK293 := n4_; have BK298 := n5_; have BK306 := n6_; have HB := n7_; clear n0_ n1_ n2_ n3_ n4_ n5_ n6_ n7_; (try clear hb); (try clear hb2); (try clear hk); (try clear hi); have hcz133_0 : w132.cell? ⟨gb293, 0, none⟩ = some (.slice Ao21 t289.length co21) := (blk_cell BK293.out 0).trans rfl; have hfz133_0 := blk_frozen BK293.out 0) | ((with_reducible refine gate_callee (f := 21) rfl ?_); refine goesL_ (some 88) rfl rfl Try.func21 (by kernel_rfl) rfl #[.agg #[.slice Ao21 t289.length co21], .int .i64 (wrap64 (1 + (wrap64 (Int.tmod a1 500))))] rfl (by (try simp only [List.map_toArray, List.map_cons, List.map_nil]); first | done | rfl | (simp only [List.length_drop, List.length_take]; rfl)) ?_; (with_reducible refine (clock_Position.calls kj11 _ _ t289 (wrap64 (1 + (wrap64 (Int.tmod a1 500)))) t311 t312 _ ?side1 ?side2 A46.out).mono ?_); (case side1 => repeat (first | exact (Kd.R_reads' HO_294000.out).2.2 | (with_reducible refine Kd.C_alloc ?_ _) | (with_reducible refine Kd.C_drewN ?_ _) | (with_reducible refine Kd.C_drew ?_))); (case side2 => exact (Kd.R_reads' HO_294000.out).2.1); rintro e w134 ⟨rfl, hb⟩; refine ⟨_, rfl, ?_⟩; have n0_ := Am (Kd.R_below (by (with_reducible repeat (first | apply Kd.R_alloc | apply Kd.R_drewN | apply Kd.R_drew)); exact HO_294000.out) hb); have n1_ := Am (Kd.R_below (by (with_reducible repeat (first | apply Kd.R_alloc | apply Kd.R_drewN | apply Kd.R_drew)); exact HO_299000.out) hb); have n2_ := Am (Kd.R_below (by (with_reducible repeat (first | apply Kd.R_alloc | apply Kd.R_drewN | apply Kd.R_drew)); exact HO_307000.out) hb); have n3_ := Am (blk_below (g := gb288) (o := .cells #[.int .i64 t285, .int .i64 t286] 27 (0, 0)) (by (with_reducible repeat (first | apply kN | apply kD | apply kA)); exact BK288.out) hb); have n4_ := Am (blk_below (g := gb293) (o := .cells #[.slice Ao21 t289.length co21] 24 (0, 0)) (by (with_reducible repeat (first | apply kN | apply kD | apply kA)); exact BK293.out) hb); have n5_ := Am (blk_below (g := gb298) (o := .cells #[.slice Ao28 t294.length co28] 24 (0, 0)) (by (with_reducible repeat (first | apply kN | apply kD | apply kA)); exact BK298.out) hb); have n6_ := Am (blk_below (g := gb306) (o := .cells #[.slice Ao39 t302.length co39] 24 (0, 0)) (by (with_reducible repeat (first | apply kN | apply kD | apply kA)); exact BK306.out) hb); have n7_ := Am (below_step (by repeat (first | (with_reducible first | exact HB.out | apply bA | apply bN | apply bD | refine bS ?_ GE288.out | refine bS ?_ GE293.out | refine bS ?_ GE298.out | refine bS ?_ GE306.out) | exact HB.out)) hb); clear HO_294000; clear HO_299000; clear HO_307000; clear BK288; clear BK293; clear BK298; clear BK306; clear HB; have HO_294000 := n0_; have HO_299000 := n1_; have HO_307000 := n2_; have BK288 := n3_; have BK293 := n4_; have BK298 := n5_; have BK306 := n6_; have HB := n7_; clear n0_ n1_ n2_ n3_ n4_ n5_ n6_ n7_; (try clear hb); (try clear hb2); (try clear hk); (try clear hi); have hnb135 := NB306_288.out; have hnc135 := NB288_306.out; have hcz136_0 : w134.cell? ⟨gb306, 0, none⟩ = some (.slice Ao39 t302.length co39) := (blk_cell BK306.out 0).trans rfl; have hfz136_0 := blk_frozen BK306.out 0) | ((with_reducible refine gate_callee (f := 21) rfl ?_); refine goesL_ (some 94) rfl rfl Try.func21 (by kernel_rfl) rfl #[.agg #[.slice Ao39 t302.length co39], .int .i64 (wrap64 (1 + (wrap64 (Int.tmod a1 500))))] rfl (by (try simp only [List.map_toArray, List.map_cons, List.map_nil]); first | done | rfl | (simp only [List.length_drop, List.length_take]; rfl)) ?_; (with_reducible refine (clock_Position.calls kj11 _ _ t302 (wrap64 (1 + (wrap64 (Int.tmod a1 500)))) t313 t314 _ ?side1 ?side2 A47.out).mono ?_); (case side1 => repeat (first | exact (Kd.R_reads' HO_307000.out).2.2 | (with_reducible refine Kd.C_alloc ?_ _) | (with_reducible refine Kd.C_drewN ?_ _) | (with_reducible refine Kd.C_drew ?_))); (case side2 => exact (Kd.R_reads' HO_307000.out).2.1); rintro e w137 ⟨rfl, hb⟩; refine ⟨_, rfl, ?_⟩; have n0_ := Am (Kd.R_below (by (with_reducible repeat (first | apply Kd.R_alloc | apply Kd.R_drewN | apply Kd.R_drew)); exact HO_294000.out) hb); have n1_ := Am (Kd.R_below (by (with_reducible repeat (first | apply Kd.R_alloc | apply Kd.R_drewN | apply Kd.R_drew)); exact HO_299000.out) hb); have n2_ := Am (Kd.R_below (by (with_reducible repeat (first | apply Kd.R_alloc | apply Kd.R_drewN | apply Kd.R_drew)); exact HO_307000.out) hb); have n3_ := Am (blk_below (g := gb288) (o := .cells #[.int .i64 t285, .int .i64 t286] 27 (0, 0)) (by (with_reducible repeat (first | apply kN | apply kD | apply kA)); exact BK288.out) hb); have n4_ := Am (blk_below (g := gb293) (o := .cells #[.slice Ao21 t289.length co21] 24 (0, 0)) (by (with_reducible repeat (first | apply kN | apply kD | apply kA)); exact BK293.out) hb); have n5_ := Am (blk_below (g := gb298) (o := .cells #[.slice Ao28 t294.length co28] 24 (0, 0)) (by (with_reducible repeat (first | apply kN | apply kD | apply kA)); exact BK298.out) hb); have n6_ := Am (blk_below (g := gb306) (o := .cells #[.slice Ao39 t302.length co39] 24 (0, 0)) (by (with_reducible repeat (first | apply kN | apply kD | apply kA)); exact BK306.out) hb); have n7_ := Am (below_step (by repeat (first | (with_reducible first | exact HB.out | apply bA | apply bN | apply bD | refine bS ?_ GE288.out | refine bS ?_ GE293.out | refine bS ?_ GE298.out | refine bS ?_ GE306.out) | exact HB.out)) hb); clear HO_294000; clear HO_299000; clear HO_307000; clear BK288; clear BK293; clear BK298; clear BK306; clear HB; have HO_294000 := n0_; have HO_299000 := n1_; have HO_307000 := n2_; have BK288 := n3_; have BK293 := n4_; have BK298 := n5_; have BK306 := n6_; have HB := n7_; clear n0_ n1_ n2_ n3_ n4_ n5_ n6_ n7_; (try clear hb); (try clear hb2); (try clear hk); (try clear hi)))
       go_ret
       exact ⟨by first | rfl | (simp [errW_none, errW_some] <;> rfl) | (simp [*, errW_none, errW_some] <;> rfl), by repeat (first | (with_reducible first | exact HB.out | apply bA | apply bN | apply bD | refine bS ?_ GE288.out | refine bS ?_ GE293.out | refine bS ?_ GE298.out | refine bS ?_ GE306.out) | exact HB.out)⟩
     ·rw [if_neg c48] at H
      have c48b0 : (t308 == 0) = false := beq_eq_false_iff_ne.mpr c48
      have c48b1 : (t308 != 0) = true := bne_iff_ne.mpr c48
      obtain rfl := Option.some.inj H
      have hnb138 := NB293_288.out
      have hnc138 := NB288_293.out
      have hnb139 := NB293_298.out
      have hnc139 := NB298_293.out
      have hnb140 := NB293_306.out
      have hnc140 := NB306_293.out
      have hcz141_0 : wc.cell? ⟨gb293, 0, none⟩ = some (.slice Ao21 t289.length co21) := (blk_cell BK293.out 0).trans rfl
      have hfz141_0 := blk_frozen BK293.out 0
      go_wp2_with (first | ((with_reducible refine gate_callee (f := 21) rfl ?_); refine goesL_ (some 76) rfl rfl Try.func21 (by kernel_rfl) rfl #[.agg #[.slice Ao21 t289.length co21], .int .i64 (wrap64 ((wrap64 (1 + (wrap64 (Int.tmod a1 500)))) + (wrap64 (Int.tmod a2 900))))] rfl (by (try simp only [List.map_toArray, List.map_cons, List.map_nil]); first | done | rfl | (simp only [List.length_drop, List.length_take]; rfl)) ?_; (with_reducible refine (clock_Position.calls kj11 _ _ t289 (wrap64 ((wrap64 (1 + (wrap64 (Int.tmod a1 500)))) + (wrap64 (Int.tmod a2 900)))) t307 t308 _ ?side1 ?side2 A44.out).mono ?_); (case side1 => repeat (first | exact (Kd.R_reads' HO_294000.out).2.2 | (with_reducible refine Kd.C_alloc ?_ _) | (with_reducible refine Kd.C_drewN ?_ _) | (with_reducible refine Kd.C_drew ?_))); (case side2 => exact (Kd.R_reads' HO_294000.out).2.1); rintro e w142 ⟨rfl, hb⟩; refine ⟨_, rfl, ?_⟩; have n0_ := Am (Kd.R_below (by (with_reducible repeat (first | apply Kd.R_alloc | apply Kd.R_drewN | apply Kd.R_drew)); exact HO_294000.out) hb); have n1_ := Am (Kd.R_below (by (with_reducible repeat (first | apply Kd.R_alloc | apply Kd.R_drewN | apply Kd.R_drew)); exact HO_299000.out) hb); have n2_ := Am (Kd.R_below (by (with_reducible repeat (first | apply Kd.R_alloc | apply Kd.R_drewN | apply Kd.R_drew)); exact HO_307000.out) hb); have n3_ := Am (blk_below (g := gb288) (o := .cells #[.int .i64 t285, .int .i64 t286] 27 (0, 0)) (by (with_reducible repeat (first | apply kN | apply kD | apply kA)); exact BK288.out) hb); have n4_ := Am (blk_below (g := gb293) (o := .cells #[.slice Ao21 t289.length co21] 24 (0, 0)) (by (with_reducible repeat (first | apply kN | apply kD | apply kA)); exact BK293.out) hb); have n5_ := Am (blk_below (g := gb298) (o := .cells #[.slice Ao28 t294.length co28] 24 (0, 0)) (by (with_reducible repeat (first | apply kN | apply kD | apply kA)); exact BK298.out) hb); have n6_ := Am (blk_below (g := gb306) (o := .cells #[.slice Ao39 t302.length co39] 24 (0, 0)) (by (with_reducible repeat (first | apply kN | apply kD | apply kA)); exact BK306.out) hb); have n7_ := Am (below_step (by repeat (first | (with_reducible first | exact HB.out | apply bA | apply bN | apply bD | refine bS ?_ GE288.out | refine bS ?_ GE293.out | refine bS ?_ GE298.out | refine bS ?_ GE306.out) | exact HB.out)) hb); clear HO_294000; clear HO_299000; clear HO_307000; clear BK288; clear BK293; clear BK298; clear BK306; clear HB; have HO_294000 := n0_; have HO_299000 := n1_; have HO_307000 := n2_; have BK288 := n3_; have BK293 := n4_; have BK298 := n5_; have BK306 := n6_; have HB := n7_; clear n0_ n1_ n2_ n3_ n4_ n5_ n6_ n7_; (try clear hb); (try clear hb2); (try clear hk); (try clear hi); have hnb143 := NB298_288.out; have hnc143 := NB288_298.out; have hnb144 := NB298_306.out; have hnc144 := NB306_298.out; have hcz145_0 : w142.cell? ⟨gb298, 0, none⟩ = some (.slice Ao28 t294.length co28) := (blk_cell BK298.out 0).trans rfl; have hfz145_0 := blk_frozen BK298.out 0) | ((with_reducible refine gate_callee (f := 21) rfl ?_); refine goesL_ (some 82) rfl rfl Try.func21 (by kernel_rfl) rfl #[.agg #[.slice Ao28 t294.length co28], .int .i64 (wrap64 ((wrap64 (1 + (wrap64 (Int.tmod a1 500)))) + (wrap64 (Int.tmod a2 900))))] rfl (by (try simp only [List.map_toArray, List.map_cons, List.map_nil]); first | done | rfl | (simp only [List.length_drop, List.length_take]; rfl)) ?_; (with_reducible refine (clock_Position.calls kj11 _ _ t294 (wrap64 ((wrap64 (1 + (wrap64 (Int.tmod a1 500)))) + (wrap64 (Int.tmod a2 900)))) t309 t310 _ ?side1 ?side2 A45.out).mono ?_); (case side1 => repeat (first | exact (Kd.R_reads' HO_299000.out).2.2 | (with_reducible refine Kd.C_alloc ?_ _) | (with_reducible refine Kd.C_drewN ?_ _) | (with_reducible refine Kd.C_drew ?_))); (case side2 => exact (Kd.R_reads' HO_299000.out).2.1); rintro e w146 ⟨rfl, hb⟩; refine ⟨_, rfl, ?_⟩; have n0_ := Am (Kd.R_below (by (with_reducible repeat (first | apply Kd.R_alloc | apply Kd.R_drewN | apply Kd.R_drew)); exact HO_294000.out) hb); have n1_ := Am (Kd.R_below (by (with_reducible repeat (first | apply Kd.R_alloc | apply Kd.R_drewN | apply Kd.R_drew)); exact HO_299000.out) hb); have n2_ := Am (Kd.R_below (by (with_reducible repeat (first | apply Kd.R_alloc | apply Kd.R_drewN | apply Kd.R_drew)); exact HO_307000.out) hb); have n3_ := Am (blk_below (g := gb288) (o := .cells #[.int .i64 t285, .int .i64 t286] 27 (0, 0)) (by (with_reducible repeat (first | apply kN | apply kD | apply kA)); exact BK288.out) hb); have n4_ := Am (blk_below (g := gb293) (o := .cells #[.slice Ao21 t289.length co21] 24 (0, 0)) (by (with_reducible repeat (first | apply kN | apply kD | apply kA)); exact BK293.out) hb); have n5_ := Am (blk_below (g := gb298) (o := .cells #[.slice Ao28 t294.length co28] 24 (0, 0)) (by (with_reducible repeat (first | apply kN | apply kD | apply kA)); exact BK298.out) hb); have n6_ := Am (blk_below (g := gb306) (o := .cells #[.slice Ao39 t302.length co39] 24 (0, 0)) (by (with_reducible repeat (first | apply kN | apply kD | apply kA)); exact BK306.out) hb); have n7_ := Am (below_step (by repeat (first | (with_reducible first | exact HB.out | apply bA | apply bN | apply bD | refine bS ?_ GE288.out | refine bS ?_ GE293.out | refine bS ?_ GE298.out | refine bS ?_ GE306.out) | exact HB.out)) hb); clear HO_294000; clear HO_299000; clear HO_307000; clear BK288; clear BK293; clear BK298; clear BK306; clear HB; have HO_294000 := n0_; have HO_299000 := n1_; have HO_307000 := n2_; have BK288 := n3_; have BK293 := n4_; have BK298 := n5_; have BK306 := n6_; have HB := n7_; clear n0_ n1_ n2_ n3_ n4_ n5_ n6_ n7_; (try clear hb); (try clear hb2); (try clear hk); (try clear hi); have hcz147_0 : w146.cell? ⟨gb293, 0, none⟩ = some (.slice Ao21 t289.length co21) := (blk_cell BK293.out 0).trans rfl; have hfz147_0 := blk_frozen BK293.out 0) | ((with_reducible refine gate_callee (f := 21) rfl ?_); refine goesL_ (some 88) rfl rfl Try.func21 (by kernel_rfl) rfl #[.agg #[.slice Ao21 t289.length co21], .int .i64 (wrap64 (1 + (wrap64 (Int.tmod a1 500))))] rfl (by (try simp only [List.map_toArray, List.map_cons, List.map_nil]); first | done | rfl | (simp only [List.length_drop, List.length_take]; rfl)) ?_; (with_reducible refine (clock_Position.calls kj11 _ _ t289 (wrap64 (1 + (wrap64 (Int.tmod a1 500)))) t311 t312 _ ?side1 ?side2 A46.out).mono ?_); (case side1 => repeat (first | exact (Kd.R_reads' HO_294000.out).2.2 | (with_reducible refine Kd.C_alloc ?_ _) | (with_reducible refine Kd.C_drewN ?_ _) | (with_reducible refine Kd.C_drew ?_))); (case side2 => exact (Kd.R_reads' HO_294000.out).2.1); rintro e w148 ⟨rfl, hb⟩; refine ⟨_, rfl, ?_⟩; have n0_ := Am (Kd.R_below (by (with_reducible repeat (first | apply Kd.R_alloc | apply Kd.R_drewN | apply Kd.R_drew)); exact HO_294000.out) hb); have n1_ := Am (Kd.R_below (by (with_reducible repeat (first | apply Kd.R_alloc | apply Kd.R_drewN | apply Kd.R_drew)); exact HO_299000.out) hb); have n2_ := Am (Kd.R_below (by (with_reducible repeat (first | apply Kd.R_alloc | apply Kd.R_drewN | apply Kd.R_drew)); exact HO_307000.out) hb); have n3_ := Am (blk_below (g := gb288) (o := .cells #[.int .i64 t285, .int .i64 t286] 27 (0, 0)) (by (with_reducible repeat (first | apply kN | apply kD | apply kA)); exact BK288.out) hb); have n4_ := Am (blk_below (g := gb293) (o := .cells #[.slice Ao21 t289.length co21] 24 (0, 0)) (by (with_reducible repeat (first | apply kN | apply kD | apply kA)); exact BK293.out) hb); have n5_ := Am (blk_below (g := gb298) (o := .cells #[.slice Ao28 t294.length co28] 24 (0, 0)) (by (with_reducible repeat (first | apply kN | apply kD | apply kA)); exact BK298.out) hb); have n6_ := Am (blk_below (g := gb306) (o := .cells #[.slice Ao39 t302.length co39] 24 (0, 0)) (by (with_reducible repeat (first | apply kN | apply kD | apply kA)); exact BK306.out) hb); have n7_ := Am (below_step (by repeat (first | (with_reducible first | exact HB.out | apply bA | apply bN | apply bD | refine bS ?_ GE288.out | refine bS ?_ GE293.out | refine bS ?_ GE298.out | refine bS ?_ GE306.out) | exact HB.out)) hb); clear HO_294000; clear HO_299000; clear HO_307000; clear BK288; clear BK293; clear BK298; clear BK306; clear HB; have HO_294000 := n0_; have HO_299000 := n1_; have HO_307000 := n2_; have BK288 := n3_; have BK293 := n4_; have BK298 := n5_; have BK306 := n6_; have HB := n7_; clear n0_ n1_ n2_ n3_ n4_ n5_ n6_ n7_; (try clear hb); (try clear hb2); (try clear hk); (try clear hi); have hnb149 := NB306_288.out; have hnc149 := NB288_306.out; have hcz150_0 : w148.cell? ⟨gb306, 0, none⟩ = some (.slice Ao39 t302.length co39) := (blk_cell BK306.out 0).trans rfl; have hfz150_0 := blk_frozen BK306.out 0) | ((with_reducible refine gate_callee (f := 21) rfl ?_); refine goesL_ (some 94) rfl rfl Try.func21 (by kernel_rfl) rfl #[.agg #[.slice Ao39 t302.length co39], .int .i64 (wrap64 (1 + (wrap64 (Int.tmod a1 500))))] rfl (by (try simp only [List.map_toArray, List.map_cons, List.map_nil]); first | done | rfl | (simp only [List.length_drop, List.length_take]; rfl)) ?_; (with_reducible refine (clock_Position.calls kj11 _ _ t302 (wrap64 (1 + (wrap64 (Int.tmod a1 500)))) t313 t314 _ ?side1 ?side2 A47.out).mono ?_); (case side1 => repeat (first | exact (Kd.R_reads' HO_307000.out).2.2 | (with_reducible refine Kd.C_alloc ?_ _) | (with_reducible refine Kd.C_drewN ?_ _) | (with_reducible refine Kd.C_drew ?_))); (case side2 => exact (Kd.R_reads' HO_307000.out).2.1); rintro e w151 ⟨rfl, hb⟩; refine ⟨_, rfl, ?_⟩; have n0_ := Am (Kd.R_below (by (with_reducible repeat (first | apply Kd.R_alloc | apply Kd.R_drewN | apply Kd.R_drew)); exact HO_294000.out) hb); have n1_ := Am (Kd.R_below (by (with_reducible repeat (first | apply Kd.R_alloc | apply Kd.R_drewN | apply Kd.R_drew)); exact HO_299000.out) hb); have n2_ := Am (Kd.R_below (by (with_reducible repeat (first | apply Kd.R_alloc | apply Kd.R_drewN | apply Kd.R_drew)); exact HO_307000.out) hb); have n3_ := Am (blk_below (g := gb288) (o := .cells #[.int .i64 t285, .int .i64 t286] 27 (0, 0)) (by (with_reducible repeat (first | apply kN | apply kD | apply kA)); exact BK288.out) hb); have n4_ := Am (blk_below (g := gb293) (o := .cells #[.slice Ao21 t289.length co21] 24 (0, 0)) (by (with_reducible repeat (first | apply kN | apply kD | apply kA)); exact BK293.out) hb); have n5_ := Am (blk_below (g := gb298) (o := .cells #[.slice Ao28 t294.length co28] 24 (0, 0)) (by (with_reducible repeat (first | apply kN | apply kD | apply kA)); exact BK298.out) hb); have n6_ := Am (blk_below (g := gb306) (o := .cells #[.slice Ao39 t302.length co39] 24 (0, 0)) (by (with_reducible repeat (first | apply kN | apply kD | apply kA)); exact BK306.out) hb); have n7_ := Am (below_step (by repeat (first | (with_reducible first | exact HB.out | apply bA | apply bN | apply bD | refine bS ?_ GE288.out | refine bS ?_ GE293.out | refine bS ?_ GE298.out | refine bS ?_ GE306.out) | exact HB.out)) hb); clear HO_294000; clear HO_299000; clear HO_307000; clear BK288; clear BK293; clear BK298; clear BK306; clear HB; have HO_294000 := n0_; have HO_299000 := n1_; have HO_307000 := n2_; have BK288 := n3_; have BK293 := n4_; have BK298 := n5_; have BK306 := n6_; have HB := n7_; clear n0_ n1_ n2_ n3_ n4_ n5_ n6_ n7_; (try clear hb); (try clear hb2); (try clear hk); (try clear hi)))
      go_ret
      exact ⟨by first | rfl | (simp [errW_none, errW_some] <;> rfl) | (simp [*, errW_none, errW_some] <;> rfl), by repeat (first | (with_reducible first | exact HB.out | apply bA | apply bN | apply bD | refine bS ?_ GE288.out | refine bS ?_ GE293.out | refine bS ?_ GE298.out | refine bS ?_ GE306.out) | exact HB.out)⟩
 ·replace c5 := Bool.eq_false_iff.mpr c5
  subst c5
  have H1 : (some false) = some r := by rw [if_neg (show ¬ (false = true) by decide)] at H; exact H
  clear H
  have H := H1
  clear H1
  obtain rfl := Option.some.inj H
  go_enter Try.func4, Try.ntmps4
  go_wp2_with (first | ((with_reducible refine gate_callee (f := 9) rfl ?_); refine goesL_ (some 25) rfl rfl Try.func9 (by kernel_rfl) rfl #[] rfl (by (try simp only [List.map_toArray, List.map_cons, List.map_nil]); first | done | rfl | (simp only [List.length_drop, List.length_take]; rfl)) ?_; (with_reducible refine (soundservicelaw13_sane.calls k  false _ A4.out).mono ?_); rintro e w152 ⟨rfl, hb⟩; refine ⟨_, rfl, ?_⟩; have n0_ := Am (below_step (by repeat (first | (with_reducible first | exact HB.out | apply bA | apply bN | apply bD) | exact HB.out)) hb); clear HB; have HB := n0_; clear n0_; (try clear hb); (try clear hb2); (try clear hk); (try clear hi)))
  go_ret
  exact ⟨by first | rfl | (simp [errW_none, errW_some] <;> rfl) | (simp [*, errW_none, errW_some] <;> rfl), by repeat (first | (with_reducible first | exact HB.out | apply bA | apply bN | apply bD) | exact HB.out)⟩

/-- THE ONE PURE STATEMENT of soundservicelaw13_ClockChanges: yours. -/
def soundservicelaw13_ClockChanges.Pure : Prop := ∀ (l0 : List Int) (a1 : Int) (a2 : Int), l0.length ≤ maxLen → l0.length * 1 ≤ 140737488351232 → (∀ x ∈ l0, (Lit.int .u8 x).wf = true) → (Lit.int .u16 a1).wf = true → (Lit.int .u16 a2).wf = true → ∃ k, soundservicelaw13_ClockChanges.f k l0 a1 a2 = some true
theorem soundservicelaw13_ClockChanges.walk (P : soundservicelaw13_ClockChanges.Pure) (a0 : Option Addr) (len0 cap0 : Nat) (z0 : List Int) (a1 : Int) (a2 : Int) (w : World) (w0 : (a0 = none ∧ len0 = 0 ∧ cap0 = 0 ∧ z0 = []) ∨ ∃ x, a0 = some x ∧ len0 ≤ cap0 ∧ cap0 ≤ maxLen ∧ z0.length = cap0 ∧ (∀ i, i < z0.length → w.cell? (x.add i) = some (.int .u8 (z0.getD i 0))) ∧ ∀ n ∈ z0, (Lit.int .u8 n).wf = true) (y0 : len0 * 1 ≤ 140737488351232) (w1 : (Lit.int .u16 a1).wf = true) (w2 : (Lit.int .u16 a2).wf = true) :
  Calls Try.prog 4 #[.slice a0 len0 cap0, .int .u16 a1, .int .u16 a2] w fun e w' => e = .returned (.bool true) ∧ Below w.heap.size w w' := by
 obtain ⟨l0, rfl, hr0, hm0, hw0, hc0⟩ := ReadsInt.ofRowC w0
 obtain ⟨k, h⟩ := P l0 a1 a2 hm0 y0 hw0 w1 w2
 refine (soundservicelaw13_ClockChanges.calls k _ _ l0 a1 a2 true w (Kd.C_of_reads (d := (0 : Int)) (h1 := fun _ => rfl) hr0) hc0 h).mono ?_
 rintro e w' ⟨rfl, hd⟩
 exact ⟨rfl, hd⟩

end Go.Proofs.Ythnmmiofhjbkeaa.PA
