/- Walks of functions of the program: each does what its Lean function says. Written by a program of this session (wip/xprint), which runs the printer of the kit with changes. -/
import Derived.Test.YtcnheiemajghiaaPAx0
import Derived.Test.YtcnheiemajghiaaPAx1
import Derived.Test.YtcnheiemajghiaaPAx2
import Derived.Test.YtcnheiemajghiaaPAx3
import Derived.Test.YtcnheiemajghiaaPAx4
import Derived.Test.YtcnheiemajghiaaPAx8
import Derived.Test.YtcnheiemajghiaaPAx10
import Derived.Test.YtcnheiemajghiaaPAx11
import Derived.Test.YtcnheiemajghiaaPAx14
import Derived.Test.YtcnheiemajghiaaPAx15
import Derived.Test.YtcnheiemajghiaaPAx16
namespace Go.Proofs.Ytcnheiemajghiaa.PA
open Go.RowKit Go.Proofs.YtcnheiemajghiaaW.PrintWords Go.Proofs.YtcnheiemajghiaaW.PrintLast Go.Proofs.YtcnheiemajghiaaW.PrintMore
attribute [local go_sem] max2_int min2_int max_two min_two max_three min_three max_four min_four   -- for this text's walks alone
set_option linter.unusedVariables false
set_option linter.unusedSimpArgs false

attribute [local go_sem high] eqA23
/-! ### soundservicelaw18_ControlBounds: function 6 -/
mutual
def soundservicelaw18_ControlBounds.l0 : Nat → Int → Int → Int → Int → Int → Int → Int → List (S23) → Int → Int → Int → Int → Int → Int → Option (Bool)
 | 0, _, _, _, _, _, _, _, _, _, _, _, _, _, _ => none
 | k + 1, x3, x4, x5, x6, x7, x19, x20, x53, x54, x55, x309000, x309001, x323000, x323001 => if x55 < x54 then (if 0 ≤ x55 then (if x55 < (x53.length : Int) then ((some (([(⟨x309000, x309001⟩ : S27), (⟨x323000, x323001⟩ : S27)] : List (S27)) : List (S27))).bind fun y328 => (soundservicelaw18_ControlBounds.l1 k x3 x4 x5 x6 x7 x19 x20 x53 x54 x55 y328 (y328.length : Int) 0 x309000 x309001 x323000 x323001 ((rd_T23 x53 x55).f0) ((rd_T23 x53 x55).f1) ((rd_T23 x53 x55).f2) ((rd_T23 x53 x55).f3))) else (none)) else (none)) else (some true)
def soundservicelaw18_ControlBounds.l1 : Nat → Int → Int → Int → Int → Int → Int → Int → List (S23) → Int → Int → List (S27) → Int → Int → Int → Int → Int → Int → Int → Int → Int → Int → Option (Bool)
 | 0, _, _, _, _, _, _, _, _, _, _, _, _, _, _, _, _, _, _, _, _, _ => none
 | k + 1, x3, x4, x5, x6, x7, x19, x20, x53, x54, x55, x61, x62, x63, x309000, x309001, x323000, x323001, x328000, x328001, x328002, x328003 => if x63 < x62 then (if 0 ≤ x63 then (if x63 < (x61.length : Int) then ((some (([(⟨x3, x4, x5⟩ : S44), (⟨x19, x20, Int.tmod (wrap64 ((Int.tmod x5 100) + 100)) 100⟩ : S44)] : List (S44)) : List (S44))).bind fun y333 => (soundservicelaw18_ControlBounds.l2 k x3 x4 x5 x6 x7 x19 x20 x53 x54 x55 x61 x62 x63 y333 (y333.length : Int) 0 x309000 x309001 x323000 x323001 x328000 x328001 x328002 x328003 ((rd_T27 x61 x63).f0) ((rd_T27 x61 x63).f1))) else (none)) else (none)) else (soundservicelaw18_ControlBounds.l0 k x3 x4 x5 x6 x7 x19 x20 x53 x54 (wrap64 (x55 + 1)) x309000 x309001 x323000 x323001)
def soundservicelaw18_ControlBounds.l2 : Nat → Int → Int → Int → Int → Int → Int → Int → List (S23) → Int → Int → List (S27) → Int → Int → List (S44) → Int → Int → Int → Int → Int → Int → Int → Int → Int → Int → Int → Int → Option (Bool)
 | 0, _, _, _, _, _, _, _, _, _, _, _, _, _, _, _, _, _, _, _, _, _, _, _, _, _, _ => none
 | k + 1, x3, x4, x5, x6, x7, x19, x20, x53, x54, x55, x61, x62, x63, x78, x79, x80, x309000, x309001, x323000, x323001, x328000, x328001, x328002, x328003, x333000, x333001 => if x80 < x79 then (if 0 ≤ x80 then (if x80 < (x78.length : Int) then ((control_Bound.f k x328000 x328001 x328002 x328003 x333000 x333001 ((rd_T44 x78 x80).f0) ((rd_T44 x78 x80).f1) ((rd_T44 x78 x80).f2)).bind fun bt338 => ((soundserviceref18_Bound.f k x328000 x328001 x328002 x328003 x333000 x333001 ((rd_T44 x78 x80).f0) ((rd_T44 x78 x80).f1) ((rd_T44 x78 x80).f2)).bind fun bt340 => ((control_Demand.f k x328000 x328001 x328002 x328003 x333000 x333001 ((rd_T44 x78 x80).f0) ((rd_T44 x78 x80).f1)).bind fun bt342 => ((soundserviceref18_Demand.f k x328000 x328001 x328002 x328003 x333000 x333001 ((rd_T44 x78 x80).f0) ((rd_T44 x78 x80).f1)).bind fun bt344 => (if bt338.1 = bt340.1 then (if bt338.2 = bt340.2 then (if bt342.1 = bt344.1 then (soundservicelaw18_ControlBounds.j3 k x3 x4 x5 x6 x7 x19 x20 x53 x54 x55 x61 x62 x63 x78 x79 x80 (bt342.2 != bt344.2) x309000 x309001 x323000 x323001 x328000 x328001 x328002 x328003 x333000 x333001 ((rd_T44 x78 x80).f0) ((rd_T44 x78 x80).f1) ((rd_T44 x78 x80).f2)) else (soundservicelaw18_ControlBounds.j3 k x3 x4 x5 x6 x7 x19 x20 x53 x54 x55 x61 x62 x63 x78 x79 x80 true x309000 x309001 x323000 x323001 x328000 x328001 x328002 x328003 x333000 x333001 ((rd_T44 x78 x80).f0) ((rd_T44 x78 x80).f1) ((rd_T44 x78 x80).f2))) else (soundservicelaw18_ControlBounds.j3 k x3 x4 x5 x6 x7 x19 x20 x53 x54 x55 x61 x62 x63 x78 x79 x80 true x309000 x309001 x323000 x323001 x328000 x328001 x328002 x328003 x333000 x333001 ((rd_T44 x78 x80).f0) ((rd_T44 x78 x80).f1) ((rd_T44 x78 x80).f2))) else (soundservicelaw18_ControlBounds.j3 k x3 x4 x5 x6 x7 x19 x20 x53 x54 x55 x61 x62 x63 x78 x79 x80 true x309000 x309001 x323000 x323001 x328000 x328001 x328002 x328003 x333000 x333001 ((rd_T44 x78 x80).f0) ((rd_T44 x78 x80).f1) ((rd_T44 x78 x80).f2))))))) else (none)) else (none)) else (soundservicelaw18_ControlBounds.l1 k x3 x4 x5 x6 x7 x19 x20 x53 x54 x55 x61 x62 (wrap64 (x63 + 1)) x309000 x309001 x323000 x323001 x328000 x328001 x328002 x328003)
def soundservicelaw18_ControlBounds.j4 : Nat → Int → Int → Int → Int → Int → Int → Int → List (S23) → Int → Int → List (S27) → Int → Int → List (S44) → Int → Int → Bool → Int → Int → Int → Int → Int → Int → Int → Int → Int → Int → Int → Int → Int → Option (Bool)
 | 0, _, _, _, _, _, _, _, _, _, _, _, _, _, _, _, _, _, _, _, _, _, _, _, _, _, _, _, _, _, _ => none
 | k + 1, x3, x4, x5, x6, x7, x19, x20, x53, x54, x55, x61, x62, x63, x78, x79, x80, x145, x309000, x309001, x323000, x323001, x328000, x328001, x328002, x328003, x333000, x333001, x338000, x338001, x338002 => if x145 = true then (some false) else ((control_Plan.f k x333000 x333001 x338000 x338001 x6 x7).bind fun bt346 => ((soundserviceref18_Plan.f k x333000 x333001 x338000 x338001 x6 x7).bind fun bt353 => (if (!(bt346.1 == bt353.1) || (!(bt346.2.1 == bt353.2.1) || (!(bt346.2.2.1 == bt353.2.2.1) || (!(bt346.2.2.2.1 == bt353.2.2.2.1))))) = true then (soundservicelaw18_ControlBounds.j5 k x3 x4 x5 x6 x7 x19 x20 x53 x54 x55 x61 x62 x63 x78 x79 x80 true x309000 x309001 x323000 x323001 x328000 x328001 x328002 x328003 x333000 x333001) else (if bt346.2.2.2.2.1 = bt353.2.2.2.2.1 then (soundservicelaw18_ControlBounds.j5 k x3 x4 x5 x6 x7 x19 x20 x53 x54 x55 x61 x62 x63 x78 x79 x80 (bt346.2.2.2.2.2 != bt353.2.2.2.2.2) x309000 x309001 x323000 x323001 x328000 x328001 x328002 x328003 x333000 x333001) else (soundservicelaw18_ControlBounds.j5 k x3 x4 x5 x6 x7 x19 x20 x53 x54 x55 x61 x62 x63 x78 x79 x80 true x309000 x309001 x323000 x323001 x328000 x328001 x328002 x328003 x333000 x333001)))))
def soundservicelaw18_ControlBounds.j6 : Nat → Int → Int → Int → Int → Int → Int → Int → List (S23) → Int → Int → List (S27) → Int → Int → List (S44) → Int → Int → Bool → Int → Int → Int → Int → Int → Int → Int → Int → Int → Int → Option (Bool)
 | 0, _, _, _, _, _, _, _, _, _, _, _, _, _, _, _, _, _, _, _, _, _, _, _, _, _, _, _ => none
 | k + 1, x3, x4, x5, x6, x7, x19, x20, x53, x54, x55, x61, x62, x63, x78, x79, x80, x182, x309000, x309001, x323000, x323001, x328000, x328001, x328002, x328003, x333000, x333001 => if x182 = true then (some false) else (soundservicelaw18_ControlBounds.l2 k x3 x4 x5 x6 x7 x19 x20 x53 x54 x55 x61 x62 x63 x78 x79 (wrap64 (x80 + 1)) x309000 x309001 x323000 x323001 x328000 x328001 x328002 x328003 x333000 x333001)
def soundservicelaw18_ControlBounds.j5 : Nat → Int → Int → Int → Int → Int → Int → Int → List (S23) → Int → Int → List (S27) → Int → Int → List (S44) → Int → Int → Bool → Int → Int → Int → Int → Int → Int → Int → Int → Int → Int → Option (Bool)
 | 0, _, _, _, _, _, _, _, _, _, _, _, _, _, _, _, _, _, _, _, _, _, _, _, _, _, _, _ => none
 | k + 1, x3, x4, x5, x6, x7, x19, x20, x53, x54, x55, x61, x62, x63, x78, x79, x80, x182, x309000, x309001, x323000, x323001, x328000, x328001, x328002, x328003, x333000, x333001 => soundservicelaw18_ControlBounds.j6 k x3 x4 x5 x6 x7 x19 x20 x53 x54 x55 x61 x62 x63 x78 x79 x80 x182 x309000 x309001 x323000 x323001 x328000 x328001 x328002 x328003 x333000 x333001
def soundservicelaw18_ControlBounds.j3 : Nat → Int → Int → Int → Int → Int → Int → Int → List (S23) → Int → Int → List (S27) → Int → Int → List (S44) → Int → Int → Bool → Int → Int → Int → Int → Int → Int → Int → Int → Int → Int → Int → Int → Int → Option (Bool)
 | 0, _, _, _, _, _, _, _, _, _, _, _, _, _, _, _, _, _, _, _, _, _, _, _, _, _, _, _, _, _, _ => none
 | k + 1, x3, x4, x5, x6, x7, x19, x20, x53, x54, x55, x61, x62, x63, x78, x79, x80, x145, x309000, x309001, x323000, x323001, x328000, x328001, x328002, x328003, x333000, x333001, x338000, x338001, x338002 => soundservicelaw18_ControlBounds.j4 k x3 x4 x5 x6 x7 x19 x20 x53 x54 x55 x61 x62 x63 x78 x79 x80 x145 x309000 x309001 x323000 x323001 x328000 x328001 x328002 x328003 x333000 x333001 x338000 x338001 x338002
end
def soundservicelaw18_ControlBounds.f (k : Nat) (a0_0 : Int) (a0_1 : Int) (a0_2 : Int) (a0_3 : Int) (a1_0 : Int) (a1_1 : Int) (l2 : List Int) (a3 : Int) (a4 : Int) (a5 : Int) (a6 : Int) (a7 : Int) : Option (Bool) := (soundservicelaw18_sane.f).bind fun t309 => (if t309 = true then ((soundservicemade_New.f l2).bind fun t310 => ((soundservicelaw18_made.f t310).bind fun bt312 => ((some (([(⟨a0_0, a0_1, a0_2, a0_3⟩ : S23), (⟨bt312.1, bt312.2.1, bt312.2.2.1, bt312.2.2.2.1⟩ : S23)] : List (S23)) : List (S23))).bind fun y323 => (soundservicelaw18_ControlBounds.l0 k a3 a4 a5 a6 a7 bt312.2.2.2.2.2.2.1 bt312.2.2.2.2.2.2.2.1 y323 (y323.length : Int) 0 a1_0 a1_1 bt312.2.2.2.2.1 bt312.2.2.2.2.2.1)))) else (some false))
theorem soundservicelaw18_ControlBounds.mono_l : ∀ k, (∀ y0 y1 y2 y3 y4 y5 y6 y7 y8 y9 y10 y11 y12 y13, LeO (soundservicelaw18_ControlBounds.l0 k y0 y1 y2 y3 y4 y5 y6 y7 y8 y9 y10 y11 y12 y13) (soundservicelaw18_ControlBounds.l0 (k + 1) y0 y1 y2 y3 y4 y5 y6 y7 y8 y9 y10 y11 y12 y13)) ∧ (∀ y0 y1 y2 y3 y4 y5 y6 y7 y8 y9 y10 y11 y12 y13 y14 y15 y16 y17 y18 y19 y20, LeO (soundservicelaw18_ControlBounds.l1 k y0 y1 y2 y3 y4 y5 y6 y7 y8 y9 y10 y11 y12 y13 y14 y15 y16 y17 y18 y19 y20) (soundservicelaw18_ControlBounds.l1 (k + 1) y0 y1 y2 y3 y4 y5 y6 y7 y8 y9 y10 y11 y12 y13 y14 y15 y16 y17 y18 y19 y20)) ∧ (∀ y0 y1 y2 y3 y4 y5 y6 y7 y8 y9 y10 y11 y12 y13 y14 y15 y16 y17 y18 y19 y20 y21 y22 y23 y24 y25, LeO (soundservicelaw18_ControlBounds.l2 k y0 y1 y2 y3 y4 y5 y6 y7 y8 y9 y10 y11 y12 y13 y14 y15 y16 y17 y18 y19 y20 y21 y22 y23 y24 y25) (soundservicelaw18_ControlBounds.l2 (k + 1) y0 y1 y2 y3 y4 y5 y6 y7 y8 y9 y10 y11 y12 y13 y14 y15 y16 y17 y18 y19 y20 y21 y22 y23 y24 y25)) ∧ (∀ y0 y1 y2 y3 y4 y5 y6 y7 y8 y9 y10 y11 y12 y13 y14 y15 y16 y17 y18 y19 y20 y21 y22 y23 y24 y25 y26 y27 y28 y29, LeO (soundservicelaw18_ControlBounds.j4 k y0 y1 y2 y3 y4 y5 y6 y7 y8 y9 y10 y11 y12 y13 y14 y15 y16 y17 y18 y19 y20 y21 y22 y23 y24 y25 y26 y27 y28 y29) (soundservicelaw18_ControlBounds.j4 (k + 1) y0 y1 y2 y3 y4 y5 y6 y7 y8 y9 y10 y11 y12 y13 y14 y15 y16 y17 y18 y19 y20 y21 y22 y23 y24 y25 y26 y27 y28 y29)) ∧ (∀ y0 y1 y2 y3 y4 y5 y6 y7 y8 y9 y10 y11 y12 y13 y14 y15 y16 y17 y18 y19 y20 y21 y22 y23 y24 y25 y26, LeO (soundservicelaw18_ControlBounds.j6 k y0 y1 y2 y3 y4 y5 y6 y7 y8 y9 y10 y11 y12 y13 y14 y15 y16 y17 y18 y19 y20 y21 y22 y23 y24 y25 y26) (soundservicelaw18_ControlBounds.j6 (k + 1) y0 y1 y2 y3 y4 y5 y6 y7 y8 y9 y10 y11 y12 y13 y14 y15 y16 y17 y18 y19 y20 y21 y22 y23 y24 y25 y26)) ∧ (∀ y0 y1 y2 y3 y4 y5 y6 y7 y8 y9 y10 y11 y12 y13 y14 y15 y16 y17 y18 y19 y20 y21 y22 y23 y24 y25 y26, LeO (soundservicelaw18_ControlBounds.j5 k y0 y1 y2 y3 y4 y5 y6 y7 y8 y9 y10 y11 y12 y13 y14 y15 y16 y17 y18 y19 y20 y21 y22 y23 y24 y25 y26) (soundservicelaw18_ControlBounds.j5 (k + 1) y0 y1 y2 y3 y4 y5 y6 y7 y8 y9 y10 y11 y12 y13 y14 y15 y16 y17 y18 y19 y20 y21 y22 y23 y24 y25 y26)) ∧ (∀ y0 y1 y2 y3 y4 y5 y6 y7 y8 y9 y10 y11 y12 y13 y14 y15 y16 y17 y18 y19 y20 y21 y22 y23 y24 y25 y26 y27 y28 y29, LeO (soundservicelaw18_ControlBounds.j3 k y0 y1 y2 y3 y4 y5 y6 y7 y8 y9 y10 y11 y12 y13 y14 y15 y16 y17 y18 y19 y20 y21 y22 y23 y24 y25 y26 y27 y28 y29) (soundservicelaw18_ControlBounds.j3 (k + 1) y0 y1 y2 y3 y4 y5 y6 y7 y8 y9 y10 y11 y12 y13 y14 y15 y16 y17 y18 y19 y20 y21 y22 y23 y24 y25 y26 y27 y28 y29))
 | 0 => ⟨fun _ _ _ _ _ _ _ _ _ _ _ _ _ _ r h => by simp [soundservicelaw18_ControlBounds.l0] at h, fun _ _ _ _ _ _ _ _ _ _ _ _ _ _ _ _ _ _ _ _ _ r h => by simp [soundservicelaw18_ControlBounds.l1] at h, fun _ _ _ _ _ _ _ _ _ _ _ _ _ _ _ _ _ _ _ _ _ _ _ _ _ _ r h => by simp [soundservicelaw18_ControlBounds.l2] at h, fun _ _ _ _ _ _ _ _ _ _ _ _ _ _ _ _ _ _ _ _ _ _ _ _ _ _ _ _ _ _ r h => by simp [soundservicelaw18_ControlBounds.j4] at h, fun _ _ _ _ _ _ _ _ _ _ _ _ _ _ _ _ _ _ _ _ _ _ _ _ _ _ _ r h => by simp [soundservicelaw18_ControlBounds.j6] at h, fun _ _ _ _ _ _ _ _ _ _ _ _ _ _ _ _ _ _ _ _ _ _ _ _ _ _ _ r h => by simp [soundservicelaw18_ControlBounds.j5] at h, fun _ _ _ _ _ _ _ _ _ _ _ _ _ _ _ _ _ _ _ _ _ _ _ _ _ _ _ _ _ _ r h => by simp [soundservicelaw18_ControlBounds.j3] at h⟩
 | k + 1 => by
  obtain ⟨ih0, ih1, ih2, ih3, ih4, ih5, ih6⟩ := soundservicelaw18_ControlBounds.mono_l k
  refine ⟨?_, ?_, ?_, ?_, ?_, ?_, ?_⟩
  ·intro y0 y1 y2 y3 y4 y5 y6 y7 y8 y9 y10 y11 y12 y13
   unfold soundservicelaw18_ControlBounds.l0
   repeat' first
   | (with_reducible exact ih0 _ _ _ _ _ _ _ _ _ _ _ _ _ _)
   | (with_reducible exact ih1 _ _ _ _ _ _ _ _ _ _ _ _ _ _ _ _ _ _ _ _ _)
   | (with_reducible exact ih2 _ _ _ _ _ _ _ _ _ _ _ _ _ _ _ _ _ _ _ _ _ _ _ _ _ _)
   | (with_reducible exact ih3 _ _ _ _ _ _ _ _ _ _ _ _ _ _ _ _ _ _ _ _ _ _ _ _ _ _ _ _ _ _)
   | (with_reducible exact ih4 _ _ _ _ _ _ _ _ _ _ _ _ _ _ _ _ _ _ _ _ _ _ _ _ _ _ _)
   | (with_reducible exact ih5 _ _ _ _ _ _ _ _ _ _ _ _ _ _ _ _ _ _ _ _ _ _ _ _ _ _ _)
   | (with_reducible exact ih6 _ _ _ _ _ _ _ _ _ _ _ _ _ _ _ _ _ _ _ _ _ _ _ _ _ _ _ _ _ _)
   | (with_reducible exact control_Bound.mono _ _ _ _ _ _ _ _ _ _)
   | (with_reducible exact control_Demand.mono _ _ _ _ _ _ _ _ _)
   | (with_reducible exact control_Plan.mono _ _ _ _ _ _ _)
   | (with_reducible exact soundserviceref18_Bound.mono _ _ _ _ _ _ _ _ _ _)
   | (with_reducible exact soundserviceref18_Demand.mono _ _ _ _ _ _ _ _ _)
   | (with_reducible exact soundserviceref18_Plan.mono _ _ _ _ _ _ _)
   | (with_reducible exact LeO.refl _)
   | (with_reducible exact LeO.none _)
   | (with_reducible refine LeO.ite ?_ ?_)
   | (with_reducible refine LeO.bind ?_ (fun _ => ?_))
   | exact ih0 _ _ _ _ _ _ _ _ _ _ _ _ _ _
   | exact ih1 _ _ _ _ _ _ _ _ _ _ _ _ _ _ _ _ _ _ _ _ _
   | exact ih2 _ _ _ _ _ _ _ _ _ _ _ _ _ _ _ _ _ _ _ _ _ _ _ _ _ _
   | exact ih3 _ _ _ _ _ _ _ _ _ _ _ _ _ _ _ _ _ _ _ _ _ _ _ _ _ _ _ _ _ _
   | exact ih4 _ _ _ _ _ _ _ _ _ _ _ _ _ _ _ _ _ _ _ _ _ _ _ _ _ _ _
   | exact ih5 _ _ _ _ _ _ _ _ _ _ _ _ _ _ _ _ _ _ _ _ _ _ _ _ _ _ _
   | exact ih6 _ _ _ _ _ _ _ _ _ _ _ _ _ _ _ _ _ _ _ _ _ _ _ _ _ _ _ _ _ _
   | exact control_Bound.mono _ _ _ _ _ _ _ _ _ _
   | exact control_Demand.mono _ _ _ _ _ _ _ _ _
   | exact control_Plan.mono _ _ _ _ _ _ _
   | exact soundserviceref18_Bound.mono _ _ _ _ _ _ _ _ _ _
   | exact soundserviceref18_Demand.mono _ _ _ _ _ _ _ _ _
   | exact soundserviceref18_Plan.mono _ _ _ _ _ _ _
   | exact LeO.none _
   | refine LeO.ite ?_ ?_
   | refine LeO.bind ?_ (fun _ => ?_)
  ·intro y0 y1 y2 y3 y4 y5 y6 y7 y8 y9 y10 y11 y12 y13 y14 y15 y16 y17 y18 y19 y20
   unfold soundservicelaw18_ControlBounds.l1
   repeat' first
   | (with_reducible exact ih0 _ _ _ _ _ _ _ _ _ _ _ _ _ _)
   | (with_reducible exact ih1 _ _ _ _ _ _ _ _ _ _ _ _ _ _ _ _ _ _ _ _ _)
   | (with_reducible exact ih2 _ _ _ _ _ _ _ _ _ _ _ _ _ _ _ _ _ _ _ _ _ _ _ _ _ _)
   | (with_reducible exact ih3 _ _ _ _ _ _ _ _ _ _ _ _ _ _ _ _ _ _ _ _ _ _ _ _ _ _ _ _ _ _)
   | (with_reducible exact ih4 _ _ _ _ _ _ _ _ _ _ _ _ _ _ _ _ _ _ _ _ _ _ _ _ _ _ _)
   | (with_reducible exact ih5 _ _ _ _ _ _ _ _ _ _ _ _ _ _ _ _ _ _ _ _ _ _ _ _ _ _ _)
   | (with_reducible exact ih6 _ _ _ _ _ _ _ _ _ _ _ _ _ _ _ _ _ _ _ _ _ _ _ _ _ _ _ _ _ _)
   | (with_reducible exact control_Bound.mono _ _ _ _ _ _ _ _ _ _)
   | (with_reducible exact control_Demand.mono _ _ _ _ _ _ _ _ _)
   | (with_reducible exact control_Plan.mono _ _ _ _ _ _ _)
   | (with_reducible exact soundserviceref18_Bound.mono _ _ _ _ _ _ _ _ _ _)
   | (with_reducible exact soundserviceref18_Demand.mono _ _ _ _ _ _ _ _ _)
   | (with_reducible exact soundserviceref18_Plan.mono _ _ _ _ _ _ _)
   | (with_reducible exact LeO.refl _)
   | (with_reducible exact LeO.none _)
   | (with_reducible refine LeO.ite ?_ ?_)
   | (with_reducible refine LeO.bind ?_ (fun _ => ?_))
   | exact ih0 _ _ _ _ _ _ _ _ _ _ _ _ _ _
   | exact ih1 _ _ _ _ _ _ _ _ _ _ _ _ _ _ _ _ _ _ _ _ _
   | exact ih2 _ _ _ _ _ _ _ _ _ _ _ _ _ _ _ _ _ _ _ _ _ _ _ _ _ _
   | exact ih3 _ _ _ _ _ _ _ _ _ _ _ _ _ _ _ _ _ _ _ _ _ _ _ _ _ _ _ _ _ _
   | exact ih4 _ _ _ _ _ _ _ _ _ _ _ _ _ _ _ _ _ _ _ _ _ _ _ _ _ _ _
   | exact ih5 _ _ _ _ _ _ _ _ _ _ _ _ _ _ _ _ _ _ _ _ _ _ _ _ _ _ _
   | exact ih6 _ _ _ _ _ _ _ _ _ _ _ _ _ _ _ _ _ _ _ _ _ _ _ _ _ _ _ _ _ _
   | exact control_Bound.mono _ _ _ _ _ _ _ _ _ _
   | exact control_Demand.mono _ _ _ _ _ _ _ _ _
   | exact control_Plan.mono _ _ _ _ _ _ _
   | exact soundserviceref18_Bound.mono _ _ _ _ _ _ _ _ _ _
   | exact soundserviceref18_Demand.mono _ _ _ _ _ _ _ _ _
   | exact soundserviceref18_Plan.mono _ _ _ _ _ _ _
   | exact LeO.none _
   | refine LeO.ite ?_ ?_
   | refine LeO.bind ?_ (fun _ => ?_)
  ·intro y0 y1 y2 y3 y4 y5 y6 y7 y8 y9 y10 y11 y12 y13 y14 y15 y16 y17 y18 y19 y20 y21 y22 y23 y24 y25
   unfold soundservicelaw18_ControlBounds.l2
   repeat' first
   | (with_reducible exact ih0 _ _ _ _ _ _ _ _ _ _ _ _ _ _)
   | (with_reducible exact ih1 _ _ _ _ _ _ _ _ _ _ _ _ _ _ _ _ _ _ _ _ _)
   | (with_reducible exact ih2 _ _ _ _ _ _ _ _ _ _ _ _ _ _ _ _ _ _ _ _ _ _ _ _ _ _)
   | (with_reducible exact ih3 _ _ _ _ _ _ _ _ _ _ _ _ _ _ _ _ _ _ _ _ _ _ _ _ _ _ _ _ _ _)
   | (with_reducible exact ih4 _ _ _ _ _ _ _ _ _ _ _ _ _ _ _ _ _ _ _ _ _ _ _ _ _ _ _)
   | (with_reducible exact ih5 _ _ _ _ _ _ _ _ _ _ _ _ _ _ _ _ _ _ _ _ _ _ _ _ _ _ _)
   | (with_reducible exact ih6 _ _ _ _ _ _ _ _ _ _ _ _ _ _ _ _ _ _ _ _ _ _ _ _ _ _ _ _ _ _)
   | (with_reducible exact control_Bound.mono _ _ _ _ _ _ _ _ _ _)
   | (with_reducible exact control_Demand.mono _ _ _ _ _ _ _ _ _)
   | (with_reducible exact control_Plan.mono _ _ _ _ _ _ _)
   | (with_reducible exact soundserviceref18_Bound.mono _ _ _ _ _ _ _ _ _ _)
   | (with_reducible exact soundserviceref18_Demand.mono _ _ _ _ _ _ _ _ _)
   | (with_reducible exact soundserviceref18_Plan.mono _ _ _ _ _ _ _)
   | (with_reducible exact LeO.refl _)
   | (with_reducible exact LeO.none _)
   | (with_reducible refine LeO.ite ?_ ?_)
   | (with_reducible refine LeO.bind ?_ (fun _ => ?_))
   | exact ih0 _ _ _ _ _ _ _ _ _ _ _ _ _ _
   | exact ih1 _ _ _ _ _ _ _ _ _ _ _ _ _ _ _ _ _ _ _ _ _
   | exact ih2 _ _ _ _ _ _ _ _ _ _ _ _ _ _ _ _ _ _ _ _ _ _ _ _ _ _
   | exact ih3 _ _ _ _ _ _ _ _ _ _ _ _ _ _ _ _ _ _ _ _ _ _ _ _ _ _ _ _ _ _
   | exact ih4 _ _ _ _ _ _ _ _ _ _ _ _ _ _ _ _ _ _ _ _ _ _ _ _ _ _ _
   | exact ih5 _ _ _ _ _ _ _ _ _ _ _ _ _ _ _ _ _ _ _ _ _ _ _ _ _ _ _
   | exact ih6 _ _ _ _ _ _ _ _ _ _ _ _ _ _ _ _ _ _ _ _ _ _ _ _ _ _ _ _ _ _
   | exact control_Bound.mono _ _ _ _ _ _ _ _ _ _
   | exact control_Demand.mono _ _ _ _ _ _ _ _ _
   | exact control_Plan.mono _ _ _ _ _ _ _
   | exact soundserviceref18_Bound.mono _ _ _ _ _ _ _ _ _ _
   | exact soundserviceref18_Demand.mono _ _ _ _ _ _ _ _ _
   | exact soundserviceref18_Plan.mono _ _ _ _ _ _ _
   | exact LeO.none _
   | refine LeO.ite ?_ ?_
   | refine LeO.bind ?_ (fun _ => ?_)
  ·intro y0 y1 y2 y3 y4 y5 y6 y7 y8 y9 y10 y11 y12 y13 y14 y15 y16 y17 y18 y19 y20 y21 y22 y23 y24 y25 y26 y27 y28 y29
   unfold soundservicelaw18_ControlBounds.j4
   repeat' first
   | (with_reducible exact ih0 _ _ _ _ _ _ _ _ _ _ _ _ _ _)
   | (with_reducible exact ih1 _ _ _ _ _ _ _ _ _ _ _ _ _ _ _ _ _ _ _ _ _)
   | (with_reducible exact ih2 _ _ _ _ _ _ _ _ _ _ _ _ _ _ _ _ _ _ _ _ _ _ _ _ _ _)
   | (with_reducible exact ih3 _ _ _ _ _ _ _ _ _ _ _ _ _ _ _ _ _ _ _ _ _ _ _ _ _ _ _ _ _ _)
   | (with_reducible exact ih4 _ _ _ _ _ _ _ _ _ _ _ _ _ _ _ _ _ _ _ _ _ _ _ _ _ _ _)
   | (with_reducible exact ih5 _ _ _ _ _ _ _ _ _ _ _ _ _ _ _ _ _ _ _ _ _ _ _ _ _ _ _)
   | (with_reducible exact ih6 _ _ _ _ _ _ _ _ _ _ _ _ _ _ _ _ _ _ _ _ _ _ _ _ _ _ _ _ _ _)
   | (with_reducible exact control_Bound.mono _ _ _ _ _ _ _ _ _ _)
   | (with_reducible exact control_Demand.mono _ _ _ _ _ _ _ _ _)
   | (with_reducible exact control_Plan.mono _ _ _ _ _ _ _)
   | (with_reducible exact soundserviceref18_Bound.mono _ _ _ _ _ _ _ _ _ _)
   | (with_reducible exact soundserviceref18_Demand.mono _ _ _ _ _ _ _ _ _)
   | (with_reducible exact soundserviceref18_Plan.mono _ _ _ _ _ _ _)
   | (with_reducible exact LeO.refl _)
   | (with_reducible exact LeO.none _)
   | (with_reducible refine LeO.ite ?_ ?_)
   | (with_reducible refine LeO.bind ?_ (fun _ => ?_))
   | exact ih0 _ _ _ _ _ _ _ _ _ _ _ _ _ _
   | exact ih1 _ _ _ _ _ _ _ _ _ _ _ _ _ _ _ _ _ _ _ _ _
   | exact ih2 _ _ _ _ _ _ _ _ _ _ _ _ _ _ _ _ _ _ _ _ _ _ _ _ _ _
   | exact ih3 _ _ _ _ _ _ _ _ _ _ _ _ _ _ _ _ _ _ _ _ _ _ _ _ _ _ _ _ _ _
   | exact ih4 _ _ _ _ _ _ _ _ _ _ _ _ _ _ _ _ _ _ _ _ _ _ _ _ _ _ _
   | exact ih5 _ _ _ _ _ _ _ _ _ _ _ _ _ _ _ _ _ _ _ _ _ _ _ _ _ _ _
   | exact ih6 _ _ _ _ _ _ _ _ _ _ _ _ _ _ _ _ _ _ _ _ _ _ _ _ _ _ _ _ _ _
   | exact control_Bound.mono _ _ _ _ _ _ _ _ _ _
   | exact control_Demand.mono _ _ _ _ _ _ _ _ _
   | exact control_Plan.mono _ _ _ _ _ _ _
   | exact soundserviceref18_Bound.mono _ _ _ _ _ _ _ _ _ _
   | exact soundserviceref18_Demand.mono _ _ _ _ _ _ _ _ _
   | exact soundserviceref18_Plan.mono _ _ _ _ _ _ _
   | exact LeO.none _
   | refine LeO.ite ?_ ?_
   | refine LeO.bind ?_ (fun _ => ?_)
  ·intro y0 y1 y2 y3 y4 y5 y6 y7 y8 y9 y10 y11 y12 y13 y14 y15 y16 y17 y18 y19 y20 y21 y22 y23 y24 y25 y26
   unfold soundservicelaw18_ControlBounds.j6
   repeat' first
   | (with_reducible exact ih0 _ _ _ _ _ _ _ _ _ _ _ _ _ _)
   | (with_reducible exact ih1 _ _ _ _ _ _ _ _ _ _ _ _ _ _ _ _ _ _ _ _ _)
   | (with_reducible exact ih2 _ _ _ _ _ _ _ _ _ _ _ _ _ _ _ _ _ _ _ _ _ _ _ _ _ _)
   | (with_reducible exact ih3 _ _ _ _ _ _ _ _ _ _ _ _ _ _ _ _ _ _ _ _ _ _ _ _ _ _ _ _ _ _)
   | (with_reducible exact ih4 _ _ _ _ _ _ _ _ _ _ _ _ _ _ _ _ _ _ _ _ _ _ _ _ _ _ _)
   | (with_reducible exact ih5 _ _ _ _ _ _ _ _ _ _ _ _ _ _ _ _ _ _ _ _ _ _ _ _ _ _ _)
   | (with_reducible exact ih6 _ _ _ _ _ _ _ _ _ _ _ _ _ _ _ _ _ _ _ _ _ _ _ _ _ _ _ _ _ _)
   | (with_reducible exact control_Bound.mono _ _ _ _ _ _ _ _ _ _)
   | (with_reducible exact control_Demand.mono _ _ _ _ _ _ _ _ _)
   | (with_reducible exact control_Plan.mono _ _ _ _ _ _ _)
   | (with_reducible exact soundserviceref18_Bound.mono _ _ _ _ _ _ _ _ _ _)
   | (with_reducible exact soundserviceref18_Demand.mono _ _ _ _ _ _ _ _ _)
   | (with_reducible exact soundserviceref18_Plan.mono _ _ _ _ _ _ _)
   | (with_reducible exact LeO.refl _)
   | (with_reducible exact LeO.none _)
   | (with_reducible refine LeO.ite ?_ ?_)
   | (with_reducible refine LeO.bind ?_ (fun _ => ?_))
   | exact ih0 _ _ _ _ _ _ _ _ _ _ _ _ _ _
   | exact ih1 _ _ _ _ _ _ _ _ _ _ _ _ _ _ _ _ _ _ _ _ _
   | exact ih2 _ _ _ _ _ _ _ _ _ _ _ _ _ _ _ _ _ _ _ _ _ _ _ _ _ _
   | exact ih3 _ _ _ _ _ _ _ _ _ _ _ _ _ _ _ _ _ _ _ _ _ _ _ _ _ _ _ _ _ _
   | exact ih4 _ _ _ _ _ _ _ _ _ _ _ _ _ _ _ _ _ _ _ _ _ _ _ _ _ _ _
   | exact ih5 _ _ _ _ _ _ _ _ _ _ _ _ _ _ _ _ _ _ _ _ _ _ _ _ _ _ _
   | exact ih6 _ _ _ _ _ _ _ _ _ _ _ _ _ _ _ _ _ _ _ _ _ _ _ _ _ _ _ _ _ _
   | exact control_Bound.mono _ _ _ _ _ _ _ _ _ _
   | exact control_Demand.mono _ _ _ _ _ _ _ _ _
   | exact control_Plan.mono _ _ _ _ _ _ _
   | exact soundserviceref18_Bound.mono _ _ _ _ _ _ _ _ _ _
   | exact soundserviceref18_Demand.mono _ _ _ _ _ _ _ _ _
   | exact soundserviceref18_Plan.mono _ _ _ _ _ _ _
   | exact LeO.none _
   | refine LeO.ite ?_ ?_
   | refine LeO.bind ?_ (fun _ => ?_)
  ·intro y0 y1 y2 y3 y4 y5 y6 y7 y8 y9 y10 y11 y12 y13 y14 y15 y16 y17 y18 y19 y20 y21 y22 y23 y24 y25 y26
   unfold soundservicelaw18_ControlBounds.j5
   repeat' first
   | (with_reducible exact ih0 _ _ _ _ _ _ _ _ _ _ _ _ _ _)
   | (with_reducible exact ih1 _ _ _ _ _ _ _ _ _ _ _ _ _ _ _ _ _ _ _ _ _)
   | (with_reducible exact ih2 _ _ _ _ _ _ _ _ _ _ _ _ _ _ _ _ _ _ _ _ _ _ _ _ _ _)
   | (with_reducible exact ih3 _ _ _ _ _ _ _ _ _ _ _ _ _ _ _ _ _ _ _ _ _ _ _ _ _ _ _ _ _ _)
   | (with_reducible exact ih4 _ _ _ _ _ _ _ _ _ _ _ _ _ _ _ _ _ _ _ _ _ _ _ _ _ _ _)
   | (with_reducible exact ih5 _ _ _ _ _ _ _ _ _ _ _ _ _ _ _ _ _ _ _ _ _ _ _ _ _ _ _)
   | (with_reducible exact ih6 _ _ _ _ _ _ _ _ _ _ _ _ _ _ _ _ _ _ _ _ _ _ _ _ _ _ _ _ _ _)
   | (with_reducible exact control_Bound.mono _ _ _ _ _ _ _ _ _ _)
   | (with_reducible exact control_Demand.mono _ _ _ _ _ _ _ _ _)
   | (with_reducible exact control_Plan.mono _ _ _ _ _ _ _)
   | (with_reducible exact soundserviceref18_Bound.mono _ _ _ _ _ _ _ _ _ _)
   | (with_reducible exact soundserviceref18_Demand.mono _ _ _ _ _ _ _ _ _)
   | (with_reducible exact soundserviceref18_Plan.mono _ _ _ _ _ _ _)
   | (with_reducible exact LeO.refl _)
   | (with_reducible exact LeO.none _)
   | (with_reducible refine LeO.ite ?_ ?_)
   | (with_reducible refine LeO.bind ?_ (fun _ => ?_))
   | exact ih0 _ _ _ _ _ _ _ _ _ _ _ _ _ _
   | exact ih1 _ _ _ _ _ _ _ _ _ _ _ _ _ _ _ _ _ _ _ _ _
   | exact ih2 _ _ _ _ _ _ _ _ _ _ _ _ _ _ _ _ _ _ _ _ _ _ _ _ _ _
   | exact ih3 _ _ _ _ _ _ _ _ _ _ _ _ _ _ _ _ _ _ _ _ _ _ _ _ _ _ _ _ _ _
   | exact ih4 _ _ _ _ _ _ _ _ _ _ _ _ _ _ _ _ _ _ _ _ _ _ _ _ _ _ _
   | exact ih5 _ _ _ _ _ _ _ _ _ _ _ _ _ _ _ _ _ _ _ _ _ _ _ _ _ _ _
   | exact ih6 _ _ _ _ _ _ _ _ _ _ _ _ _ _ _ _ _ _ _ _ _ _ _ _ _ _ _ _ _ _
   | exact control_Bound.mono _ _ _ _ _ _ _ _ _ _
   | exact control_Demand.mono _ _ _ _ _ _ _ _ _
   | exact control_Plan.mono _ _ _ _ _ _ _
   | exact soundserviceref18_Bound.mono _ _ _ _ _ _ _ _ _ _
   | exact soundserviceref18_Demand.mono _ _ _ _ _ _ _ _ _
   | exact soundserviceref18_Plan.mono _ _ _ _ _ _ _
   | exact LeO.none _
   | refine LeO.ite ?_ ?_
   | refine LeO.bind ?_ (fun _ => ?_)
  ·intro y0 y1 y2 y3 y4 y5 y6 y7 y8 y9 y10 y11 y12 y13 y14 y15 y16 y17 y18 y19 y20 y21 y22 y23 y24 y25 y26 y27 y28 y29
   unfold soundservicelaw18_ControlBounds.j3
   repeat' first
   | (with_reducible exact ih0 _ _ _ _ _ _ _ _ _ _ _ _ _ _)
   | (with_reducible exact ih1 _ _ _ _ _ _ _ _ _ _ _ _ _ _ _ _ _ _ _ _ _)
   | (with_reducible exact ih2 _ _ _ _ _ _ _ _ _ _ _ _ _ _ _ _ _ _ _ _ _ _ _ _ _ _)
   | (with_reducible exact ih3 _ _ _ _ _ _ _ _ _ _ _ _ _ _ _ _ _ _ _ _ _ _ _ _ _ _ _ _ _ _)
   | (with_reducible exact ih4 _ _ _ _ _ _ _ _ _ _ _ _ _ _ _ _ _ _ _ _ _ _ _ _ _ _ _)
   | (with_reducible exact ih5 _ _ _ _ _ _ _ _ _ _ _ _ _ _ _ _ _ _ _ _ _ _ _ _ _ _ _)
   | (with_reducible exact ih6 _ _ _ _ _ _ _ _ _ _ _ _ _ _ _ _ _ _ _ _ _ _ _ _ _ _ _ _ _ _)
   | (with_reducible exact control_Bound.mono _ _ _ _ _ _ _ _ _ _)
   | (with_reducible exact control_Demand.mono _ _ _ _ _ _ _ _ _)
   | (with_reducible exact control_Plan.mono _ _ _ _ _ _ _)
   | (with_reducible exact soundserviceref18_Bound.mono _ _ _ _ _ _ _ _ _ _)
   | (with_reducible exact soundserviceref18_Demand.mono _ _ _ _ _ _ _ _ _)
   | (with_reducible exact soundserviceref18_Plan.mono _ _ _ _ _ _ _)
   | (with_reducible exact LeO.refl _)
   | (with_reducible exact LeO.none _)
   | (with_reducible refine LeO.ite ?_ ?_)
   | (with_reducible refine LeO.bind ?_ (fun _ => ?_))
   | exact ih0 _ _ _ _ _ _ _ _ _ _ _ _ _ _
   | exact ih1 _ _ _ _ _ _ _ _ _ _ _ _ _ _ _ _ _ _ _ _ _
   | exact ih2 _ _ _ _ _ _ _ _ _ _ _ _ _ _ _ _ _ _ _ _ _ _ _ _ _ _
   | exact ih3 _ _ _ _ _ _ _ _ _ _ _ _ _ _ _ _ _ _ _ _ _ _ _ _ _ _ _ _ _ _
   | exact ih4 _ _ _ _ _ _ _ _ _ _ _ _ _ _ _ _ _ _ _ _ _ _ _ _ _ _ _
   | exact ih5 _ _ _ _ _ _ _ _ _ _ _ _ _ _ _ _ _ _ _ _ _ _ _ _ _ _ _
   | exact ih6 _ _ _ _ _ _ _ _ _ _ _ _ _ _ _ _ _ _ _ _ _ _ _ _ _ _ _ _ _ _
   | exact control_Bound.mono _ _ _ _ _ _ _ _ _ _
   | exact control_Demand.mono _ _ _ _ _ _ _ _ _
   | exact control_Plan.mono _ _ _ _ _ _ _
   | exact soundserviceref18_Bound.mono _ _ _ _ _ _ _ _ _ _
   | exact soundserviceref18_Demand.mono _ _ _ _ _ _ _ _ _
   | exact soundserviceref18_Plan.mono _ _ _ _ _ _ _
   | exact LeO.none _
   | refine LeO.ite ?_ ?_
   | refine LeO.bind ?_ (fun _ => ?_)
theorem soundservicelaw18_ControlBounds.mono : ∀ a0 a1 a2 a3 a4 a5 a6 a7 a8 a9 a10 a11 k, LeO (soundservicelaw18_ControlBounds.f k a0 a1 a2 a3 a4 a5 a6 a7 a8 a9 a10 a11) (soundservicelaw18_ControlBounds.f (k + 1) a0 a1 a2 a3 a4 a5 a6 a7 a8 a9 a10 a11) := by
 intro a0 a1 a2 a3 a4 a5 a6 a7 a8 a9 a10 a11 k
 obtain ⟨ih0, ih1, ih2, ih3, ih4, ih5, ih6⟩ := soundservicelaw18_ControlBounds.mono_l k
 unfold soundservicelaw18_ControlBounds.f
 repeat' first
   | (with_reducible exact ih0 _ _ _ _ _ _ _ _ _ _ _ _ _ _)
   | (with_reducible exact ih1 _ _ _ _ _ _ _ _ _ _ _ _ _ _ _ _ _ _ _ _ _)
   | (with_reducible exact ih2 _ _ _ _ _ _ _ _ _ _ _ _ _ _ _ _ _ _ _ _ _ _ _ _ _ _)
   | (with_reducible exact ih3 _ _ _ _ _ _ _ _ _ _ _ _ _ _ _ _ _ _ _ _ _ _ _ _ _ _ _ _ _ _)
   | (with_reducible exact ih4 _ _ _ _ _ _ _ _ _ _ _ _ _ _ _ _ _ _ _ _ _ _ _ _ _ _ _)
   | (with_reducible exact ih5 _ _ _ _ _ _ _ _ _ _ _ _ _ _ _ _ _ _ _ _ _ _ _ _ _ _ _)
   | (with_reducible exact ih6 _ _ _ _ _ _ _ _ _ _ _ _ _ _ _ _ _ _ _ _ _ _ _ _ _ _ _ _ _ _)
   | (with_reducible exact control_Bound.mono _ _ _ _ _ _ _ _ _ _)
   | (with_reducible exact control_Demand.mono _ _ _ _ _ _ _ _ _)
   | (with_reducible exact control_Plan.mono _ _ _ _ _ _ _)
   | (with_reducible exact soundserviceref18_Bound.mono _ _ _ _ _ _ _ _ _ _)
   | (with_reducible exact soundserviceref18_Demand.mono _ _ _ _ _ _ _ _ _)
   | (with_reducible exact soundserviceref18_Plan.mono _ _ _ _ _ _ _)
   | (with_reducible exact LeO.refl _)
   | (with_reducible exact LeO.none _)
   | (with_reducible refine LeO.ite ?_ ?_)
   | (with_reducible refine LeO.bind ?_ (fun _ => ?_))
   | exact ih0 _ _ _ _ _ _ _ _ _ _ _ _ _ _
   | exact ih1 _ _ _ _ _ _ _ _ _ _ _ _ _ _ _ _ _ _ _ _ _
   | exact ih2 _ _ _ _ _ _ _ _ _ _ _ _ _ _ _ _ _ _ _ _ _ _ _ _ _ _
   | exact ih3 _ _ _ _ _ _ _ _ _ _ _ _ _ _ _ _ _ _ _ _ _ _ _ _ _ _ _ _ _ _
   | exact ih4 _ _ _ _ _ _ _ _ _ _ _ _ _ _ _ _ _ _ _ _ _ _ _ _ _ _ _
   | exact ih5 _ _ _ _ _ _ _ _ _ _ _ _ _ _ _ _ _ _ _ _ _ _ _ _ _ _ _
   | exact ih6 _ _ _ _ _ _ _ _ _ _ _ _ _ _ _ _ _ _ _ _ _ _ _ _ _ _ _ _ _ _
   | exact control_Bound.mono _ _ _ _ _ _ _ _ _ _
   | exact control_Demand.mono _ _ _ _ _ _ _ _ _
   | exact control_Plan.mono _ _ _ _ _ _ _
   | exact soundserviceref18_Bound.mono _ _ _ _ _ _ _ _ _ _
   | exact soundserviceref18_Demand.mono _ _ _ _ _ _ _ _ _
   | exact soundserviceref18_Plan.mono _ _ _ _ _ _ _
   | exact LeO.none _
   | refine LeO.ite ?_ ?_
   | refine LeO.bind ?_ (fun _ => ?_)

end Go.Proofs.Ytcnheiemajghiaa.PA
