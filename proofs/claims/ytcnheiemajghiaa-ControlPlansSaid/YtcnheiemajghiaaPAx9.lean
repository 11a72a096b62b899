/- Walks of functions of the program: each does what its Lean function says. Written by a program of this session (wip/xprint), which runs the printer of the kit with changes. -/
import Derived.Test.YtcnheiemajghiaaPAx0
import Derived.Test.YtcnheiemajghiaaPAx1
import Derived.Test.YtcnheiemajghiaaPAx2
import Derived.Test.YtcnheiemajghiaaPAx3
import Derived.Test.YtcnheiemajghiaaPAx4
import Derived.Test.YtcnheiemajghiaaPAx5
import Derived.Test.YtcnheiemajghiaaPAx6
import Derived.Test.YtcnheiemajghiaaPAx8
namespace Go.Proofs.Ytcnheiemajghiaa.PA
open Go.RowKit Go.Proofs.YtcnheiemajghiaaW.PrintWords Go.Proofs.YtcnheiemajghiaaW.PrintLast Go.Proofs.YtcnheiemajghiaaW.PrintMore
attribute [local go_sem] max2_int min2_int max_two min_two max_three min_three max_four min_four   -- for this text's walks alone
set_option linter.unusedVariables false
set_option linter.unusedSimpArgs false

attribute [local go_sem high] eqA23
/-! ### soundservicelaw18_ControlPlans: function 9 -/
mutual
def soundservicelaw18_ControlPlans.j1 : Nat → Int → Int → Int → Int → List (S54) → Int → Int → Int → Int → Int → Int → Option (Bool)
 | 0, _, _, _, _, _, _, _, _, _, _, _ => none
 | k + 1, x11, x12, x14, x15, x16, x189000, x189001, x196000, x196001, x196002, x196003 => (control_Declared.f k 1 1 64 1 (wrap64 (Int.tdiv x11 2)) x12 x16).bind fun t203 => (if t203 = true then ((control_Declared.f k 1 1 64 1 x11 (wrap64 (x12 + 1)) x16).bind fun t204 => (soundservicelaw18_ControlPlans.j2 k x11 x12 x14 x15 (!t204) x189000 x189001 x196000 x196001 x196002 x196003)) else (soundservicelaw18_ControlPlans.j2 k x11 x12 x14 x15 false x189000 x189001 x196000 x196001 x196002 x196003))
def soundservicelaw18_ControlPlans.j2 : Nat → Int → Int → Int → Int → Bool → Int → Int → Int → Int → Int → Int → Option (Bool)
 | 0, _, _, _, _, _, _, _, _, _, _, _ => none
 | k + 1, x11, x12, x14, x15, x95, x189000, x189001, x196000, x196001, x196002, x196003 => if x95 = true then (some false) else (if x15 = 0 then ((control_Bound.f k x196000 x196001 x196002 x196003 x189000 x189001 x11 x12 0).bind fun bt205 => ((control_Demand.f k x196000 x196001 x196002 x196003 x189000 x189001 x11 x12).bind fun bt207 => (if bt205.2 = 0 then (if bt207.2 = 0 then (if (wrap64 (x196000 - bt205.1)) ≥ bt207.1 then (if (wrap64 (x196000 + bt205.1)) ≤ x14 then (if x14 ≤ 65536 then ((control_Valid.f x196000 x196001 x196002 x196003).bind fun t209 => (some t209)) else (some false)) else (some false)) else (some false)) else (some false)) else (some false)))) else (if (x196000 == 0 && (x196001 == 0 && (x196002 == 0 && (x196003 == 0)))) = true then (some (x14 == 0)) else (some false)))
def soundservicelaw18_ControlPlans.l0 : Nat → List Int → Int → Int → Int → Int → List (S54) → Int → Int → Int → Int → Int → Int → Int → Option (Bool)
 | 0, _, _, _, _, _, _, _, _, _, _, _, _, _ => none
 | k + 1, x3, x11, x12, x14, x15, x16, x17, x189000, x189001, x196000, x196001, x196002, x196003 => if (wrap64 (x17 + 1)) < (x3.length : Int) then (if x17 < 24 then (if 0 ≤ x17 then (if x17 < (x3.length : Int) then (if 0 ≤ (wrap64 (x17 + 1)) then (if x16.length < 8796093022208 then (soundservicelaw18_ControlPlans.l0 k x3 x11 x12 x14 x15 (x16 ++ [(⟨wrap64 (62 + (wrap64 (Int.tmod (rd x3 x17) 5))), wrap64 (62 + (wrap64 (Int.tmod (rd x3 (wrap64 (x17 + 1))) 5)))⟩ : S54)]) (wrap64 (x17 + 2)) x189000 x189001 x196000 x196001 x196002 x196003) else (none)) else (none)) else (none)) else (none)) else (soundservicelaw18_ControlPlans.j1 k x11 x12 x14 x15 x16 x189000 x189001 x196000 x196001 x196002 x196003)) else (soundservicelaw18_ControlPlans.j1 k x11 x12 x14 x15 x16 x189000 x189001 x196000 x196001 x196002 x196003)
end
def soundservicelaw18_ControlPlans.f (k : Nat) (l0 : List Int) (a1 : Int) (a2 : Int) (l3 : List Int) : Option (Bool) := (soundservicelaw18_sane.f).bind fun t175 => (if t175 = true then ((soundservicemade_New.f l0).bind fun t176 => ((soundservicelaw18_made.f t176).bind fun bt178 => ((control_Plan.f k bt178.2.2.2.2.1 bt178.2.2.2.2.2.1 bt178.2.2.2.2.2.2.1 bt178.2.2.2.2.2.2.2.1 (wrap64 (a1)) (wrap64 (1 + (wrap64 (a2))))).bind fun bt189 => (soundservicelaw18_ControlPlans.l0 k l3 bt178.2.2.2.2.2.2.1 bt178.2.2.2.2.2.2.2.1 bt189.2.2.2.2.1 bt189.2.2.2.2.2 ([] : List (S54)) 0 bt178.2.2.2.2.1 bt178.2.2.2.2.2.1 bt189.1 bt189.2.1 bt189.2.2.1 bt189.2.2.2.1)))) else (some false))
theorem soundservicelaw18_ControlPlans.mono_l : ∀ k, (∀ y0 y1 y2 y3 y4 y5 y6 y7 y8 y9 y10, LeO (soundservicelaw18_ControlPlans.j1 k y0 y1 y2 y3 y4 y5 y6 y7 y8 y9 y10) (soundservicelaw18_ControlPlans.j1 (k + 1) y0 y1 y2 y3 y4 y5 y6 y7 y8 y9 y10)) ∧ (∀ y0 y1 y2 y3 y4 y5 y6 y7 y8 y9 y10, LeO (soundservicelaw18_ControlPlans.j2 k y0 y1 y2 y3 y4 y5 y6 y7 y8 y9 y10) (soundservicelaw18_ControlPlans.j2 (k + 1) y0 y1 y2 y3 y4 y5 y6 y7 y8 y9 y10)) ∧ (∀ y0 y1 y2 y3 y4 y5 y6 y7 y8 y9 y10 y11 y12, LeO (soundservicelaw18_ControlPlans.l0 k y0 y1 y2 y3 y4 y5 y6 y7 y8 y9 y10 y11 y12) (soundservicelaw18_ControlPlans.l0 (k + 1) y0 y1 y2 y3 y4 y5 y6 y7 y8 y9 y10 y11 y12))
 | 0 => ⟨fun _ _ _ _ _ _ _ _ _ _ _ r h => by simp [soundservicelaw18_ControlPlans.j1] at h, fun _ _ _ _ _ _ _ _ _ _ _ r h => by simp [soundservicelaw18_ControlPlans.j2] at h, fun _ _ _ _ _ _ _ _ _ _ _ _ _ r h => by simp [soundservicelaw18_ControlPlans.l0] at h⟩
 | k + 1 => by
  obtain ⟨ih0, ih1, ih2⟩ := soundservicelaw18_ControlPlans.mono_l k
  refine ⟨?_, ?_, ?_⟩
  ·intro y0 y1 y2 y3 y4 y5 y6 y7 y8 y9 y10
   unfold soundservicelaw18_ControlPlans.j1
   repeat' first
   | (with_reducible exact ih0 _ _ _ _ _ _ _ _ _ _ _)
   | (with_reducible exact ih1 _ _ _ _ _ _ _ _ _ _ _)
   | (with_reducible exact ih2 _ _ _ _ _ _ _ _ _ _ _ _ _)
   | (with_reducible exact control_Bound.mono _ _ _ _ _ _ _ _ _ _)
   | (with_reducible exact control_Declared.mono _ _ _ _ _ _ _ _)
   | (with_reducible exact control_Demand.mono _ _ _ _ _ _ _ _ _)
   | (with_reducible exact control_Plan.mono _ _ _ _ _ _ _)
   | (with_reducible exact LeO.refl _)
   | (with_reducible exact LeO.none _)
   | (with_reducible refine LeO.ite ?_ ?_)
   | (with_reducible refine LeO.bind ?_ (fun _ => ?_))
   | exact ih0 _ _ _ _ _ _ _ _ _ _ _
   | exact ih1 _ _ _ _ _ _ _ _ _ _ _
   | exact ih2 _ _ _ _ _ _ _ _ _ _ _ _ _
   | exact control_Bound.mono _ _ _ _ _ _ _ _ _ _
   | exact control_Declared.mono _ _ _ _ _ _ _ _
   | exact control_Demand.mono _ _ _ _ _ _ _ _ _
   | exact control_Plan.mono _ _ _ _ _ _ _
   | exact LeO.none _
   | refine LeO.ite ?_ ?_
   | refine LeO.bind ?_ (fun _ => ?_)
  ·intro y0 y1 y2 y3 y4 y5 y6 y7 y8 y9 y10
   unfold soundservicelaw18_ControlPlans.j2
   repeat' first
   | (with_reducible exact ih0 _ _ _ _ _ _ _ _ _ _ _)
   | (with_reducible exact ih1 _ _ _ _ _ _ _ _ _ _ _)
   | (with_reducible exact ih2 _ _ _ _ _ _ _ _ _ _ _ _ _)
   | (with_reducible exact control_Bound.mono _ _ _ _ _ _ _ _ _ _)
   | (with_reducible exact control_Declared.mono _ _ _ _ _ _ _ _)
   | (with_reducible exact control_Demand.mono _ _ _ _ _ _ _ _ _)
   | (with_reducible exact control_Plan.mono _ _ _ _ _ _ _)
   | (with_reducible exact LeO.refl _)
   | (with_reducible exact LeO.none _)
   | (with_reducible refine LeO.ite ?_ ?_)
   | (with_reducible refine LeO.bind ?_ (fun _ => ?_))
   | exact ih0 _ _ _ _ _ _ _ _ _ _ _
   | exact ih1 _ _ _ _ _ _ _ _ _ _ _
   | exact ih2 _ _ _ _ _ _ _ _ _ _ _ _ _
   | exact control_Bound.mono _ _ _ _ _ _ _ _ _ _
   | exact control_Declared.mono _ _ _ _ _ _ _ _
   | exact control_Demand.mono _ _ _ _ _ _ _ _ _
   | exact control_Plan.mono _ _ _ _ _ _ _
   | exact LeO.none _
   | refine LeO.ite ?_ ?_
   | refine LeO.bind ?_ (fun _ => ?_)
  ·intro y0 y1 y2 y3 y4 y5 y6 y7 y8 y9 y10 y11 y12
   unfold soundservicelaw18_ControlPlans.l0
   repeat' first
   | (with_reducible exact ih0 _ _ _ _ _ _ _ _ _ _ _)
   | (with_reducible exact ih1 _ _ _ _ _ _ _ _ _ _ _)
   | (with_reducible exact ih2 _ _ _ _ _ _ _ _ _ _ _ _ _)
   | (with_reducible exact control_Bound.mono _ _ _ _ _ _ _ _ _ _)
   | (with_reducible exact control_Declared.mono _ _ _ _ _ _ _ _)
   | (with_reducible exact control_Demand.mono _ _ _ _ _ _ _ _ _)
   | (with_reducible exact control_Plan.mono _ _ _ _ _ _ _)
   | (with_reducible exact LeO.refl _)
   | (with_reducible exact LeO.none _)
   | (with_reducible refine LeO.ite ?_ ?_)
   | (with_reducible refine LeO.bind ?_ (fun _ => ?_))
   | exact ih0 _ _ _ _ _ _ _ _ _ _ _
   | exact ih1 _ _ _ _ _ _ _ _ _ _ _
   | exact ih2 _ _ _ _ _ _ _ _ _ _ _ _ _
   | exact control_Bound.mono _ _ _ _ _ _ _ _ _ _
   | exact control_Declared.mono _ _ _ _ _ _ _ _
   | exact control_Demand.mono _ _ _ _ _ _ _ _ _
   | exact control_Plan.mono _ _ _ _ _ _ _
   | exact LeO.none _
   | refine LeO.ite ?_ ?_
   | refine LeO.bind ?_ (fun _ => ?_)
theorem soundservicelaw18_ControlPlans.mono : ∀ a0 a1 a2 a3 k, LeO (soundservicelaw18_ControlPlans.f k a0 a1 a2 a3) (soundservicelaw18_ControlPlans.f (k + 1) a0 a1 a2 a3) := by
 intro a0 a1 a2 a3 k
 obtain ⟨ih0, ih1, ih2⟩ := soundservicelaw18_ControlPlans.mono_l k
 unfold soundservicelaw18_ControlPlans.f
 repeat' first
   | (with_reducible exact ih0 _ _ _ _ _ _ _ _ _ _ _)
   | (with_reducible exact ih1 _ _ _ _ _ _ _ _ _ _ _)
   | (with_reducible exact ih2 _ _ _ _ _ _ _ _ _ _ _ _ _)
   | (with_reducible exact control_Bound.mono _ _ _ _ _ _ _ _ _ _)
   | (with_reducible exact control_Declared.mono _ _ _ _ _ _ _ _)
   | (with_reducible exact control_Demand.mono _ _ _ _ _ _ _ _ _)
   | (with_reducible exact control_Plan.mono _ _ _ _ _ _ _)
   | (with_reducible exact LeO.refl _)
   | (with_reducible exact LeO.none _)
   | (with_reducible refine LeO.ite ?_ ?_)
   | (with_reducible refine LeO.bind ?_ (fun _ => ?_))
   | exact ih0 _ _ _ _ _ _ _ _ _ _ _
   | exact ih1 _ _ _ _ _ _ _ _ _ _ _
   | exact ih2 _ _ _ _ _ _ _ _ _ _ _ _ _
   | exact control_Bound.mono _ _ _ _ _ _ _ _ _ _
   | exact control_Declared.mono _ _ _ _ _ _ _ _
   | exact control_Demand.mono _ _ _ _ _ _ _ _ _
   | exact control_Plan.mono _ _ _ _ _ _ _
   | exact LeO.none _
   | refine LeO.ite ?_ ?_
   | refine LeO.bind ?_ (fun _ => ?_)
def soundservicelaw18_ControlPlans.T9 : Bool × List (List Nat × List Nat) := (true, [([], []), ([], []), ([], []), ([1, 2], [1, 2]), ([3], [3]), ([4], [4]), ([5], [5]), ([6], [6]), ([], []), ([], []), ([9], [9]), ([8, 10], [8, 10]), ([11], [11]), ([12], [12]), ([13], [13]), ([14], [14]), ([7, 15], [7, 15]), ([16], [16]), ([0, 17], [0, 17]), ([18, 18, 0, 1, 2, 3, 4, 5, 6, 7, 8, 9, 10, 11, 12, 13, 14, 15, 16, 17, 18], [0, 18])])
def soundservicelaw18_ControlPlans.B9 : List Nat := [0, 0, 0, 6, 14, 30, 62, 126, 0, 0, 512, 1792, 3840, 7936, 16128, 32512, 65534, 131070, 262143, 524287]
theorem soundservicelaw18_ControlPlans.tab9 : rtab .any (opsOf Try.f9 9) = soundservicelaw18_ControlPlans.T9 := by kernel_rfl
theorem soundservicelaw18_ControlPlans.bits9 : waitsOk soundservicelaw18_ControlPlans.T9.2 soundservicelaw18_ControlPlans.B9 = true := by kernel_rfl
abbrev soundservicelaw18_ControlPlans.q0 : Array Bool := #[false, false, false, false, false, false, false, false, false, false, false, false, false, false, false, false, false, false, false, false]
abbrev soundservicelaw18_ControlPlans.q1 : Array Bool := #[true, false, false, false, false, false, false, false, false, false, false, false, false, false, false, false, false, false, false, false]
abbrev soundservicelaw18_ControlPlans.q2 : Array Bool := #[true, true, false, false, false, false, false, false, false, false, false, false, false, false, false, false, false, false, false, false]
abbrev soundservicelaw18_ControlPlans.q3 : Array Bool := #[true, true, true, false, false, false, false, false, false, false, false, false, false, false, false, false, false, false, false, false]
abbrev soundservicelaw18_ControlPlans.q4 : Array Bool := #[true, true, true, true, false, false, false, false, false, false, false, false, false, false, false, false, false, false, false, false]
abbrev soundservicelaw18_ControlPlans.q5 : Array Bool := #[true, true, true, true, false, false, false, false, true, false, false, false, false, false, false, false, false, false, false, false]
abbrev soundservicelaw18_ControlPlans.q6 : Array Bool := #[true, true, true, true, false, false, false, false, true, true, false, false, false, false, false, false, false, false, false, false]
abbrev soundservicelaw18_ControlPlans.q7 : Array Bool := #[true, true, true, true, false, false, false, false, true, true, true, false, false, false, false, false, false, false, false, false]
abbrev soundservicelaw18_ControlPlans.q8 : Array Bool := #[true, true, true, true, false, false, false, false, true, true, true, true, false, false, false, false, false, false, false, false]
abbrev soundservicelaw18_ControlPlans.q9 : Array Bool := #[true, true, true, true, true, false, false, false, true, true, true, true, false, false, false, false, false, false, false, false]
abbrev soundservicelaw18_ControlPlans.q10 : Array Bool := #[true, true, true, true, true, true, false, false, true, true, true, true, false, false, false, false, false, false, false, false]
abbrev soundservicelaw18_ControlPlans.q11 : Array Bool := #[true, true, true, true, true, true, true, false, true, true, true, true, false, false, false, false, false, false, false, false]
abbrev soundservicelaw18_ControlPlans.q12 : Array Bool := #[true, true, true, true, true, true, true, true, true, true, true, true, false, false, false, false, false, false, false, false]
abbrev soundservicelaw18_ControlPlans.q13 : Array Bool := #[true, true, true, true, true, true, true, true, true, true, true, true, true, false, false, false, false, false, false, false]
abbrev soundservicelaw18_ControlPlans.q14 : Array Bool := #[true, true, true, true, true, true, true, true, true, true, true, true, true, true, false, false, false, false, false, false]
abbrev soundservicelaw18_ControlPlans.q15 : Array Bool := #[true, true, true, true, true, true, true, true, true, true, true, true, true, true, true, false, false, false, false, false]
abbrev soundservicelaw18_ControlPlans.q16 : Array Bool := #[true, true, true, true, true, true, true, true, true, true, true, true, true, true, true, true, false, false, false, false]
abbrev soundservicelaw18_ControlPlans.q17 : Array Bool := #[true, true, true, true, true, true, true, true, true, true, true, true, true, true, true, true, true, false, false, false]
abbrev soundservicelaw18_ControlPlans.q18 : Array Bool := #[true, true, true, true, true, true, true, true, true, true, true, true, true, true, true, true, true, true, false, false]
abbrev soundservicelaw18_ControlPlans.q19 : Array Bool := #[true, true, true, true, true, true, true, true, true, true, true, true, true, true, true, true, true, true, true, false]
abbrev soundservicelaw18_ControlPlans.q20 : Array Bool := #[true, true, true, true, true, true, true, true, true, true, true, true, true, true, true, true, true, true, true, true]
set_option maxHeartbeats 8000000 in
set_option maxRecDepth 100000 in
theorem soundservicelaw18_ControlPlans.calls (k : Nat) (A0 : Option Addr) (c0 : Nat) (l0 : List Int) (a1 : Int) (a2 : Int) (A3 : Option Addr) (c3 : Nat) (l3 : List Int) (r : Bool) (w : World) (hr0 : Kd.C (Kd.int .u8) w A0 l0.length l0) (hc0 : l0.length ≤ c0) (hr3 : Kd.C (Kd.int .u8) w A3 l3.length l3) (hc3 : l3.length ≤ c3) (h : soundservicelaw18_ControlPlans.f k l0 a1 a2 l3 = some r) :
  Calls Try.prog 9 #[.slice A0 l0.length c0, .int .u8 a1, .int .u8 a2, .slice A3 l3.length c3] w fun e w' => e = .returned (.bool r) ∧ Below w.heap.size w w' := by
 have hu23 := Try.underlying23
 have hu27 := Try.underlying27
 have hu54 := Try.underlying54
 have HR0 := Am hr0
 have HC0 := Am hc0
 clear hr0 hc0
 have HR3 := Am hr3
 have HC3 := Am hc3
 clear hr3 hc3
 have HB := Am (Below.refl w.heap.size w)
 have H : ((soundservicelaw18_sane.f).bind fun t175 => (if t175 = true then ((soundservicemade_New.f l0).bind fun t176 => ((soundservicelaw18_made.f t176).bind fun bt178 => ((control_Plan.f k bt178.2.2.2.2.1 bt178.2.2.2.2.2.1 bt178.2.2.2.2.2.2.1 bt178.2.2.2.2.2.2.2.1 (wrap64 (a1)) (wrap64 (1 + (wrap64 (a2))))).bind fun bt189 => (soundservicelaw18_ControlPlans.l0 k l3 bt178.2.2.2.2.2.2.1 bt178.2.2.2.2.2.2.2.1 bt189.2.2.2.2.1 bt189.2.2.2.2.2 ([] : List (S54)) 0 bt178.2.2.2.2.1 bt178.2.2.2.2.2.1 bt189.1 bt189.2.1 bt189.2.2.1 bt189.2.2.2.1)))) else (some false))) = some r := h
 clear h
 replace H := Option.bind_eq_some_iff.mp H
 obtain ⟨t175, A50, H⟩ := H
 replace H : (if t175 = true then ((soundservicemade_New.f l0).bind fun t176 => ((soundservicelaw18_made.f t176).bind fun bt178 => ((control_Plan.f k bt178.2.2.2.2.1 bt178.2.2.2.2.2.1 bt178.2.2.2.2.2.2.1 bt178.2.2.2.2.2.2.2.1 (wrap64 (a1)) (wrap64 (1 + (wrap64 (a2))))).bind fun bt189 => (soundservicelaw18_ControlPlans.l0 k l3 bt178.2.2.2.2.2.2.1 bt178.2.2.2.2.2.2.2.1 bt189.2.2.2.2.1 bt189.2.2.2.2.2 ([] : List (S54)) 0 bt178.2.2.2.2.1 bt178.2.2.2.2.2.1 bt189.1 bt189.2.1 bt189.2.2.1 bt189.2.2.2.1)))) else (some false)) = some r := H
 have A5 := Am A50
 clear A50
 by_cases c6 : t175 = true
 ·subst c6
  have H1 : ((soundservicemade_New.f l0).bind fun t176 => ((soundservicelaw18_made.f t176).bind fun bt178 => ((control_Plan.f k bt178.2.2.2.2.1 bt178.2.2.2.2.2.1 bt178.2.2.2.2.2.2.1 bt178.2.2.2.2.2.2.2.1 (wrap64 (a1)) (wrap64 (1 + (wrap64 (a2))))).bind fun bt189 => (soundservicelaw18_ControlPlans.l0 k l3 bt178.2.2.2.2.2.2.1 bt178.2.2.2.2.2.2.2.1 bt189.2.2.2.2.1 bt189.2.2.2.2.2 ([] : List (S54)) 0 bt178.2.2.2.2.1 bt178.2.2.2.2.2.1 bt189.1 bt189.2.1 bt189.2.2.1 bt189.2.2.2.1)))) = some r := by rw [if_pos rfl] at H; exact H
  clear H; have H := H1; clear H1
  replace H := Option.bind_eq_some_iff.mp H
  obtain ⟨t176, A70, H⟩ := H
  replace H : ((soundservicelaw18_made.f t176).bind fun bt178 => ((control_Plan.f k bt178.2.2.2.2.1 bt178.2.2.2.2.2.1 bt178.2.2.2.2.2.2.1 bt178.2.2.2.2.2.2.2.1 (wrap64 (a1)) (wrap64 (1 + (wrap64 (a2))))).bind fun bt189 => (soundservicelaw18_ControlPlans.l0 k l3 bt178.2.2.2.2.2.2.1 bt178.2.2.2.2.2.2.2.1 bt189.2.2.2.2.1 bt189.2.2.2.2.2 ([] : List (S54)) 0 bt178.2.2.2.2.1 bt178.2.2.2.2.2.1 bt189.1 bt189.2.1 bt189.2.2.1 bt189.2.2.2.1))) = some r := H
  have A7 := Am A70
  clear A70
  replace H := Option.bind_eq_some_iff.mp H
  obtain ⟨⟨t178, t179, t180, t181, t182, t183, t184, t185, t186⟩, A80, H⟩ := H
  replace H : ((control_Plan.f k t182 t183 t184 t185 (wrap64 (a1)) (wrap64 (1 + (wrap64 (a2))))).bind fun bt189 => (soundservicelaw18_ControlPlans.l0 k l3 t184 t185 bt189.2.2.2.2.1 bt189.2.2.2.2.2 ([] : List (S54)) 0 t182 t183 bt189.1 bt189.2.1 bt189.2.2.1 bt189.2.2.2.1)) = some r := H
  have A8 := Am A80
  clear A80
  replace H := Option.bind_eq_some_iff.mp H
  obtain ⟨⟨t189, t190, t191, t192, t193, t194⟩, A90, H⟩ := H
  replace H : (soundservicelaw18_ControlPlans.l0 k l3 t184 t185 t193 t194 ([] : List (S54)) 0 t182 t183 t189 t190 t191 t192) = some r := H
  have A9 := Am A90
  clear A90
  have HC10 := Am H
  clear H
  go_enter Try.func9, Try.ntmps9
  go_upto_block 0 with (first | ((with_reducible refine gate_callee (f := 10) rfl ?_); refine goesL_ (some 24) rfl rfl Try.func10 (by kernel_rfl) rfl #[] rfl (by (try simp only [List.map_toArray, List.map_cons, List.map_nil]); first | done | rfl | (simp only [List.length_drop, List.length_take]; rfl)) ?_; (with_reducible refine (soundservicelaw18_sane.calls  true _ A5.out).mono ?_); rintro e w11 ⟨rfl, hb⟩; refine ⟨_, rfl, ?_⟩; have n0_ := Am (below_step (by repeat (first | (with_reducible first | exact HB.out | apply bA | apply bN | apply bD) | exact HB.out)) hb); clear HB; have HB := n0_; clear n0_; (try clear hb); (try clear hb2); (try clear hk); (try clear hi)) | ((with_reducible refine gate_callee (f := 12) rfl ?_); refine goesL_ (some 28) rfl rfl Try.func12 (by kernel_rfl) rfl #[.slice A0 l0.length c0] rfl (by (try simp only [List.map_toArray, List.map_cons, List.map_nil]); first | done | rfl | (simp only [List.length_drop, List.length_take]; rfl)) ?_; (with_reducible refine (soundservicemade_New.calls _ _ l0 t176 w _ ?side1 ?side2 ?side3 A7.out).mono ?_); (case side1 => repeat (first | (with_reducible first | exact HB.out | apply bA | apply bN | apply bD) | exact HB.out)); (case side2 => exact HR0.out); (case side3 => exact HC0.out); rintro e w12 ⟨g177, rfl, hi, hb, hb2⟩; refine ⟨_, rfl, ?_⟩; have n0_ := Am (hb); have n1_ := Am (hi); clear HB; have HB := n0_; have HI177 := n1_; clear n0_ n1_; (try clear hb); (try clear hb2); (try clear hk); (try clear hi)) | ((with_reducible refine gate_callee (f := 11) rfl ?_); refine goesL_ (some 29) rfl rfl Try.func11 (by kernel_rfl) rfl #[.pointer (some ⟨g177, 0, none⟩)] rfl (by (try simp only [List.map_toArray, List.map_cons, List.map_nil]); first | done | rfl | (simp only [List.length_drop, List.length_take]; rfl)) ?_; (with_reducible refine (soundservicelaw18_made.calls g177 t176 t178 t179 t180 t181 t182 t183 t184 t185 t186 w _ ?side1 ?side2 A8.out).mono ?_); (case side1 => repeat (first | (with_reducible first | exact HI177.out | apply IsS59.alloc | apply IsS59.drewN | apply IsS59.drew) | exact HI177.out)); (case side2 => repeat (first | (with_reducible first | exact HB.out | apply bA | apply bN | apply bD | refine bS ?_ (IsS59.ge HI177.out)) | exact HB.out)); rintro e w13 ⟨rfl, hi, hb, hk⟩; refine ⟨_, rfl, ?_⟩; have n0_ := Am (hb); have n1_ := Am (hi); clear HB HI177; have HB := n0_; have HI177 := n1_; clear n0_ n1_; (try clear hb); (try clear hb2); (try clear hk); (try clear hi)) | ((with_reducible refine gate_dst (N := 9) rfl ?_); refine box_event ?hg (N := 9) ?hd (cs := #[.int .i64 0, .int .i64 0, .int .i64 0, .int .i64 0]) (t := 23) ?hr ?_; (case hd => rfl); (case hg => rfl); (case hr => first | (go_simp; done) | (go_simp; rfl)); intro gb187 hg w14 hbox hb; have n0_ := Am (IsS59.below (by repeat (first | (with_reducible first | exact HI177.out | apply IsS59.alloc | apply IsS59.drewN | apply IsS59.drew) | exact HI177.out)) hb); have n1_ := Am (below_step (by repeat (first | (with_reducible first | exact HB.out | apply bA | apply bN | apply bD | refine bS ?_ (IsS59.ge HI177.out)) | exact HB.out)) hb); have n2_ := Am (hbox); have n3_ := Am ((by rw [hg]; exact (below_size (by repeat (first | (with_reducible first | exact HB.out | apply bA | apply bN | apply bD | refine bS ?_ (IsS59.ge HI177.out)) | exact HB.out))) : w.heap.size ≤ gb187)); have n4_ := Am ((by rw [hg]; exact (below_size (by repeat (first | (with_reducible first | exact HB.out | apply bA | apply bN | apply bD | refine bS ?_ (IsS59.ge HI177.out)) | exact HB.out))) : w.heap.size ≤ gb187)); have n5_ := Am ((by rw [hg]; exact Nat.ne_of_lt (IsS59.lt (show IsS59 w _ g177 t186 from by repeat (first | (with_reducible first | exact HI177.out | apply IsS59.alloc | apply IsS59.drewN | apply IsS59.drew) | exact HI177.out))) : g177 ≠ gb187)); have n6_ := Am ((by rw [hg]; exact Nat.ne_of_gt (IsS59.lt (show IsS59 w _ g177 t186 from by repeat (first | (with_reducible first | exact HI177.out | apply IsS59.alloc | apply IsS59.drewN | apply IsS59.drew) | exact HI177.out))) : gb187 ≠ g177)); clear HI177 HB; have HI177 := n0_; have HB := n1_; have BK187 := n2_; have GW187 := n3_; have GE187 := n4_; have NB177_187 := n5_; have NB187_177 := n6_; clear n0_ n1_ n2_ n3_ n4_ n5_ n6_ hb hbox hg) | ((with_reducible refine gate_dst (N := 10) rfl ?_); refine box_event ?hg (N := 10) ?hd (cs := #[.int .i64 0, .int .i64 0]) (t := 27) ?hr ?_; (case hd => rfl); (case hg => rfl); (case hr => first | (go_simp; done) | (go_simp; rfl)); intro gb188 hg w15 hbox hb; have n0_ := Am (IsS59.below (by repeat (first | (with_reducible first | exact HI177.out | apply IsS59.alloc | apply IsS59.drewN | apply IsS59.drew | refine IsS59.far ?_ NB177_187.out _) | exact HI177.out)) hb); have n1_ := Am (blk_below (g := gb187) (o := .cells #[.int .i64 0, .int .i64 0, .int .i64 0, .int .i64 0] 23 (0, 0)) (by (with_reducible repeat (first | apply kN | apply kD | apply kA)); exact BK187.out) hb); have n2_ := Am (below_step (by repeat (first | (with_reducible first | exact HB.out | apply bA | apply bN | apply bD | refine bS ?_ (IsS59.ge HI177.out) | refine bS ?_ GE187.out) | exact HB.out)) hb); have n3_ := Am (hbox); have n4_ := Am ((by rw [hg]; exact (below_size (by repeat (first | (with_reducible first | exact HB.out | apply bA | apply bN | apply bD | refine bS ?_ (IsS59.ge HI177.out) | refine bS ?_ GE187.out) | exact HB.out))) : w.heap.size ≤ gb188)); have n5_ := Am ((by rw [hg]; exact (below_size (by repeat (first | (with_reducible first | exact HB.out | apply bA | apply bN | apply bD | refine bS ?_ (IsS59.ge HI177.out) | refine bS ?_ GE187.out) | exact HB.out))) : w.heap.size ≤ gb188)); have n6_ := Am ((by rw [hg]; exact Nat.ne_of_lt (blk_lt (g := gb187) (o := .cells #[.int .i64 0, .int .i64 0, .int .i64 0, .int .i64 0] 23 (0, 0)) (by (with_reducible repeat (first | apply kN | apply kD | apply kA)); exact BK187.out)) : gb187 ≠ gb188)); have n7_ := Am ((by rw [hg]; exact Nat.ne_of_gt (blk_lt (g := gb187) (o := .cells #[.int .i64 0, .int .i64 0, .int .i64 0, .int .i64 0] 23 (0, 0)) (by (with_reducible repeat (first | apply kN | apply kD | apply kA)); exact BK187.out)) : gb188 ≠ gb187)); have n8_ := Am ((by rw [hg]; exact Nat.ne_of_lt (IsS59.lt (show IsS59 w _ g177 t186 from by repeat (first | (with_reducible first | exact HI177.out | apply IsS59.alloc | apply IsS59.drewN | apply IsS59.drew | refine IsS59.far ?_ NB177_187.out _) | exact HI177.out))) : g177 ≠ gb188)); have n9_ := Am ((by rw [hg]; exact Nat.ne_of_gt (IsS59.lt (show IsS59 w _ g177 t186 from by repeat (first | (with_reducible first | exact HI177.out | apply IsS59.alloc | apply IsS59.drewN | apply IsS59.drew | refine IsS59.far ?_ NB177_187.out _) | exact HI177.out))) : gb188 ≠ g177)); clear HI177 BK187 HB; have HI177 := n0_; have BK187 := n1_; have HB := n2_; have BK188 := n3_; have GW188 := n4_; have GE188 := n5_; have NB187_188 := n6_; have NB188_187 := n7_; have NB177_188 := n8_; have NB188_177 := n9_; clear n0_ n1_ n2_ n3_ n4_ n5_ n6_ n7_ n8_ n9_ hb hbox hg; have hnb16 := NB187_188.out; have hnc16 := NB188_187.out; have hnb17 := NB187_177.out; have hnc17 := NB177_187.out; have hcz18_0 : w15.cell? ⟨gb187, 0, none⟩ = some (.int .i64 0) := (blk_cell BK187.out 0).trans rfl; have hcz18_1 : w15.cell? ⟨gb187, 1, none⟩ = some (.int .i64 0) := (blk_cell BK187.out 1).trans rfl; have hcz18_2 : w15.cell? ⟨gb187, 2, none⟩ = some (.int .i64 0) := (blk_cell BK187.out 2).trans rfl; have hcz18_3 : w15.cell? ⟨gb187, 3, none⟩ = some (.int .i64 0) := (blk_cell BK187.out 3).trans rfl; have hfz18_0 := blk_frozen BK187.out 0; have hfz18_1 := blk_frozen BK187.out 1; have hfz18_2 := blk_frozen BK187.out 2; have hfz18_3 := blk_frozen BK187.out 3; have hnb19 := NB188_177.out; have hnc19 := NB177_188.out; have hcz20_0 : w15.cell? ⟨gb188, 0, none⟩ = some (.int .i64 0) := (blk_cell BK188.out 0).trans rfl; have hcz20_1 : w15.cell? ⟨gb188, 1, none⟩ = some (.int .i64 0) := (blk_cell BK188.out 1).trans rfl; have hfz20_0 := blk_frozen BK188.out 0; have hfz20_1 := blk_frozen BK188.out 1) | ((with_reducible refine gate_callee (f := 21) rfl ?_); refine goesL_ (some 43) rfl rfl Try.func21 (by kernel_rfl) rfl #[.agg #[.int .i64 t182, .int .i64 t183], .int .i64 t184, .int .i64 t185, .int .i64 (wrap64 (a1)), .int .i64 (wrap64 (1 + (wrap64 (a2))))] rfl (by (try simp only [List.map_toArray, List.map_cons, List.map_nil]); first | done | rfl | (simp only [List.length_drop, List.length_take]; rfl)) ?_; (with_reducible refine (control_Plan.calls k t182 t183 t184 t185 (wrap64 (a1)) (wrap64 (1 + (wrap64 (a2)))) t189 t190 t191 t192 t193 t194 _ A9.out).mono ?_); rintro e w21 ⟨rfl, hb⟩; refine ⟨_, rfl, ?_⟩; have n0_ := Am (IsS59.below (show IsS59 w ((((((w15.setCell ⟨gb187, 0, none⟩ (.int .i64 t178)).setCell ⟨gb187, 1, none⟩ (.int .i64 t179)).setCell ⟨gb187, 2, none⟩ (.int .i64 t180)).setCell ⟨gb187, 3, none⟩ (.int .i64 t181)).setCell ⟨gb188, 0, none⟩ (.int .i64 t182)).setCell ⟨gb188, 1, none⟩ (.int .i64 t183)) g177 t186 from by repeat (first | (with_reducible first | exact HI177.out | apply IsS59.alloc | apply IsS59.drewN | apply IsS59.drew | refine IsS59.far ?_ NB177_187.out _ | refine IsS59.far ?_ NB177_188.out _) | exact HI177.out)) hb); have n1_ := Am (blk_below (g := gb187) (o := .cells #[.int .i64 t178, .int .i64 t179, .int .i64 t180, .int .i64 t181] 23 (0, 0)) (by (with_reducible repeat (first | apply kN | apply kD | apply kA)); refine blk_far ?_ NB187_188.out _; (with_reducible repeat (first | apply kN | apply kD | apply kA)); refine blk_far ?_ NB187_188.out _; (with_reducible repeat (first | apply kN | apply kD | apply kA)); refine blk_put (cs := #[.int .i64 t178, .int .i64 t179, .int .i64 t180, .int .i64 0]) ?_ 3 _ rfl; (with_reducible repeat (first | apply kN | apply kD | apply kA)); refine blk_put (cs := #[.int .i64 t178, .int .i64 t179, .int .i64 0, .int .i64 0]) ?_ 2 _ rfl; (with_reducible repeat (first | apply kN | apply kD | apply kA)); refine blk_put (cs := #[.int .i64 t178, .int .i64 0, .int .i64 0, .int .i64 0]) ?_ 1 _ rfl; (with_reducible repeat (first | apply kN | apply kD | apply kA)); refine blk_put (cs := #[.int .i64 0, .int .i64 0, .int .i64 0, .int .i64 0]) ?_ 0 _ rfl; (with_reducible repeat (first | apply kN | apply kD | apply kA)); exact BK187.out) hb); have n2_ := Am (blk_below (g := gb188) (o := .cells #[.int .i64 t182, .int .i64 t183] 27 (0, 0)) (by (with_reducible repeat (first | apply kN | apply kD | apply kA)); refine blk_put (cs := #[.int .i64 t182, .int .i64 0]) ?_ 1 _ rfl; (with_reducible repeat (first | apply kN | apply kD | apply kA)); refine blk_put (cs := #[.int .i64 0, .int .i64 0]) ?_ 0 _ rfl; (with_reducible repeat (first | apply kN | apply kD | apply kA)); refine blk_far ?_ NB188_187.out _; (with_reducible repeat (first | apply kN | apply kD | apply kA)); refine blk_far ?_ NB188_187.out _; (with_reducible repeat (first | apply kN | apply kD | apply kA)); refine blk_far ?_ NB188_187.out _; (with_reducible repeat (first | apply kN | apply kD | apply kA)); refine blk_far ?_ NB188_187.out _; (with_reducible repeat (first | apply kN | apply kD | apply kA)); exact BK188.out) hb); have n3_ := Am (below_step (by repeat (first | (with_reducible first | exact HB.out | apply bA | apply bN | apply bD | refine bS ?_ (IsS59.ge HI177.out) | refine bS ?_ GE187.out | refine bS ?_ GE188.out) | exact HB.out)) hb); clear HI177 BK187 BK188 HB; have HI177 := n0_; have BK187 := n1_; have BK188 := n2_; have HB := n3_; clear n0_ n1_ n2_ n3_; (try clear hb); (try clear hb2); (try clear hk); (try clear hi)) | ((with_reducible refine gate_dst (N := 13) rfl ?_); refine box_event ?hg (N := 13) ?hd (cs := #[.int .i64 0, .int .i64 0, .int .i64 0, .int .i64 0]) (t := 23) ?hr ?_; (case hd => rfl); (case hg => rfl); (case hr => first | (go_simp; done) | (go_simp; rfl)); intro gb195 hg w22 hbox hb; have n0_ := Am (IsS59.below (by repeat (first | (with_reducible first | exact HI177.out | apply IsS59.alloc | apply IsS59.drewN | apply IsS59.drew | refine IsS59.far ?_ NB177_187.out _ | refine IsS59.far ?_ NB177_188.out _) | exact HI177.out)) hb); have n1_ := Am (blk_below (g := gb187) (o := .cells #[.int .i64 t178, .int .i64 t179, .int .i64 t180, .int .i64 t181] 23 (0, 0)) (by (with_reducible repeat (first | apply kN | apply kD | apply kA)); exact BK187.out) hb); have n2_ := Am (blk_below (g := gb188) (o := .cells #[.int .i64 t182, .int .i64 t183] 27 (0, 0)) (by (with_reducible repeat (first | apply kN | apply kD | apply kA)); exact BK188.out) hb); have n3_ := Am (below_step (by repeat (first | (with_reducible first | exact HB.out | apply bA | apply bN | apply bD | refine bS ?_ (IsS59.ge HI177.out) | refine bS ?_ GE187.out | refine bS ?_ GE188.out) | exact HB.out)) hb); have n4_ := Am (hbox); have n5_ := Am ((by rw [hg]; exact (below_size (by repeat (first | (with_reducible first | exact HB.out | apply bA | apply bN | apply bD | refine bS ?_ (IsS59.ge HI177.out) | refine bS ?_ GE187.out | refine bS ?_ GE188.out) | exact HB.out))) : w.heap.size ≤ gb195)); have n6_ := Am ((by rw [hg]; exact (below_size (by repeat (first | (with_reducible first | exact HB.out | apply bA | apply bN | apply bD | refine bS ?_ (IsS59.ge HI177.out) | refine bS ?_ GE187.out | refine bS ?_ GE188.out) | exact HB.out))) : w.heap.size ≤ gb195)); have n7_ := Am ((by rw [hg]; exact Nat.ne_of_lt (blk_lt (g := gb187) (o := .cells #[.int .i64 t178, .int .i64 t179, .int .i64 t180, .int .i64 t181] 23 (0, 0)) (by (with_reducible repeat (first | apply kN | apply kD | apply kA)); exact BK187.out)) : gb187 ≠ gb195)); have n8_ := Am ((by rw [hg]; exact Nat.ne_of_gt (blk_lt (g := gb187) (o := .cells #[.int .i64 t178, .int .i64 t179, .int .i64 t180, .int .i64 t181] 23 (0, 0)) (by (with_reducible repeat (first | apply kN | apply kD | apply kA)); exact BK187.out)) : gb195 ≠ gb187)); have n9_ := Am ((by rw [hg]; exact Nat.ne_of_lt (blk_lt (g := gb188) (o := .cells #[.int .i64 t182, .int .i64 t183] 27 (0, 0)) (by (with_reducible repeat (first | apply kN | apply kD | apply kA)); exact BK188.out)) : gb188 ≠ gb195)); have n10_ := Am ((by rw [hg]; exact Nat.ne_of_gt (blk_lt (g := gb188) (o := .cells #[.int .i64 t182, .int .i64 t183] 27 (0, 0)) (by (with_reducible repeat (first | apply kN | apply kD | apply kA)); exact BK188.out)) : gb195 ≠ gb188)); have n11_ := Am ((by rw [hg]; exact Nat.ne_of_lt (IsS59.lt (show IsS59 w _ g177 t186 from by repeat (first | (with_reducible first | exact HI177.out | apply IsS59.alloc | apply IsS59.drewN | apply IsS59.drew | refine IsS59.far ?_ NB177_187.out _ | refine IsS59.far ?_ NB177_188.out _) | exact HI177.out))) : g177 ≠ gb195)); have n12_ := Am ((by rw [hg]; exact Nat.ne_of_gt (IsS59.lt (show IsS59 w _ g177 t186 from by repeat (first | (with_reducible first | exact HI177.out | apply IsS59.alloc | apply IsS59.drewN | apply IsS59.drew | refine IsS59.far ?_ NB177_187.out _ | refine IsS59.far ?_ NB177_188.out _) | exact HI177.out))) : gb195 ≠ g177)); clear HI177 BK187 BK188 HB; have HI177 := n0_; have BK187 := n1_; have BK188 := n2_; have HB := n3_; have BK195 := n4_; have GW195 := n5_; have GE195 := n6_; have NB187_195 := n7_; have NB195_187 := n8_; have NB188_195 := n9_; have NB195_188 := n10_; have NB177_195 := n11_; have NB195_177 := n12_; clear n0_ n1_ n2_ n3_ n4_ n5_ n6_ n7_ n8_ n9_ n10_ n11_ n12_ hb hbox hg; have hnb23 := NB195_187.out; have hnc23 := NB187_195.out; have hnb24 := NB195_188.out; have hnc24 := NB188_195.out; have hnb25 := NB195_177.out; have hnc25 := NB177_195.out; have hcz26_0 : w22.cell? ⟨gb195, 0, none⟩ = some (.int .i64 0) := (blk_cell BK195.out 0).trans rfl; have hcz26_1 : w22.cell? ⟨gb195, 1, none⟩ = some (.int .i64 0) := (blk_cell BK195.out 1).trans rfl; have hcz26_2 : w22.cell? ⟨gb195, 2, none⟩ = some (.int .i64 0) := (blk_cell BK195.out 2).trans rfl; have hcz26_3 : w22.cell? ⟨gb195, 3, none⟩ = some (.int .i64 0) := (blk_cell BK195.out 3).trans rfl; have hfz26_0 := blk_frozen BK195.out 0; have hfz26_1 := blk_frozen BK195.out 1; have hfz26_2 := blk_frozen BK195.out 2; have hfz26_3 := blk_frozen BK195.out 3))
  (try simp only [pL])
  go_cut [16] (fun v16 wc => ∃ (kq : Nat) (x16_9 : List (S54)), Aside0 (soundservicelaw18_ControlPlans.j1 kq t184 t185 t193 t194 x16_9 t182 t183 t189 t190 t191 t192 = some r) ∧ Aside0 (kq ≤ k) ∧ Aside0 (Kd.R k54 54 wc w.heap.size (fun _ => True) v16 x16_9) ∧ Aside0 (wc.heap[gb187]? = some (.cells #[.int .i64 t178, .int .i64 t179, .int .i64 t180, .int .i64 t181] 23 (0, 0))) ∧ Aside0 (wc.heap[gb188]? = some (.cells #[.int .i64 t182, .int .i64 t183] 27 (0, 0))) ∧ Aside0 (wc.heap[gb195]? = some (.cells #[.int .i64 t189, .int .i64 t190, .int .i64 t191, .int .i64 t192] 23 (0, 0))) ∧ Aside0 (Below w.heap.size w wc))
  case first =>
   have H := HC10.out
   clear HC10
   have H' := Am H
   clear H
   go_wp2
   go_loopg [16, 17] k (fun kq v16 v17 w' => ∃ (x16_1 : List (S54)) (x17_1 : Int), v17 = .int .i64 x17_1 ∧ Aside0 (soundservicelaw18_ControlPlans.l0 kq l3 t184 t185 t193 t194 x16_1 x17_1 t182 t183 t189 t190 t191 t192 = some r) ∧ Aside0 (kq ≤ k) ∧ Aside0 (Kd.R k54 54 w' w.heap.size (fun _ => True) v16 x16_1) ∧ Aside0 (w'.heap[gb187]? = some (.cells #[.int .i64 t178, .int .i64 t179, .int .i64 t180, .int .i64 t181] 23 (0, 0))) ∧ Aside0 (w'.heap[gb188]? = some (.cells #[.int .i64 t182, .int .i64 t183] 27 (0, 0))) ∧ Aside0 (w'.heap[gb195]? = some (.cells #[.int .i64 t189, .int .i64 t190, .int .i64 t191, .int .i64 t192] 23 (0, 0))) ∧ Aside0 (Below w.heap.size w w'))
   case atStart => exact ⟨(([] : List (S54))), (0), (by first | rfl | (simp; done) | (simp [*]; done)), H', ⟨Nat.le_refl _⟩, ⟨by first | exact Kd.R_nil _ _ _ _ _ | exact Kd.N_nil _ _ _ _ _ | exact Kd.V_nil _ _ _ _ _ | exact Kd.Q_nil _ _ _ _ _ | exact Kd.S_nil _ _ _ _ _⟩, ⟨by (with_reducible repeat (first | apply kN | apply kD | apply kA)); refine blk_far ?_ NB187_195.out _; (with_reducible repeat (first | apply kN | apply kD | apply kA)); refine blk_far ?_ NB187_195.out _; (with_reducible repeat (first | apply kN | apply kD | apply kA)); refine blk_far ?_ NB187_195.out _; (with_reducible repeat (first | apply kN | apply kD | apply kA)); refine blk_far ?_ NB187_195.out _; (with_reducible repeat (first | apply kN | apply kD | apply kA)); exact BK187.out⟩, ⟨by (with_reducible repeat (first | apply kN | apply kD | apply kA)); refine blk_far ?_ NB188_195.out _; (with_reducible repeat (first | apply kN | apply kD | apply kA)); refine blk_far ?_ NB188_195.out _; (with_reducible repeat (first | apply kN | apply kD | apply kA)); refine blk_far ?_ NB188_195.out _; (with_reducible repeat (first | apply kN | apply kD | apply kA)); refine blk_far ?_ NB188_195.out _; (with_reducible repeat (first | apply kN | apply kD | apply kA)); exact BK188.out⟩, ⟨by (with_reducible repeat (first | apply kN | apply kD | apply kA)); refine blk_put (cs := #[.int .i64 t189, .int .i64 t190, .int .i64 t191, .int .i64 0]) ?_ 3 _ rfl; (with_reducible repeat (first | apply kN | apply kD | apply kA)); refine blk_put (cs := #[.int .i64 t189, .int .i64 t190, .int .i64 0, .int .i64 0]) ?_ 2 _ rfl; (with_reducible repeat (first | apply kN | apply kD | apply kA)); refine blk_put (cs := #[.int .i64 t189, .int .i64 0, .int .i64 0, .int .i64 0]) ?_ 1 _ rfl; (with_reducible repeat (first | apply kN | apply kD | apply kA)); refine blk_put (cs := #[.int .i64 0, .int .i64 0, .int .i64 0, .int .i64 0]) ?_ 0 _ rfl; (with_reducible repeat (first | apply kN | apply kD | apply kA)); exact BK195.out⟩, ⟨by repeat (first | (with_reducible first | exact HB.out | apply bA | apply bN | apply bD | refine bS ?_ (IsS59.ge HI177.out) | refine bS ?_ GE187.out | refine bS ?_ GE188.out | refine bS ?_ GE195.out) | exact HB.out)⟩⟩
   case round =>
    clear H'
    (try clear c1); (try clear c2); (try clear p2); (try clear c3); (try clear c6); (try clear p6); (try clear c9); (try clear c10); (try clear c11); (try clear c12); (try clear c16); (try clear c17); (try clear c19); (try clear c21); (try clear c23); (try clear c24); (try clear c25); (try clear hcz18_0); (try clear hcz18_1); (try clear hcz18_2); (try clear hcz18_3); (try clear hcz20_0); (try clear hcz20_1); (try clear hcz26_0); (try clear hcz26_1); (try clear hcz26_2); (try clear hcz26_3); (try clear hfz18_0); (try clear hfz18_1); (try clear hfz18_2); (try clear hfz18_3); (try clear hfz20_0); (try clear hfz20_1); (try clear hfz26_0); (try clear hfz26_1); (try clear hfz26_2); (try clear hfz26_3)
    obtain ⟨x16_1, x17_1, rfl, HA, HK1, HO_16, BK187, BK188, BK195, HB⟩ := hrel
    cases gk with
    | zero => exact absurd HA.out (by simp [soundservicelaw18_ControlPlans.l0])
    | succ k1 =>
     have H := HA.out
     clear HA
     simp only [soundservicelaw18_ControlPlans.l0] at H
     by_cases c27 : (wrap64 (x17_1 + 1)) < (l3.length : Int)
     ·rw [if_pos c27] at H
      have c27b0 : decide ((wrap64 (x17_1 + 1)) < (l3.length : Int)) = true := decide_eq_true c27
      clear c27
      (first | rw [c27b0] | (simp only [i64_w, i32_w]; rw [c27b0]) | skip)
      by_cases c28 : x17_1 < 24
      ·rw [if_pos c28] at H
       have c28b0 : decide (x17_1 < 24) = true := decide_eq_true c28
       clear c28
       by_cases c29 : 0 ≤ x17_1
       ·rw [if_pos c29] at H
        have c29b0 : decide (0 ≤ x17_1) = true := decide_eq_true c29
        clear c29
        by_cases c30 : x17_1 < (l3.length : Int)
        ·rw [if_pos c30] at H
         have c30b0 : decide (x17_1 < (l3.length : Int)) = true := decide_eq_true c30
         clear c30
         obtain ⟨ji31, hji31⟩ : ∃ j_ : Int, (wrap64 (x17_1 + 1)) = j_ := ⟨_, rfl⟩
         replace H : (if 0 ≤ (ji31) then (if x16_1.length < 8796093022208 then (soundservicelaw18_ControlPlans.l0 k1 l3 t184 t185 t193 t194 (x16_1 ++ [(⟨wrap64 (62 + (wrap64 (Int.tmod (rd l3 x17_1) 5))), wrap64 (62 + (wrap64 (Int.tmod (rd l3 (ji31)) 5)))⟩ : S54)]) (wrap64 (x17_1 + 2)) t182 t183 t189 t190 t191 t192) else (none)) else (none)) = some r := by first | (rw [hji31] at H; exact H) | (simp only [hji31] at H ⊢; exact H)
         (try rw [hji31] at c27b0)
         have hji31w : (IntKind.i64.wrap (x17_1 + 1)) = ji31 := (i64_w _).trans hji31
         by_cases c32 : 0 ≤ (ji31)
         ·rw [if_pos c32] at H
          have c32b0 : decide (0 ≤ (ji31)) = true := decide_eq_true c32
          clear c32
          by_cases c33 : x16_1.length < 8796093022208
          ·rw [if_pos c33] at H
           have LMc33 := Am c33
           clear c33
           obtain ⟨y198, hy198⟩ : ∃ y_ : List (S54), y_ = (x16_1 ++ [(⟨wrap64 (62 + (wrap64 (Int.tmod (rd l3 x17_1) 5))), wrap64 (62 + (wrap64 (Int.tmod (rd l3 (ji31)) 5)))⟩ : S54)]) := ⟨_, rfl⟩
           replace H : (soundservicelaw18_ControlPlans.l0 k1 l3 t184 t185 t193 t194 y198 (wrap64 (x17_1 + 2)) t182 t183 t189 t190 t191 t192) = some r := by first | (rw [hy198]; with_reducible exact H) | (have H2_ := (Option.bind_some _ _).symm.trans H; rw [hy198]; with_reducible exact H2_) | (have H2_ := (Option.bind_some _ _).symm.trans H; with_reducible exact H2_) | with_reducible exact H | (rw [hy198]; exact H) | exact H
           have Ny198 := Am hy198
           clear hy198
           have H' := Am H
           clear H
           try go_wp2
           have n0_ := Am (Kd.R_drew HO_16.out)
           have n1_ := Am (kD BK187.out)
           have n2_ := Am (kD BK188.out)
           have n3_ := Am (kD BK195.out)
           have n4_ := Am (bD HB.out)
           clear HO_16 BK187 BK188 BK195 HB; have HO_16 := n0_; have BK187 := n1_; have BK188 := n2_; have BK195 := n3_; have HB := n4_; clear n0_ n1_ n2_ n3_ n4_
           have p196 : 0 ≤ (x17_1 : Int) := of_decide_eq_true (by first | (with_reducible assumption) | assumption)
           have q196 : x17_1 < (l3.length : Int) := of_decide_eq_true (by first | (with_reducible assumption) | assumption)
           obtain ⟨ad196, e196, hx196_0⟩ := Kd.at_int HR3.out x17_1 p196 q196
           have hw196_0 := hx196_0
           cases e196
           replace hx196_0 := (HB.out.cell (World.block_lt_of_cell? w _ hx196_0)).trans hx196_0
           replace p196 := eq_true p196
           replace q196 := eq_true q196
           have p197 : 0 ≤ ((ji31) : Int) := of_decide_eq_true (by first | (with_reducible assumption) | assumption)
           have q197 : (ji31) < (l3.length : Int) := of_decide_eq_true (by first | (with_reducible assumption) | assumption)
           obtain ⟨ad197, e197, hx197_0⟩ := Kd.at_int HR3.out (ji31) p197 q197
           have hw197_0 := hx197_0
           obtain rfl : ad196 = ad197 := (by injection e197)
           replace hx197_0 := (HB.out.cell (World.block_lt_of_cell? w _ hx197_0)).trans hx197_0
           replace p197 := eq_true p197
           replace q197 := eq_true q197
           refine start_ (n := 20) (S := fun w' => w'.cell? (ad196.add (x17_1).toNat) = some (.int .u8 (rd l3 x17_1)) ∧ w'.cell? (ad196.add ((ji31)).toNat) = some (.int .u8 (rd l3 (ji31)))) (ds := []) soundservicelaw18_ControlPlans.q0 (by kernel_rfl) rfl rfl ⟨((HB.out.cell (World.block_lt_of_cell? w _ hw196_0)).trans hw196_0), ((HB.out.cell (World.block_lt_of_cell? w _ hw197_0)).trans hw197_0)⟩ (fun hHeld => ?_); refine with_tabW soundservicelaw18_ControlPlans.tab9 soundservicelaw18_ControlPlans.bits9 (fun HT_ HW_ => ?_)
           generalize wr.drew = w34 at HO_16 BK187 BK188 BK195 HB hx196_0 hx197_0 hHeld ⊢
           refine pure_ (i := 0) (N := some 58) (v := ?_) (a' := ?_) soundservicelaw18_ControlPlans.q1 rfl rfl (any_of HT_.out (by kernel_rfl)) (fun _ _ _ h => h) (Or.inl ⟨by rfl, ?_⟩) ?_ ?_
           rotate_left; (· intro w'; go_simp; with_reducible rfl); rotate_left; (· simp only [pL, i64_w, i32_w]; rfl)
           refine pure_ (i := 1) (N := some 59) (v := ?_) (a' := ?_) soundservicelaw18_ControlPlans.q2 rfl rfl (any_of HT_.out (by kernel_rfl)) (fun _ _ _ h => h) (Or.inl ⟨by rfl, ?_⟩) ?_ ?_
           rotate_left; (· intro w'; go_simp; with_reducible rfl); rotate_left; (· simp only [pL, i64_w, i32_w]; rfl)
           refine pure_ (i := 2) (N := some 60) (v := ?_) (a' := ?_) soundservicelaw18_ControlPlans.q3 rfl rfl (any_of HT_.out (by kernel_rfl)) (fun _ _ _ h => h) (Or.inl ⟨by rfl, ?_⟩) ?_ ?_
           rotate_left; (· intro w'; go_simp; with_reducible rfl); rotate_left; (· simp only [pL, i64_w, i32_w]; rfl)
           refine pure_ (i := 3) (N := some 61) (v := ?_) (a' := ?_) soundservicelaw18_ControlPlans.q4 rfl rfl (any_of HT_.out (by kernel_rfl)) (fun _ _ _ h => h) (Or.inl ⟨by rfl, ?_⟩) ?_ ?_
           rotate_left; (· intro w'; go_simp; with_reducible rfl); rotate_left; (· simp only [pL, i64_w, i32_w]; rfl)
           refine pure_ (i := 8) (N := some 66) (v := ?_) (a' := ?_) soundservicelaw18_ControlPlans.q5 rfl rfl (any_of HT_.out (by kernel_rfl)) (fun _ _ _ h => h) (Or.inl ⟨by rfl, ?_⟩) ?_ ?_
           rotate_left; (· intro w'; go_simp; with_reducible rfl); rotate_left; (· simp only [pL, i64_w, i32_w]; rfl)
           refine pure_ (i := 9) (N := some 67) (v := ?_) (a' := ?_) soundservicelaw18_ControlPlans.q6 rfl rfl (any_of HT_.out (by kernel_rfl)) (fun _ _ _ h => h) (Or.inl ⟨by rfl, ?_⟩) ?_ ?_
           rotate_left; (· intro w'; go_simp; with_reducible rfl); rotate_left; (· simp only [pL, i64_w, i32_w]; rfl)
           refine pure_ (i := 10) (N := some 68) (v := ?_) (a' := ?_) soundservicelaw18_ControlPlans.q7 rfl rfl (any_of HT_.out (by kernel_rfl)) (fun _ _ _ h => h) (Or.inl ⟨by rfl, ?_⟩) ?_ ?_
           rotate_left; (· intro w'; go_simp; with_reducible rfl); rotate_left; (· simp only [pL, i64_w, i32_w]; rfl)
           refine pure_ (i := 11) (N := some 69) (v := ?_) (a' := ?_) soundservicelaw18_ControlPlans.q8 rfl rfl (any_of HT_.out (by kernel_rfl)) (fun _ _ _ h => h) (Or.inl ⟨by rfl, ?_⟩) ?_ ?_
           rotate_left; (· intro w'; go_simp; with_reducible rfl); rotate_left; (· simp only [pL, i64_w, i32_w]; rfl)
           refine take_ (i := 4) (N := some 62) (v := ?_) (a' := ?_) soundservicelaw18_ControlPlans.q9 rfl rfl (take_ofW HT_.out HW_.out (by kernel_rfl)) (fun _ _ _ h => h) (Or.inl ⟨by rfl, ?_⟩) hHeld ?_ ?_
           rotate_left; (· rintro w' ⟨s0, s1⟩; go_simp; with_reducible rfl); rotate_left; (· simp only [pL, i64_w, i32_w]; rfl)
           refine pure_ (i := 5) (N := some 63) (v := ?_) (a' := ?_) soundservicelaw18_ControlPlans.q10 rfl rfl (any_of HT_.out (by kernel_rfl)) (fun _ _ _ h => h) (Or.inl ⟨by rfl, ?_⟩) ?_ ?_
           rotate_left; (· intro w'; go_simp; with_reducible rfl); rotate_left; (· simp only [pL, i64_w, i32_w]; rfl)
           refine pure_ (i := 6) (N := some 64) (v := ?_) (a' := ?_) soundservicelaw18_ControlPlans.q11 rfl rfl (any_of HT_.out (by kernel_rfl)) (fun _ _ _ h => h) (Or.inl ⟨by rfl, ?_⟩) ?_ ?_
           rotate_left; (· intro w'; go_simp; with_reducible rfl); rotate_left; (· simp only [pL, i64_w, i32_w]; rfl)
           refine pure_ (i := 7) (N := some 65) (v := ?_) (a' := ?_) soundservicelaw18_ControlPlans.q12 rfl rfl (any_of HT_.out (by kernel_rfl)) (fun _ _ _ h => h) (Or.inl ⟨by rfl, ?_⟩) ?_ ?_
           rotate_left; (· intro w'; go_simp; with_reducible rfl); rotate_left; (· simp only [pL, i64_w, i32_w]; rfl)
           refine take_ (i := 12) (N := some 70) (v := ?_) (a' := ?_) soundservicelaw18_ControlPlans.q13 rfl rfl (take_ofW HT_.out HW_.out (by kernel_rfl)) (fun _ _ _ h => h) (Or.inl ⟨by rfl, ?_⟩) hHeld ?_ ?_
           rotate_left; (· rintro w' ⟨s0, s1⟩; go_simp; with_reducible rfl); rotate_left; (· simp only [pL, i64_w, i32_w]; rfl)
           refine pure_ (i := 13) (N := some 71) (v := ?_) (a' := ?_) soundservicelaw18_ControlPlans.q14 rfl rfl (any_of HT_.out (by kernel_rfl)) (fun _ _ _ h => h) (Or.inl ⟨by rfl, ?_⟩) ?_ ?_
           rotate_left; (· intro w'; go_simp; with_reducible rfl); rotate_left; (· simp only [pL, i64_w, i32_w]; rfl)
           refine pure_ (i := 14) (N := some 72) (v := ?_) (a' := ?_) soundservicelaw18_ControlPlans.q15 rfl rfl (any_of HT_.out (by kernel_rfl)) (fun _ _ _ h => h) (Or.inl ⟨by rfl, ?_⟩) ?_ ?_
           rotate_left; (· intro w'; go_simp; with_reducible rfl); rotate_left; (· simp only [pL, i64_w, i32_w]; rfl)
           refine pure_ (i := 15) (N := some 73) (v := ?_) (a' := ?_) soundservicelaw18_ControlPlans.q16 rfl rfl (any_of HT_.out (by kernel_rfl)) (fun _ _ _ h => h) (Or.inl ⟨by rfl, ?_⟩) ?_ ?_
           rotate_left; (· intro w'; go_simp; with_reducible rfl); rotate_left; (· simp only [pL, i64_w, i32_w]; rfl)
           refine pure_ (i := 16) (N := some 74) (v := ?_) (a' := ?_) soundservicelaw18_ControlPlans.q17 rfl rfl (any_of HT_.out (by kernel_rfl)) (fun _ _ _ h => h) (Or.inl ⟨by rfl, ?_⟩) ?_ ?_
           rotate_left; (· intro w'; go_simp; with_reducible rfl); rotate_left; (· simp only [pL, i64_w, i32_w]; rfl)
           refine one_ (i := 17) (N := some 75) soundservicelaw18_ControlPlans.q18 rfl rfl (one_of HT_.out (by kernel_rfl)) (by decide) (fun K hK => ?_)
           refine value_ (w1 := ?_) (v := ?_) (by rfl) rfl ?_ ?_
           rotate_left 2
           ·go_simp
            constructor
            ·rfl
            ·rfl
           refine hK.out _ _ ⟨(World.cell?_alloc_lt _ _ _ (World.block_lt_of_cell? _ _ (((HB.out.cell (World.block_lt_of_cell? w _ hw196_0)).trans hw196_0)))).trans (((HB.out.cell (World.block_lt_of_cell? w _ hw196_0)).trans hw196_0)), (World.cell?_alloc_lt _ _ _ (World.block_lt_of_cell? _ _ (((HB.out.cell (World.block_lt_of_cell? w _ hw197_0)).trans hw197_0)))).trans (((HB.out.cell (World.block_lt_of_cell? w _ hw197_0)).trans hw197_0))⟩ (fun hHeld => ?_)
           clear hK K
           refine norm_ (a' := ?_) ?_ ?_
           rotate_left
           ·show Act.put _ (some 75) _ = _
            simp only [pL, i64_w, i32_w]
            rfl
           refine one_ (i := 18) (N := some 76) soundservicelaw18_ControlPlans.q19 rfl rfl (one_of HT_.out (by kernel_rfl)) (by decide) (fun K hK => ?_)
           refine Kd.R_append_step k54 (w0 := w) w.heap.size (by rfl) (.tmp 58) (.tmp 75) 51 54 (.agg #[(.int .i64 0), (.int .i64 0)]) 16 rfl Try.underlying51 info54 rfl (by decide) (by omega) u16 x16_1 (⟨wrap64 (62 + (wrap64 (Int.tmod (rd l3 x17_1) 5))), wrap64 (62 + (wrap64 (Int.tmod (rd l3 (ji31)) 5)))⟩ : S54) [.int .i64 (wrap64 (62 + (wrap64 (Int.tmod (rd l3 x17_1) 5)))), .int .i64 (wrap64 (62 + (wrap64 (Int.tmod (rd l3 (ji31)) 5))))] (fun _ => True) (fun _ => False) rfl rfl ?aP (fun _ hk => hk.elim) ?aF ?aO ?aB ?aS ?aL ?_
           (case aP => exact k54_mkM _ _ _ (⟨wrap64 (62 + (wrap64 (Int.tmod (rd l3 x17_1) 5))), wrap64 (62 + (wrap64 (Int.tmod (rd l3 (ji31)) 5)))⟩ : S54))
           (case aB => exact (by repeat (first | (with_reducible first | exact HB.out | apply bA | apply bN | apply bD | refine bS ?_ GE187.out | refine bS ?_ GE188.out | refine bS ?_ GE195.out) | exact HB.out)))
           (case aF => exact (fun _ _ => trivial))
           (case aO => exact (by (with_reducible repeat (first | apply Kd.R_alloc | apply Kd.R_drewN | apply Kd.R_drew)); exact HO_16.out))
           (case aS => exact (below_size (by repeat (first | (with_reducible first | exact HB.out | apply bA | apply bN | apply bD | refine bS ?_ GE187.out | refine bS ?_ GE188.out | refine bS ?_ GE195.out) | exact HB.out))))
           (case aL => have := LMc33.out; omega)
           intro v199 w35 ho hb hg hat
           rw [← Ny198.out] at ho
           have n0_ := Am (blk_grown (g := gb187) (o := .cells #[.int .i64 t178, .int .i64 t179, .int .i64 t180, .int .i64 t181] 23 (0, 0)) (by (with_reducible repeat (first | apply kN | apply kD | apply kA)); exact BK187.out) hg (Kd.R_ne HO_16.out BK187.out (by decide)))
           have n1_ := Am (blk_grown (g := gb188) (o := .cells #[.int .i64 t182, .int .i64 t183] 27 (0, 0)) (by (with_reducible repeat (first | apply kN | apply kD | apply kA)); exact BK188.out) hg (Kd.R_ne HO_16.out BK188.out (by decide)))
           have n2_ := Am (blk_grown (g := gb195) (o := .cells #[.int .i64 t189, .int .i64 t190, .int .i64 t191, .int .i64 t192] 23 (0, 0)) (by (with_reducible repeat (first | apply kN | apply kD | apply kA)); exact BK195.out) hg (Kd.R_ne HO_16.out BK195.out (by decide)))
           have n3_ := Am (hb)
           have n4_ := Am (ho)
           clear BK187 BK188 BK195 HB HO_16; have BK187 := n0_; have BK188 := n1_; have BK195 := n2_; have HB := n3_; have HO200 := n4_; clear n0_ n1_ n2_ n3_ n4_ ho hb hg hat
           refine hK.out _ _ ⟨((HB.out.cell (World.block_lt_of_cell? w _ hw196_0)).trans hw196_0), ((HB.out.cell (World.block_lt_of_cell? w _ hw197_0)).trans hw197_0)⟩ (fun hHeld => ?_)
           clear hK K
           refine norm_ (a' := ?_) ?_ ?_
           rotate_left
           ·show Act.put _ (some 76) _ = _
            simp only [pL, i64_w, i32_w]
            rfl
           refine pure_ (i := 19) (N := some 16) (v := ?_) (a' := ?_) soundservicelaw18_ControlPlans.q20 rfl rfl (any_of HT_.out (by kernel_rfl)) (fun _ _ _ h => h) (Or.inl ⟨by rfl, ?_⟩) ?_ ?_
           rotate_left; (· intro w'; go_simp; with_reducible rfl); rotate_left; (· simp only [pL, i64_w, i32_w]; rfl)
           refine done_ (done_of HT_.out (by kernel_rfl)) ?_
           try go_wp2
           go_roundg k1
           case measure => have := HK1.out; omega
           case rel => exact ⟨(y198), (wrap64 (x17_1 + 2)), (by first | rfl | (simp; done) | (simp [*]; done)), H', ⟨by have := HK1.out; omega⟩, ⟨by (with_reducible repeat (first | apply Kd.R_alloc | apply Kd.R_drewN | apply Kd.R_drew)); exact HO200.out⟩, ⟨by (with_reducible repeat (first | apply kN | apply kD | apply kA)); exact BK187.out⟩, ⟨by (with_reducible repeat (first | apply kN | apply kD | apply kA)); exact BK188.out⟩, ⟨by (with_reducible repeat (first | apply kN | apply kD | apply kA)); exact BK195.out⟩, ⟨by repeat (first | (with_reducible first | exact HB.out | apply bA | apply bN | apply bD | refine bS ?_ GE187.out | refine bS ?_ GE188.out | refine bS ?_ GE195.out) | exact HB.out)⟩⟩
          ·rw [if_neg c33] at H
           exact absurd H (by simp)
         ·rw [if_neg c32] at H
          exact absurd H (by simp)
        ·rw [if_neg c30] at H
         exact absurd H (by simp)
       ·rw [if_neg c29] at H
        exact absurd H (by simp)
      ·rw [if_neg c28] at H
       have c28b0 : decide (x17_1 < 24) = false := decide_eq_false c28
       clear c28
       have H' := Am H
       clear H
       go_wp2
       go_meet
       case rel => exact ⟨_, (x16_1), H', ⟨by have := HK1.out; first | omega | exact Nat.le_refl _⟩, ⟨by (with_reducible repeat (first | apply Kd.R_alloc | apply Kd.R_drewN | apply Kd.R_drew)); exact HO_16.out⟩, ⟨by (with_reducible repeat (first | apply kN | apply kD | apply kA)); exact BK187.out⟩, ⟨by (with_reducible repeat (first | apply kN | apply kD | apply kA)); exact BK188.out⟩, ⟨by (with_reducible repeat (first | apply kN | apply kD | apply kA)); exact BK195.out⟩, ⟨by repeat (first | (with_reducible first | exact HB.out | apply bA | apply bN | apply bD | refine bS ?_ GE187.out | refine bS ?_ GE188.out | refine bS ?_ GE195.out) | exact HB.out)⟩⟩
     ·rw [if_neg c27] at H
      have c27b0 : decide ((wrap64 (x17_1 + 1)) < (l3.length : Int)) = false := decide_eq_false c27
      clear c27
      (first | rw [c27b0] | (simp only [i64_w, i32_w]; rw [c27b0]) | skip)
      have H' := Am H
      clear H
      go_wp2
      go_meet
      case rel => exact ⟨_, (x16_1), H', ⟨by have := HK1.out; first | omega | exact Nat.le_refl _⟩, ⟨by (with_reducible repeat (first | apply Kd.R_alloc | apply Kd.R_drewN | apply Kd.R_drew)); exact HO_16.out⟩, ⟨by (with_reducible repeat (first | apply kN | apply kD | apply kA)); exact BK187.out⟩, ⟨by (with_reducible repeat (first | apply kN | apply kD | apply kA)); exact BK188.out⟩, ⟨by (with_reducible repeat (first | apply kN | apply kD | apply kA)); exact BK195.out⟩, ⟨by repeat (first | (with_reducible first | exact HB.out | apply bA | apply bN | apply bD | refine bS ?_ GE187.out | refine bS ?_ GE188.out | refine bS ?_ GE195.out) | exact HB.out)⟩⟩
  case rest =>
   clear HC10; (try clear c1); (try clear p1); (try clear q1); (try clear hx1); (try clear c2); (try clear p2); (try clear c3); (try clear c6); (try clear p6); (try clear c9); (try clear c10); (try clear c11); (try clear c12); (try clear c16); (try clear c17); (try clear c19); (try clear p19); (try clear q19); (try clear hx19); (try clear c21); (try clear c23); (try clear c24); (try clear c25); (try clear c27); (try clear c27b0); (try clear c28); (try clear c28b0); (try clear c29); (try clear c29b0); (try clear c30); (try clear c30b0); (try clear c32); (try clear c32b0); (try clear c33); (try clear hcz18_0); (try clear hcz18_1); (try clear hcz18_2); (try clear hcz18_3); (try clear hcz20_0); (try clear hcz20_1); (try clear hcz26_0); (try clear hcz26_1); (try clear hcz26_2); (try clear hcz26_3); (try clear hfz18_0); (try clear hfz18_1); (try clear hfz18_2); (try clear hfz18_3); (try clear hfz20_0); (try clear hfz20_1); (try clear hfz26_0); (try clear hfz26_1); (try clear hfz26_2); (try clear hfz26_3); (try clear hx196_0); (try clear hx197_0); (try clear p196); (try clear p197); (try clear p2); (try clear p6); (try clear q196); (try clear q197)
   obtain ⟨kq, x16_9, HA, HJ9, HO_16, BK187, BK188, BK195, HB⟩ := hcut
   cases kq with
   | zero => exact absurd HA.out (by simp [soundservicelaw18_ControlPlans.j1])
   | succ kj9 =>
    have H := HA.out
    clear HA
    simp only [soundservicelaw18_ControlPlans.j1] at H
    have HC36 := Am H
    clear H
    go_upto_region 11 with (first | ((with_reducible refine gate_dst (N := 18) rfl ?_); refine box_event ?hg (N := 18) ?hd (cs := #[.int .i64 0, .int .i64 0]) (t := 27) ?hr ?_; (case hd => rfl); (case hg => rfl); (case hr => first | (go_simp; done) | (go_simp; rfl)); intro gb201 hg w37 hbox hb; have n0_ := Am (Kd.R_below (by (with_reducible repeat (first | apply Kd.R_alloc | apply Kd.R_drewN | apply Kd.R_drew)); exact HO_16.out) hb); have n1_ := Am (blk_below (g := gb187) (o := .cells #[.int .i64 t178, .int .i64 t179, .int .i64 t180, .int .i64 t181] 23 (0, 0)) (by (with_reducible repeat (first | apply kN | apply kD | apply kA)); exact BK187.out) hb); have n2_ := Am (blk_below (g := gb188) (o := .cells #[.int .i64 t182, .int .i64 t183] 27 (0, 0)) (by (with_reducible repeat (first | apply kN | apply kD | apply kA)); exact BK188.out) hb); have n3_ := Am (blk_below (g := gb195) (o := .cells #[.int .i64 t189, .int .i64 t190, .int .i64 t191, .int .i64 t192] 23 (0, 0)) (by (with_reducible repeat (first | apply kN | apply kD | apply kA)); exact BK195.out) hb); have n4_ := Am (below_step (by repeat (first | (with_reducible first | exact HB.out | apply bA | apply bN | apply bD | refine bS ?_ GE187.out | refine bS ?_ GE188.out | refine bS ?_ GE195.out) | exact HB.out)) hb); have n5_ := Am (hbox); have n6_ := Am ((by rw [hg]; exact (below_size (by repeat (first | (with_reducible first | exact HB.out | apply bA | apply bN | apply bD | refine bS ?_ GE187.out | refine bS ?_ GE188.out | refine bS ?_ GE195.out) | exact HB.out))) : w.heap.size ≤ gb201)); have n7_ := Am ((by rw [hg]; exact (below_size (by repeat (first | (with_reducible first | exact HB.out | apply bA | apply bN | apply bD | refine bS ?_ GE187.out | refine bS ?_ GE188.out | refine bS ?_ GE195.out) | exact HB.out))) : w.heap.size ≤ gb201)); have n8_ := Am ((by rw [hg]; exact Nat.ne_of_lt (blk_lt (g := gb187) (o := .cells #[.int .i64 t178, .int .i64 t179, .int .i64 t180, .int .i64 t181] 23 (0, 0)) (by (with_reducible repeat (first | apply kN | apply kD | apply kA)); exact BK187.out)) : gb187 ≠ gb201)); have n9_ := Am ((by rw [hg]; exact Nat.ne_of_gt (blk_lt (g := gb187) (o := .cells #[.int .i64 t178, .int .i64 t179, .int .i64 t180, .int .i64 t181] 23 (0, 0)) (by (with_reducible repeat (first | apply kN | apply kD | apply kA)); exact BK187.out)) : gb201 ≠ gb187)); have n10_ := Am ((by rw [hg]; exact Nat.ne_of_lt (blk_lt (g := gb188) (o := .cells #[.int .i64 t182, .int .i64 t183] 27 (0, 0)) (by (with_reducible repeat (first | apply kN | apply kD | apply kA)); exact BK188.out)) : gb188 ≠ gb201)); have n11_ := Am ((by rw [hg]; exact Nat.ne_of_gt (blk_lt (g := gb188) (o := .cells #[.int .i64 t182, .int .i64 t183] 27 (0, 0)) (by (with_reducible repeat (first | apply kN | apply kD | apply kA)); exact BK188.out)) : gb201 ≠ gb188)); have n12_ := Am ((by rw [hg]; exact Nat.ne_of_lt (blk_lt (g := gb195) (o := .cells #[.int .i64 t189, .int .i64 t190, .int .i64 t191, .int .i64 t192] 23 (0, 0)) (by (with_reducible repeat (first | apply kN | apply kD | apply kA)); exact BK195.out)) : gb195 ≠ gb201)); have n13_ := Am ((by rw [hg]; exact Nat.ne_of_gt (blk_lt (g := gb195) (o := .cells #[.int .i64 t189, .int .i64 t190, .int .i64 t191, .int .i64 t192] 23 (0, 0)) (by (with_reducible repeat (first | apply kN | apply kD | apply kA)); exact BK195.out)) : gb201 ≠ gb195)); clear HO_16 BK187 BK188 BK195 HB; have HO_16 := n0_; have BK187 := n1_; have BK188 := n2_; have BK195 := n3_; have HB := n4_; have BK201 := n5_; have GW201 := n6_; have GE201 := n7_; have NB187_201 := n8_; have NB201_187 := n9_; have NB188_201 := n10_; have NB201_188 := n11_; have NB195_201 := n12_; have NB201_195 := n13_; clear n0_ n1_ n2_ n3_ n4_ n5_ n6_ n7_ n8_ n9_ n10_ n11_ n12_ n13_ hb hbox hg) | ((with_reducible refine gate_dst (N := 19) rfl ?_); refine box_event ?hg (N := 19) ?hd (cs := #[.int .i64 0, .int .i64 0]) (t := 27) ?hr ?_; (case hd => rfl); (case hg => rfl); (case hr => first | (go_simp; done) | (go_simp; rfl)); intro gb202 hg w38 hbox hb; have n0_ := Am (Kd.R_below (by (with_reducible repeat (first | apply Kd.R_alloc | apply Kd.R_drewN | apply Kd.R_drew)); exact HO_16.out) hb); have n1_ := Am (blk_below (g := gb187) (o := .cells #[.int .i64 t178, .int .i64 t179, .int .i64 t180, .int .i64 t181] 23 (0, 0)) (by (with_reducible repeat (first | apply kN | apply kD | apply kA)); exact BK187.out) hb); have n2_ := Am (blk_below (g := gb188) (o := .cells #[.int .i64 t182, .int .i64 t183] 27 (0, 0)) (by (with_reducible repeat (first | apply kN | apply kD | apply kA)); exact BK188.out) hb); have n3_ := Am (blk_below (g := gb195) (o := .cells #[.int .i64 t189, .int .i64 t190, .int .i64 t191, .int .i64 t192] 23 (0, 0)) (by (with_reducible repeat (first | apply kN | apply kD | apply kA)); exact BK195.out) hb); have n4_ := Am (blk_below (g := gb201) (o := .cells #[.int .i64 0, .int .i64 0] 27 (0, 0)) (by (with_reducible repeat (first | apply kN | apply kD | apply kA)); exact BK201.out) hb); have n5_ := Am (below_step (by repeat (first | (with_reducible first | exact HB.out | apply bA | apply bN | apply bD | refine bS ?_ GE187.out | refine bS ?_ GE188.out | refine bS ?_ GE195.out | refine bS ?_ GE201.out) | exact HB.out)) hb); have n6_ := Am (hbox); have n7_ := Am ((by rw [hg]; exact (below_size (by repeat (first | (with_reducible first | exact HB.out | apply bA | apply bN | apply bD | refine bS ?_ GE187.out | refine bS ?_ GE188.out | refine bS ?_ GE195.out | refine bS ?_ GE201.out) | exact HB.out))) : w.heap.size ≤ gb202)); have n8_ := Am ((by rw [hg]; exact (below_size (by repeat (first | (with_reducible first | exact HB.out | apply bA | apply bN | apply bD | refine bS ?_ GE187.out | refine bS ?_ GE188.out | refine bS ?_ GE195.out | refine bS ?_ GE201.out) | exact HB.out))) : w.heap.size ≤ gb202)); have n9_ := Am ((by rw [hg]; exact Nat.ne_of_lt (blk_lt (g := gb187) (o := .cells #[.int .i64 t178, .int .i64 t179, .int .i64 t180, .int .i64 t181] 23 (0, 0)) (by (with_reducible repeat (first | apply kN | apply kD | apply kA)); exact BK187.out)) : gb187 ≠ gb202)); have n10_ := Am ((by rw [hg]; exact Nat.ne_of_gt (blk_lt (g := gb187) (o := .cells #[.int .i64 t178, .int .i64 t179, .int .i64 t180, .int .i64 t181] 23 (0, 0)) (by (with_reducible repeat (first | apply kN | apply kD | apply kA)); exact BK187.out)) : gb202 ≠ gb187)); have n11_ := Am ((by rw [hg]; exact Nat.ne_of_lt (blk_lt (g := gb188) (o := .cells #[.int .i64 t182, .int .i64 t183] 27 (0, 0)) (by (with_reducible repeat (first | apply kN | apply kD | apply kA)); exact BK188.out)) : gb188 ≠ gb202)); have n12_ := Am ((by rw [hg]; exact Nat.ne_of_gt (blk_lt (g := gb188) (o := .cells #[.int .i64 t182, .int .i64 t183] 27 (0, 0)) (by (with_reducible repeat (first | apply kN | apply kD | apply kA)); exact BK188.out)) : gb202 ≠ gb188)); have n13_ := Am ((by rw [hg]; exact Nat.ne_of_lt (blk_lt (g := gb195) (o := .cells #[.int .i64 t189, .int .i64 t190, .int .i64 t191, .int .i64 t192] 23 (0, 0)) (by (with_reducible repeat (first | apply kN | apply kD | apply kA)); exact BK195.out)) : gb195 ≠ gb202)); have n14_ := Am ((by rw [hg]; exact Nat.ne_of_gt (blk_lt (g := gb195) (o := .cells #[.int .i64 t189, .int .i64 t190, .int .i64 t191, .int .i64 t192] 23 (0, 0)) (by (with_reducible repeat (first | apply kN | apply kD | apply kA)); exact BK195.out)) : gb202 ≠ gb195)); have n15_ := Am ((by rw [hg]; exact Nat.ne_of_lt (blk_lt (g := gb201) (o := .cells #[.int .i64 0, .int .i64 0] 27 (0, 0)) (by (with_reducible repeat (first | apply kN | apply kD | apply kA)); exact BK201.out)) : gb201 ≠ gb202)); have n16_ := Am ((by rw [hg]; exact Nat.ne_of_gt (blk_lt (g := gb201) (o := .cells #[.int .i64 0, .int .i64 0] 27 (0, 0)) (by (with_reducible repeat (first | apply kN | apply kD | apply kA)); exact BK201.out)) : gb202 ≠ gb201)); clear HO_16 BK187 BK188 BK195 BK201 HB; have HO_16 := n0_; have BK187 := n1_; have BK188 := n2_; have BK195 := n3_; have BK201 := n4_; have HB := n5_; have BK202 := n6_; have GW202 := n7_; have GE202 := n8_; have NB187_202 := n9_; have NB202_187 := n10_; have NB188_202 := n11_; have NB202_188 := n12_; have NB195_202 := n13_; have NB202_195 := n14_; have NB201_202 := n15_; have NB202_201 := n16_; clear n0_ n1_ n2_ n3_ n4_ n5_ n6_ n7_ n8_ n9_ n10_ n11_ n12_ n13_ n14_ n15_ n16_ hb hbox hg; have hnb39 := NB201_187.out; have hnc39 := NB187_201.out; have hnb40 := NB201_188.out; have hnc40 := NB188_201.out; have hnb41 := NB201_195.out; have hnc41 := NB195_201.out; have hnb42 := NB201_202.out; have hnc42 := NB202_201.out; have hcz43_0 : w38.cell? ⟨gb201, 0, none⟩ = some (.int .i64 0) := (blk_cell BK201.out 0).trans rfl; have hcz43_1 : w38.cell? ⟨gb201, 1, none⟩ = some (.int .i64 0) := (blk_cell BK201.out 1).trans rfl; have hfz43_0 := blk_frozen BK201.out 0; have hfz43_1 := blk_frozen BK201.out 1; have hnb44 := NB202_187.out; have hnc44 := NB187_202.out; have hnb45 := NB202_188.out; have hnc45 := NB188_202.out; have hnb46 := NB202_195.out; have hnc46 := NB195_202.out; have hcz47_0 : w38.cell? ⟨gb202, 0, none⟩ = some (.int .i64 0) := (blk_cell BK202.out 0).trans rfl; have hcz47_1 : w38.cell? ⟨gb202, 1, none⟩ = some (.int .i64 0) := (blk_cell BK202.out 1).trans rfl; have hfz47_0 := blk_frozen BK202.out 0; have hfz47_1 := blk_frozen BK202.out 1))
    (try simp only [pL])
    go_cut [95] (fun v95 wc => ∃ (kq : Nat) (x95_35 : Bool), v95 = .bool x95_35 ∧ Aside0 (soundservicelaw18_ControlPlans.j2 kq t184 t185 t193 t194 x95_35 t182 t183 t189 t190 t191 t192 = some r) ∧ Aside0 (kq ≤ kj9) ∧ Aside0 (wc.heap[gb187]? = some (.cells #[.int .i64 t178, .int .i64 t179, .int .i64 t180, .int .i64 t181] 23 (0, 0))) ∧ Aside0 (wc.heap[gb188]? = some (.cells #[.int .i64 t182, .int .i64 t183] 27 (0, 0))) ∧ Aside0 (wc.heap[gb195]? = some (.cells #[.int .i64 t189, .int .i64 t190, .int .i64 t191, .int .i64 t192] 23 (0, 0))) ∧ Aside0 (wc.heap[gb201]? = some (.cells #[.int .i64 1, .int .i64 1] 27 (0, 0))) ∧ Aside0 (wc.heap[gb202]? = some (.cells #[.int .i64 64, .int .i64 1] 27 (0, 0))) ∧ Aside0 (Below w.heap.size w wc))
    case first =>
     have H := HC36.out
     clear HC36
     replace H := Option.bind_eq_some_iff.mp H
     obtain ⟨t203, A480, H⟩ := H
     replace H : (if t203 = true then ((control_Declared.f kj9 1 1 64 1 t184 (wrap64 (t185 + 1)) x16_9).bind fun t204 => (soundservicelaw18_ControlPlans.j2 kj9 t184 t185 t193 t194 (!t204) t182 t183 t189 t190 t191 t192)) else (soundservicelaw18_ControlPlans.j2 kj9 t184 t185 t193 t194 false t182 t183 t189 t190 t191 t192)) = some r := H
     have A48 := Am A480
     clear A480
     by_cases c49 : t203 = true
     ·subst c49
      have H1 : ((control_Declared.f kj9 1 1 64 1 t184 (wrap64 (t185 + 1)) x16_9).bind fun t204 => (soundservicelaw18_ControlPlans.j2 kj9 t184 t185 t193 t194 (!t204) t182 t183 t189 t190 t191 t192)) = some r := by rw [if_pos rfl] at H; exact H
      clear H; have H := H1; clear H1
      replace H := Option.bind_eq_some_iff.mp H
      obtain ⟨t204, A500, H⟩ := H
      replace H : (soundservicelaw18_ControlPlans.j2 kj9 t184 t185 t193 t194 (!t204) t182 t183 t189 t190 t191 t192) = some r := H
      have A50 := Am A500
      clear A500
      have H' := Am H
      clear H
      have hnb51 := NB201_187.out
      have hnc51 := NB187_201.out
      have hnb52 := NB201_188.out
      have hnc52 := NB188_201.out
      have hnb53 := NB201_195.out
      have hnc53 := NB195_201.out
      have hnb54 := NB201_202.out
      have hnc54 := NB202_201.out
      have hcz55_0 : w38.cell? ⟨gb201, 0, none⟩ = some (.int .i64 0) := (blk_cell BK201.out 0).trans rfl
      have hcz55_1 : w38.cell? ⟨gb201, 1, none⟩ = some (.int .i64 0) := (blk_cell BK201.out 1).trans rfl
      have hfz55_0 := blk_frozen BK201.out 0
      have hfz55_1 := blk_frozen BK201.out 1
      have hnb56 := NB202_187.out
      have hnc56 := NB187_202.out
      have hnb57 := NB202_188.out
      have hnc57 := NB188_202.out
      have hnb58 := NB202_195.out
      have hnc58 := NB195_202.out
      have hcz59_0 : w38.cell? ⟨gb202, 0, none⟩ = some (.int .i64 0) := (blk_cell BK202.out 0).trans rfl
      have hcz59_1 : w38.cell? ⟨gb202, 1, none⟩ = some (.int .i64 0) := (blk_cell BK202.out 1).trans rfl
      have hfz59_0 := blk_frozen BK202.out 0
      have hfz59_1 := blk_frozen BK202.out 1
      obtain ⟨Ao60, co60, eo60⟩ := Kd.R_slice HO_16.out
      subst eo60
      go_wp2_with (first | ((with_reducible refine gate_callee (f := 24) rfl ?_); refine goesL_ (some 85) rfl rfl Try.func24 (by kernel_rfl) rfl #[.agg #[.int .i64 1, .int .i64 1], .agg #[.int .i64 64, .int .i64 1], .int .i64 (wrap64 (Int.tdiv t184 2)), .int .i64 t185, .slice Ao60 x16_9.length co60] rfl (by (try simp only [List.map_toArray, List.map_cons, List.map_nil]); first | done | rfl | (simp only [List.length_drop, List.length_take]; rfl)) ?_; (with_reducible refine (control_Declared.calls kj9 1 1 64 1 (wrap64 (Int.tdiv t184 2)) t185 _ _ x16_9 true _ ?side1 ?side2 A48.out).mono ?_); (case side1 => refine (Kd.R_reads' (e := 54) (base := w.heap.size) (ok := fun k_ => True) (n := x16_9.length) (c := co60) ?_).2.2; exact (by (with_reducible repeat (first | apply Kd.R_alloc | apply Kd.R_drewN | apply Kd.R_drew)); exact (Kd.R_mono (Kd.R_mono (Kd.R_far (p := ⟨gb202, 1, none⟩) (Kd.R_far (p := ⟨gb202, 0, none⟩) (Kd.R_far (p := ⟨gb201, 1, none⟩) (Kd.R_far (p := ⟨gb201, 0, none⟩) (Kd.R_types (Kd.R_types HO_16.out BK201.out (by decide)) BK202.out (by decide)) (fun _ hk => hk.1.2) (.int .i64 1)) (fun _ hk => hk.1.2) (.int .i64 1)) (fun _ hk => hk.2) (.int .i64 64)) (fun _ hk => hk.2) (.int .i64 1)) (fun _ h_ => h_.1)) (fun _ h_ => h_.1)))); (case side2 => exact (Kd.R_reads' HO_16.out).2.1); rintro e w61 ⟨rfl, hb⟩; refine ⟨_, rfl, ?_⟩; have n0_ := Am (Kd.R_below (by (with_reducible repeat (first | apply Kd.R_alloc | apply Kd.R_drewN | apply Kd.R_drew)); exact (Kd.R_mono (Kd.R_mono (Kd.R_far (p := ⟨gb202, 1, none⟩) (Kd.R_far (p := ⟨gb202, 0, none⟩) (Kd.R_far (p := ⟨gb201, 1, none⟩) (Kd.R_far (p := ⟨gb201, 0, none⟩) (Kd.R_types (Kd.R_types HO_16.out BK201.out (by decide)) BK202.out (by decide)) (fun _ hk => hk.1.2) (.int .i64 1)) (fun _ hk => hk.1.2) (.int .i64 1)) (fun _ hk => hk.2) (.int .i64 64)) (fun _ hk => hk.2) (.int .i64 1)) (fun _ h_ => h_.1)) (fun _ h_ => h_.1))) hb); have n1_ := Am (blk_below (g := gb187) (o := .cells #[.int .i64 t178, .int .i64 t179, .int .i64 t180, .int .i64 t181] 23 (0, 0)) (by (with_reducible repeat (first | apply kN | apply kD | apply kA)); refine blk_far ?_ NB187_202.out _; (with_reducible repeat (first | apply kN | apply kD | apply kA)); refine blk_far ?_ NB187_202.out _; (with_reducible repeat (first | apply kN | apply kD | apply kA)); refine blk_far ?_ NB187_201.out _; (with_reducible repeat (first | apply kN | apply kD | apply kA)); refine blk_far ?_ NB187_201.out _; (with_reducible repeat (first | apply kN | apply kD | apply kA)); exact BK187.out) hb); have n2_ := Am (blk_below (g := gb188) (o := .cells #[.int .i64 t182, .int .i64 t183] 27 (0, 0)) (by (with_reducible repeat (first | apply kN | apply kD | apply kA)); refine blk_far ?_ NB188_202.out _; (with_reducible repeat (first | apply kN | apply kD | apply kA)); refine blk_far ?_ NB188_202.out _; (with_reducible repeat (first | apply kN | apply kD | apply kA)); refine blk_far ?_ NB188_201.out _; (with_reducible repeat (first | apply kN | apply kD | apply kA)); refine blk_far ?_ NB188_201.out _; (with_reducible repeat (first | apply kN | apply kD | apply kA)); exact BK188.out) hb); have n3_ := Am (blk_below (g := gb195) (o := .cells #[.int .i64 t189, .int .i64 t190, .int .i64 t191, .int .i64 t192] 23 (0, 0)) (by (with_reducible repeat (first | apply kN | apply kD | apply kA)); refine blk_far ?_ NB195_202.out _; (with_reducible repeat (first | apply kN | apply kD | apply kA)); refine blk_far ?_ NB195_202.out _; (with_reducible repeat (first | apply kN | apply kD | apply kA)); refine blk_far ?_ NB195_201.out _; (with_reducible repeat (first | apply kN | apply kD | apply kA)); refine blk_far ?_ NB195_201.out _; (with_reducible repeat (first | apply kN | apply kD | apply kA)); exact BK195.out) hb); have n4_ := Am (blk_below (g := gb201) (o := .cells #[.int .i64 1, .int .i64 1] 27 (0, 0)) (by (with_reducible repeat (first | apply kN | apply kD | apply kA)); refine blk_far ?_ NB201_202.out _; (with_reducible repeat (first | apply kN | apply kD | apply kA)); refine blk_far ?_ NB201_202.out _; (with_reducible repeat (first | apply kN | apply kD | apply kA)); refine blk_put (cs := #[.int .i64 1, .int .i64 0]) ?_ 1 _ rfl; (with_reducible repeat (first | apply kN | apply kD | apply kA)); refine blk_put (cs := #[.int .i64 0, .int .i64 0]) ?_ 0 _ rfl; (with_reducible repeat (first | apply kN | apply kD | apply kA)); exact BK201.out) hb); have n5_ := Am (blk_below (g := gb202) (o := .cells #[.int .i64 64, .int .i64 1] 27 (0, 0)) (by (with_reducible repeat (first | apply kN | apply kD | apply kA)); refine blk_put (cs := #[.int .i64 64, .int .i64 0]) ?_ 1 _ rfl; (with_reducible repeat (first | apply kN | apply kD | apply kA)); refine blk_put (cs := #[.int .i64 0, .int .i64 0]) ?_ 0 _ rfl; (with_reducible repeat (first | apply kN | apply kD | apply kA)); refine blk_far ?_ NB202_201.out _; (with_reducible repeat (first | apply kN | apply kD | apply kA)); refine blk_far ?_ NB202_201.out _; (with_reducible repeat (first | apply kN | apply kD | apply kA)); exact BK202.out) hb); have n6_ := Am (below_step (by repeat (first | (with_reducible first | exact HB.out | apply bA | apply bN | apply bD | refine bS ?_ GE187.out | refine bS ?_ GE188.out | refine bS ?_ GE195.out | refine bS ?_ GE201.out | refine bS ?_ GE202.out) | exact HB.out)) hb); clear HO_16 BK187 BK188 BK195 BK201 BK202 HB; have HO_16 := n0_; have BK187 := n1_; have BK188 := n2_; have BK195 := n3_; have BK201 := n4_; have BK202 := n5_; have HB := n6_; clear n0_ n1_ n2_ n3_ n4_ n5_ n6_; (try clear hb); (try clear hb2); (try clear hk); (try clear hi); have hcz62_0 : w61.cell? ⟨gb201, 0, none⟩ = some (.int .i64 1) := (blk_cell BK201.out 0).trans rfl; have hcz62_1 : w61.cell? ⟨gb201, 1, none⟩ = some (.int .i64 1) := (blk_cell BK201.out 1).trans rfl; have hfz62_0 := blk_frozen BK201.out 0; have hfz62_1 := blk_frozen BK201.out 1; have hcz63_0 : w61.cell? ⟨gb202, 0, none⟩ = some (.int .i64 64) := (blk_cell BK202.out 0).trans rfl; have hcz63_1 : w61.cell? ⟨gb202, 1, none⟩ = some (.int .i64 1) := (blk_cell BK202.out 1).trans rfl; have hfz63_0 := blk_frozen BK202.out 0; have hfz63_1 := blk_frozen BK202.out 1) | (go_at_call 24; (with_reducible refine (control_Declared.calls kj9 1 1 64 1 t184 (wrap64 (t185 + 1)) _ _ x16_9 t204 _ ?side1 ?side2 A50.out).mono ?_); (case side1 => repeat (first | exact (Kd.R_reads' HO_16.out).2.2 | (with_reducible refine Kd.C_alloc ?_ _) | (with_reducible refine Kd.C_drewN ?_ _) | (with_reducible refine Kd.C_drew ?_))); (case side2 => exact (Kd.R_reads' HO_16.out).2.1); rintro e w64 ⟨rfl, hb⟩; have n0_ := Am (Kd.R_below (by (with_reducible repeat (first | apply Kd.R_alloc | apply Kd.R_drewN | apply Kd.R_drew)); exact HO_16.out) hb); have n1_ := Am (blk_below (g := gb187) (o := .cells #[.int .i64 t178, .int .i64 t179, .int .i64 t180, .int .i64 t181] 23 (0, 0)) (by (with_reducible repeat (first | apply kN | apply kD | apply kA)); exact BK187.out) hb); have n2_ := Am (blk_below (g := gb188) (o := .cells #[.int .i64 t182, .int .i64 t183] 27 (0, 0)) (by (with_reducible repeat (first | apply kN | apply kD | apply kA)); exact BK188.out) hb); have n3_ := Am (blk_below (g := gb195) (o := .cells #[.int .i64 t189, .int .i64 t190, .int .i64 t191, .int .i64 t192] 23 (0, 0)) (by (with_reducible repeat (first | apply kN | apply kD | apply kA)); exact BK195.out) hb); have n4_ := Am (blk_below (g := gb201) (o := .cells #[.int .i64 1, .int .i64 1] 27 (0, 0)) (by (with_reducible repeat (first | apply kN | apply kD | apply kA)); exact BK201.out) hb); have n5_ := Am (blk_below (g := gb202) (o := .cells #[.int .i64 64, .int .i64 1] 27 (0, 0)) (by (with_reducible repeat (first | apply kN | apply kD | apply kA)); exact BK202.out) hb); have n6_ := Am (below_step (by repeat (first | (with_reducible first | exact HB.out | apply bA | apply bN | apply bD | refine bS ?_ GE187.out | refine bS ?_ GE188.out | refine bS ?_ GE195.out | refine bS ?_ GE201.out | refine bS ?_ GE202.out) | exact HB.out)) hb); clear HO_16 BK187 BK188 BK195 BK201 BK202 HB; have HO_16 := n0_; have BK187 := n1_; have BK188 := n2_; have BK195 := n3_; have BK201 := n4_; have BK202 := n5_; have HB := n6_; clear n0_ n1_ n2_ n3_ n4_ n5_ n6_; (try clear hb); (try clear hb2); (try clear hk); (try clear hi)))
      go_meet
      case rel => exact ⟨_, (!t204), (by first | rfl | (simp; done) | (simp [*]; done)), H', ⟨by have := HJ9.out; first | omega | exact Nat.le_refl _⟩, ⟨by (with_reducible repeat (first | apply kN | apply kD | apply kA)); exact BK187.out⟩, ⟨by (with_reducible repeat (first | apply kN | apply kD | apply kA)); exact BK188.out⟩, ⟨by (with_reducible repeat (first | apply kN | apply kD | apply kA)); exact BK195.out⟩, ⟨by (with_reducible repeat (first | apply kN | apply kD | apply kA)); exact BK201.out⟩, ⟨by (with_reducible repeat (first | apply kN | apply kD | apply kA)); exact BK202.out⟩, ⟨by repeat (first | (with_reducible first | exact HB.out | apply bA | apply bN | apply bD | refine bS ?_ GE187.out | refine bS ?_ GE188.out | refine bS ?_ GE195.out | refine bS ?_ GE201.out | refine bS ?_ GE202.out) | exact HB.out)⟩⟩
     ·replace c49 := Bool.eq_false_iff.mpr c49
      subst c49
      have H1 : (soundservicelaw18_ControlPlans.j2 kj9 t184 t185 t193 t194 false t182 t183 t189 t190 t191 t192) = some r := by rw [if_neg (show ¬ (false = true) by decide)] at H; exact H
      clear H; have H := H1; clear H1
      have H' := Am H
      clear H
      have hnb65 := NB201_187.out
      have hnc65 := NB187_201.out
      have hnb66 := NB201_188.out
      have hnc66 := NB188_201.out
      have hnb67 := NB201_195.out
      have hnc67 := NB195_201.out
      have hnb68 := NB201_202.out
      have hnc68 := NB202_201.out
      have hcz69_0 : w38.cell? ⟨gb201, 0, none⟩ = some (.int .i64 0) := (blk_cell BK201.out 0).trans rfl
      have hcz69_1 : w38.cell? ⟨gb201, 1, none⟩ = some (.int .i64 0) := (blk_cell BK201.out 1).trans rfl
      have hfz69_0 := blk_frozen BK201.out 0
      have hfz69_1 := blk_frozen BK201.out 1
      have hnb70 := NB202_187.out
      have hnc70 := NB187_202.out
      have hnb71 := NB202_188.out
      have hnc71 := NB188_202.out
      have hnb72 := NB202_195.out
      have hnc72 := NB195_202.out
      have hcz73_0 : w38.cell? ⟨gb202, 0, none⟩ = some (.int .i64 0) := (blk_cell BK202.out 0).trans rfl
      have hcz73_1 : w38.cell? ⟨gb202, 1, none⟩ = some (.int .i64 0) := (blk_cell BK202.out 1).trans rfl
      have hfz73_0 := blk_frozen BK202.out 0
      have hfz73_1 := blk_frozen BK202.out 1
      obtain ⟨Ao74, co74, eo74⟩ := Kd.R_slice HO_16.out
      subst eo74
      go_wp2_with (first | ((with_reducible refine gate_callee (f := 24) rfl ?_); refine goesL_ (some 85) rfl rfl Try.func24 (by kernel_rfl) rfl #[.agg #[.int .i64 1, .int .i64 1], .agg #[.int .i64 64, .int .i64 1], .int .i64 (wrap64 (Int.tdiv t184 2)), .int .i64 t185, .slice Ao74 x16_9.length co74] rfl (by (try simp only [List.map_toArray, List.map_cons, List.map_nil]); first | done | rfl | (simp only [List.length_drop, List.length_take]; rfl)) ?_; (with_reducible refine (control_Declared.calls kj9 1 1 64 1 (wrap64 (Int.tdiv t184 2)) t185 _ _ x16_9 false _ ?side1 ?side2 A48.out).mono ?_); (case side1 => refine (Kd.R_reads' (e := 54) (base := w.heap.size) (ok := fun k_ => True) (n := x16_9.length) (c := co74) ?_).2.2; exact (by (with_reducible repeat (first | apply Kd.R_alloc | apply Kd.R_drewN | apply Kd.R_drew)); exact (Kd.R_mono (Kd.R_mono (Kd.R_far (p := ⟨gb202, 1, none⟩) (Kd.R_far (p := ⟨gb202, 0, none⟩) (Kd.R_far (p := ⟨gb201, 1, none⟩) (Kd.R_far (p := ⟨gb201, 0, none⟩) (Kd.R_types (Kd.R_types HO_16.out BK201.out (by decide)) BK202.out (by decide)) (fun _ hk => hk.1.2) (.int .i64 1)) (fun _ hk => hk.1.2) (.int .i64 1)) (fun _ hk => hk.2) (.int .i64 64)) (fun _ hk => hk.2) (.int .i64 1)) (fun _ h_ => h_.1)) (fun _ h_ => h_.1)))); (case side2 => exact (Kd.R_reads' HO_16.out).2.1); rintro e w75 ⟨rfl, hb⟩; refine ⟨_, rfl, ?_⟩; have n0_ := Am (Kd.R_below (by (with_reducible repeat (first | apply Kd.R_alloc | apply Kd.R_drewN | apply Kd.R_drew)); exact (Kd.R_mono (Kd.R_mono (Kd.R_far (p := ⟨gb202, 1, none⟩) (Kd.R_far (p := ⟨gb202, 0, none⟩) (Kd.R_far (p := ⟨gb201, 1, none⟩) (Kd.R_far (p := ⟨gb201, 0, none⟩) (Kd.R_types (Kd.R_types HO_16.out BK201.out (by decide)) BK202.out (by decide)) (fun _ hk => hk.1.2) (.int .i64 1)) (fun _ hk => hk.1.2) (.int .i64 1)) (fun _ hk => hk.2) (.int .i64 64)) (fun _ hk => hk.2) (.int .i64 1)) (fun _ h_ => h_.1)) (fun _ h_ => h_.1))) hb); have n1_ := Am (blk_below (g := gb187) (o := .cells #[.int .i64 t178, .int .i64 t179, .int .i64 t180, .int .i64 t181] 23 (0, 0)) (by (with_reducible repeat (first | apply kN | apply kD | apply kA)); refine blk_far ?_ NB187_202.out _; (with_reducible repeat (first | apply kN | apply kD | apply kA)); refine blk_far ?_ NB187_202.out _; (with_reducible repeat (first | apply kN | apply kD | apply kA)); refine blk_far ?_ NB187_201.out _; (with_reducible repeat (first | apply kN | apply kD | apply kA)); refine blk_far ?_ NB187_201.out _; (with_reducible repeat (first | apply kN | apply kD | apply kA)); exact BK187.out) hb); have n2_ := Am (blk_below (g := gb188) (o := .cells #[.int .i64 t182, .int .i64 t183] 27 (0, 0)) (by (with_reducible repeat (first | apply kN | apply kD | apply kA)); refine blk_far ?_ NB188_202.out _; (with_reducible repeat (first | apply kN | apply kD | apply kA)); refine blk_far ?_ NB188_202.out _; (with_reducible repeat (first | apply kN | apply kD | apply kA)); refine blk_far ?_ NB188_201.out _; (with_reducible repeat (first | apply kN | apply kD | apply kA)); refine blk_far ?_ NB188_201.out _; (with_reducible repeat (first | apply kN | apply kD | apply kA)); exact BK188.out) hb); have n3_ := Am (blk_below (g := gb195) (o := .cells #[.int .i64 t189, .int .i64 t190, .int .i64 t191, .int .i64 t192] 23 (0, 0)) (by (with_reducible repeat (first | apply kN | apply kD | apply kA)); refine blk_far ?_ NB195_202.out _; (with_reducible repeat (first | apply kN | apply kD | apply kA)); refine blk_far ?_ NB195_202.out _; (with_reducible repeat (first | apply kN | apply kD | apply kA)); refine blk_far ?_ NB195_201.out _; (with_reducible repeat (first | apply kN | apply kD | apply kA)); refine blk_far ?_ NB195_201.out _; (with_reducible repeat (first | apply kN | apply kD | apply kA)); exact BK195.out) hb); have n4_ := Am (blk_below (g := gb201) (o := .cells #[.int .i64 1, .int .i64 1] 27 (0, 0)) (by (with_reducible repeat (first | apply kN | apply kD | apply kA)); refine blk_far ?_ NB201_202.out _; (with_reducible repeat (first | apply kN | apply kD | apply kA)); refine blk_far ?_ NB201_202.out _; (with_reducible repeat (first | apply kN | apply kD | apply kA)); refine blk_put (cs := #[.int .i64 1, .int .i64 0]) ?_ 1 _ rfl; (with_reducible repeat (first | apply kN | apply kD | apply kA)); refine blk_put (cs := #[.int .i64 0, .int .i64 0]) ?_ 0 _ rfl; (with_reducible repeat (first | apply kN | apply kD | apply kA)); exact BK201.out) hb); have n5_ := Am (blk_below (g := gb202) (o := .cells #[.int .i64 64, .int .i64 1] 27 (0, 0)) (by (with_reducible repeat (first | apply kN | apply kD | apply kA)); refine blk_put (cs := #[.int .i64 64, .int .i64 0]) ?_ 1 _ rfl; (with_reducible repeat (first | apply kN | apply kD | apply kA)); refine blk_put (cs := #[.int .i64 0, .int .i64 0]) ?_ 0 _ rfl; (with_reducible repeat (first | apply kN | apply kD | apply kA)); refine blk_far ?_ NB202_201.out _; (with_reducible repeat (first | apply kN | apply kD | apply kA)); refine blk_far ?_ NB202_201.out _; (with_reducible repeat (first | apply kN | apply kD | apply kA)); exact BK202.out) hb); have n6_ := Am (below_step (by repeat (first | (with_reducible first | exact HB.out | apply bA | apply bN | apply bD | refine bS ?_ GE187.out | refine bS ?_ GE188.out | refine bS ?_ GE195.out | refine bS ?_ GE201.out | refine bS ?_ GE202.out) | exact HB.out)) hb); clear HO_16 BK187 BK188 BK195 BK201 BK202 HB; have HO_16 := n0_; have BK187 := n1_; have BK188 := n2_; have BK195 := n3_; have BK201 := n4_; have BK202 := n5_; have HB := n6_; clear n0_ n1_ n2_ n3_ n4_ n5_ n6_; (try clear hb); (try clear hb2); (try clear hk); (try clear hi)))
      go_meet
      case rel => exact ⟨_, (false), (by first | rfl | (simp; done) | (simp [*]; done)), H', ⟨by have := HJ9.out; first | omega | exact Nat.le_refl _⟩, ⟨by (with_reducible repeat (first | apply kN | apply kD | apply kA)); exact BK187.out⟩, ⟨by (with_reducible repeat (first | apply kN | apply kD | apply kA)); exact BK188.out⟩, ⟨by (with_reducible repeat (first | apply kN | apply kD | apply kA)); exact BK195.out⟩, ⟨by (with_reducible repeat (first | apply kN | apply kD | apply kA)); exact BK201.out⟩, ⟨by (with_reducible repeat (first | apply kN | apply kD | apply kA)); exact BK202.out⟩, ⟨by repeat (first | (with_reducible first | exact HB.out | apply bA | apply bN | apply bD | refine bS ?_ GE187.out | refine bS ?_ GE188.out | refine bS ?_ GE195.out | refine bS ?_ GE201.out | refine bS ?_ GE202.out) | exact HB.out)⟩⟩
    case rest =>
     clear HC36; (try clear c1); (try clear p1); (try clear q1); (try clear hx1); (try clear c2); (try clear p2); (try clear c3); (try clear c4); (try clear c5); (try clear c6); (try clear p6); (try clear c7); (try clear c9); (try clear c10); (try clear c11); (try clear c12); (try clear c16); (try clear c17); (try clear c19); (try clear p19); (try clear q19); (try clear hx19); (try clear c21); (try clear c23); (try clear c24); (try clear c25); (try clear c27); (try clear c27b0); (try clear c28); (try clear c28b0); (try clear c29); (try clear c29b0); (try clear c30); (try clear c30b0); (try clear c32); (try clear c32b0); (try clear c33); (try clear c39); (try clear c40); (try clear c41); (try clear c42); (try clear c44); (try clear c45); (try clear c46); (try clear c49); (try clear c51); (try clear c52); (try clear c53); (try clear c54); (try clear c56); (try clear c57); (try clear c58); (try clear p64); (try clear c65); (try clear c66); (try clear c67); (try clear c68); (try clear c70); (try clear c71); (try clear c72); (try clear hcz18_0); (try clear hcz18_1); (try clear hcz18_2); (try clear hcz18_3); (try clear hcz20_0); (try clear hcz20_1); (try clear hcz26_0); (try clear hcz26_1); (try clear hcz26_2); (try clear hcz26_3); (try clear hcz43_0); (try clear hcz43_1); (try clear hcz47_0); (try clear hcz47_1); (try clear hcz55_0); (try clear hcz55_1); (try clear hcz59_0); (try clear hcz59_1); (try clear hcz62_0); (try clear hcz62_1); (try clear hcz63_0); (try clear hcz63_1); (try clear hcz69_0); (try clear hcz69_1); (try clear hcz73_0); (try clear hcz73_1); (try clear hfz18_0); (try clear hfz18_1); (try clear hfz18_2); (try clear hfz18_3); (try clear hfz20_0); (try clear hfz20_1); (try clear hfz26_0); (try clear hfz26_1); (try clear hfz26_2); (try clear hfz26_3); (try clear hfz43_0); (try clear hfz43_1); (try clear hfz47_0); (try clear hfz47_1); (try clear hfz55_0); (try clear hfz55_1); (try clear hfz59_0); (try clear hfz59_1); (try clear hfz62_0); (try clear hfz62_1); (try clear hfz63_0)
     (try clear hfz63_1); (try clear hfz69_0); (try clear hfz69_1); (try clear hfz73_0); (try clear hfz73_1); (try clear hx196_0); (try clear hx197_0); (try clear p1); (try clear p19); (try clear p196); (try clear p197); (try clear p2); (try clear p6); (try clear q1); (try clear q19); (try clear q196); (try clear q197)
     obtain ⟨kq, x95_35, rfl, HA, HJ35, BK187, BK188, BK195, BK201, BK202, HB⟩ := hcut
     cases kq with
     | zero => exact absurd HA.out (by simp [soundservicelaw18_ControlPlans.j2])
     | succ kj35 =>
      have H := HA.out
      clear HA
      simp only [soundservicelaw18_ControlPlans.j2] at H
      by_cases c76 : x95_35 = true
      ·subst c76
       have H1 : (some false) = some r := by rw [if_pos rfl] at H; exact H
       clear H; have H := H1; clear H1
       obtain rfl := Option.some.inj H
       go_wp2
       go_ret
       exact ⟨by first | rfl | (simp [errW_none, errW_some] <;> rfl) | (simp [*, errW_none, errW_some] <;> rfl), by repeat (first | (with_reducible first | exact HB.out | apply bA | apply bN | apply bD | refine bS ?_ GE187.out | refine bS ?_ GE188.out | refine bS ?_ GE195.out | refine bS ?_ GE201.out | refine bS ?_ GE202.out) | exact HB.out)⟩
      ·replace c76 := Bool.eq_false_iff.mpr c76
       subst c76
       have H1 : (if t194 = 0 then ((control_Bound.f kj35 t189 t190 t191 t192 t182 t183 t184 t185 0).bind fun bt205 => ((control_Demand.f kj35 t189 t190 t191 t192 t182 t183 t184 t185).bind fun bt207 => (if bt205.2 = 0 then (if bt207.2 = 0 then (if (wrap64 (t189 - bt205.1)) ≥ bt207.1 then (if (wrap64 (t189 + bt205.1)) ≤ t193 then (if t193 ≤ 65536 then ((control_Valid.f t189 t190 t191 t192).bind fun t209 => (some t209)) else (some false)) else (some false)) else (some false)) else (some false)) else (some false)))) else (if (t189 == 0 && (t190 == 0 && (t191 == 0 && (t192 == 0)))) = true then (some (t193 == 0)) else (some false))) = some r := by rw [if_neg (show ¬ (false = true) by decide)] at H; exact H
       clear H; have H := H1; clear H1
       by_cases c77 : t194 = 0
       ·rw [if_pos c77] at H
        have c77b0 : (t194 == 0) = true := beq_iff_eq.mpr c77
        have c77b1 : (t194 != 0) = false := bne_eq_false_iff_eq.mpr c77
        clear c77
        replace H := Option.bind_eq_some_iff.mp H
        obtain ⟨⟨t205, t206⟩, A780, H⟩ := H
        replace H : ((control_Demand.f kj35 t189 t190 t191 t192 t182 t183 t184 t185).bind fun bt207 => (if t206 = 0 then (if bt207.2 = 0 then (if (wrap64 (t189 - t205)) ≥ bt207.1 then (if (wrap64 (t189 + t205)) ≤ t193 then (if t193 ≤ 65536 then ((control_Valid.f t189 t190 t191 t192).bind fun t209 => (some t209)) else (some false)) else (some false)) else (some false)) else (some false)) else (some false))) = some r := H
        have A78 := Am A780
        clear A780
        replace H := Option.bind_eq_some_iff.mp H
        obtain ⟨⟨t207, t208⟩, A790, H⟩ := H
        replace H : (if t206 = 0 then (if t208 = 0 then (if (wrap64 (t189 - t205)) ≥ t207 then (if (wrap64 (t189 + t205)) ≤ t193 then (if t193 ≤ 65536 then ((control_Valid.f t189 t190 t191 t192).bind fun t209 => (some t209)) else (some false)) else (some false)) else (some false)) else (some false)) else (some false)) = some r := H
        have A79 := Am A790
        clear A790
        by_cases c80 : t206 = 0
        ·rw [if_pos c80] at H
         have c80b0 : (t206 == 0) = true := beq_iff_eq.mpr c80
         have c80b1 : (t206 != 0) = false := bne_eq_false_iff_eq.mpr c80
         clear c80
         by_cases c81 : t208 = 0
         ·rw [if_pos c81] at H
          have c81b0 : (t208 == 0) = true := beq_iff_eq.mpr c81
          have c81b1 : (t208 != 0) = false := bne_eq_false_iff_eq.mpr c81
          clear c81
          by_cases c82 : (wrap64 (t189 - t205)) ≥ t207
          ·rw [if_pos c82] at H
           have c82b0 : decide (t207 ≤ (wrap64 (t189 - t205))) = true := decide_eq_true c82
           clear c82
           by_cases c83 : (wrap64 (t189 + t205)) ≤ t193
           ·rw [if_pos c83] at H
            have c83b0 : decide ((wrap64 (t189 + t205)) ≤ t193) = true := decide_eq_true c83
            clear c83
            by_cases c84 : t193 ≤ 65536
            ·rw [if_pos c84] at H
             have c84b0 : decide (t193 ≤ 65536) = true := decide_eq_true c84
             clear c84
             replace H := Option.bind_eq_some_iff.mp H
             obtain ⟨t209, A850, H⟩ := H
             replace H : (some t209) = some r := H
             have A85 := Am A850
             clear A850
             obtain rfl := Option.some.inj H
             have hnb86 := NB195_187.out
             have hnc86 := NB187_195.out
             have hnb87 := NB195_188.out
             have hnc87 := NB188_195.out
             have hnb88 := NB195_201.out
             have hnc88 := NB201_195.out
             have hnb89 := NB195_202.out
             have hnc89 := NB202_195.out
             have hcz90_0 : wc.cell? ⟨gb195, 0, none⟩ = some (.int .i64 t189) := (blk_cell BK195.out 0).trans rfl
             have hcz90_1 : wc.cell? ⟨gb195, 1, none⟩ = some (.int .i64 t190) := (blk_cell BK195.out 1).trans rfl
             have hcz90_2 : wc.cell? ⟨gb195, 2, none⟩ = some (.int .i64 t191) := (blk_cell BK195.out 2).trans rfl
             have hcz90_3 : wc.cell? ⟨gb195, 3, none⟩ = some (.int .i64 t192) := (blk_cell BK195.out 3).trans rfl
             have hfz90_0 := blk_frozen BK195.out 0
             have hfz90_1 := blk_frozen BK195.out 1
             have hfz90_2 := blk_frozen BK195.out 2
             have hfz90_3 := blk_frozen BK195.out 3
             have hnb91 := NB188_187.out
             have hnc91 := NB187_188.out
             have hnb92 := NB188_201.out
             have hnc92 := NB201_188.out
             have hnb93 := NB188_202.out
             have hnc93 := NB202_188.out
             have hcz94_0 : wc.cell? ⟨gb188, 0, none⟩ = some (.int .i64 t182) := (blk_cell BK188.out 0).trans rfl
             have hcz94_1 : wc.cell? ⟨gb188, 1, none⟩ = some (.int .i64 t183) := (blk_cell BK188.out 1).trans rfl
             have hfz94_0 := blk_frozen BK188.out 0
             have hfz94_1 := blk_frozen BK188.out 1
             go_wp2_with (first | ((with_reducible refine gate_callee (f := 17) rfl ?_); refine goesL_ (some 110) rfl rfl Try.func17 (by kernel_rfl) rfl #[.agg #[.int .i64 t189, .int .i64 t190, .int .i64 t191, .int .i64 t192], .agg #[.int .i64 t182, .int .i64 t183], .int .i64 t184, .int .i64 t185, .int .i64 0] rfl (by (try simp only [List.map_toArray, List.map_cons, List.map_nil]); first | done | rfl | (simp only [List.length_drop, List.length_take]; rfl)) ?_; (with_reducible refine (control_Bound.calls kj35 t189 t190 t191 t192 t182 t183 t184 t185 0 t205 t206 _ A78.out).mono ?_); rintro e w95 ⟨rfl, hb⟩; refine ⟨_, rfl, ?_⟩; have n0_ := Am (blk_below (g := gb187) (o := .cells #[.int .i64 t178, .int .i64 t179, .int .i64 t180, .int .i64 t181] 23 (0, 0)) (by (with_reducible repeat (first | apply kN | apply kD | apply kA)); exact BK187.out) hb); have n1_ := Am (blk_below (g := gb188) (o := .cells #[.int .i64 t182, .int .i64 t183] 27 (0, 0)) (by (with_reducible repeat (first | apply kN | apply kD | apply kA)); exact BK188.out) hb); have n2_ := Am (blk_below (g := gb195) (o := .cells #[.int .i64 t189, .int .i64 t190, .int .i64 t191, .int .i64 t192] 23 (0, 0)) (by (with_reducible repeat (first | apply kN | apply kD | apply kA)); exact BK195.out) hb); have n3_ := Am (blk_below (g := gb201) (o := .cells #[.int .i64 1, .int .i64 1] 27 (0, 0)) (by (with_reducible repeat (first | apply kN | apply kD | apply kA)); exact BK201.out) hb); have n4_ := Am (blk_below (g := gb202) (o := .cells #[.int .i64 64, .int .i64 1] 27 (0, 0)) (by (with_reducible repeat (first | apply kN | apply kD | apply kA)); exact BK202.out) hb); have n5_ := Am (below_step (by repeat (first | (with_reducible first | exact HB.out | apply bA | apply bN | apply bD | refine bS ?_ GE187.out | refine bS ?_ GE188.out | refine bS ?_ GE195.out | refine bS ?_ GE201.out | refine bS ?_ GE202.out) | exact HB.out)) hb); clear BK187 BK188 BK195 BK201 BK202 HB; have BK187 := n0_; have BK188 := n1_; have BK195 := n2_; have BK201 := n3_; have BK202 := n4_; have HB := n5_; clear n0_ n1_ n2_ n3_ n4_ n5_; (try clear hb); (try clear hb2); (try clear hk); (try clear hi); have hcz96_0 : w95.cell? ⟨gb195, 0, none⟩ = some (.int .i64 t189) := (blk_cell BK195.out 0).trans rfl; have hcz96_1 : w95.cell? ⟨gb195, 1, none⟩ = some (.int .i64 t190) := (blk_cell BK195.out 1).trans rfl; have hcz96_2 : w95.cell? ⟨gb195, 2, none⟩ = some (.int .i64 t191) := (blk_cell BK195.out 2).trans rfl; have hcz96_3 : w95.cell? ⟨gb195, 3, none⟩ = some (.int .i64 t192) := (blk_cell BK195.out 3).trans rfl; have hfz96_0 := blk_frozen BK195.out 0; have hfz96_1 := blk_frozen BK195.out 1; have hfz96_2 := blk_frozen BK195.out 2; have hfz96_3 := blk_frozen BK195.out 3; have hcz97_0 : w95.cell? ⟨gb188, 0, none⟩ = some (.int .i64 t182) := (blk_cell BK188.out 0).trans rfl; have hcz97_1 : w95.cell? ⟨gb188, 1, none⟩ = some (.int .i64 t183) := (blk_cell BK188.out 1).trans rfl; have hfz97_0 := blk_frozen BK188.out 0; have hfz97_1 := blk_frozen BK188.out 1) | ((with_reducible refine gate_callee (f := 19) rfl ?_); refine goesL_ (some 118) rfl rfl Try.func19 (by kernel_rfl) rfl #[.agg #[.int .i64 t189, .int .i64 t190, .int .i64 t191, .int .i64 t192], .agg #[.int .i64 t182, .int .i64 t183], .int .i64 t184, .int .i64 t185] rfl (by (try simp only [List.map_toArray, List.map_cons, List.map_nil]); first | done | rfl | (simp only [List.length_drop, List.length_take]; rfl)) ?_; (with_reducible refine (control_Demand.calls kj35 t189 t190 t191 t192 t182 t183 t184 t185 t207 t208 _ A79.out).mono ?_); rintro e w98 ⟨rfl, hb⟩; refine ⟨_, rfl, ?_⟩; have n0_ := Am (blk_below (g := gb187) (o := .cells #[.int .i64 t178, .int .i64 t179, .int .i64 t180, .int .i64 t181] 23 (0, 0)) (by (with_reducible repeat (first | apply kN | apply kD | apply kA)); exact BK187.out) hb); have n1_ := Am (blk_below (g := gb188) (o := .cells #[.int .i64 t182, .int .i64 t183] 27 (0, 0)) (by (with_reducible repeat (first | apply kN | apply kD | apply kA)); exact BK188.out) hb); have n2_ := Am (blk_below (g := gb195) (o := .cells #[.int .i64 t189, .int .i64 t190, .int .i64 t191, .int .i64 t192] 23 (0, 0)) (by (with_reducible repeat (first | apply kN | apply kD | apply kA)); exact BK195.out) hb); have n3_ := Am (blk_below (g := gb201) (o := .cells #[.int .i64 1, .int .i64 1] 27 (0, 0)) (by (with_reducible repeat (first | apply kN | apply kD | apply kA)); exact BK201.out) hb); have n4_ := Am (blk_below (g := gb202) (o := .cells #[.int .i64 64, .int .i64 1] 27 (0, 0)) (by (with_reducible repeat (first | apply kN | apply kD | apply kA)); exact BK202.out) hb); have n5_ := Am (below_step (by repeat (first | (with_reducible first | exact HB.out | apply bA | apply bN | apply bD | refine bS ?_ GE187.out | refine bS ?_ GE188.out | refine bS ?_ GE195.out | refine bS ?_ GE201.out | refine bS ?_ GE202.out) | exact HB.out)) hb); clear BK187 BK188 BK195 BK201 BK202 HB; have BK187 := n0_; have BK188 := n1_; have BK195 := n2_; have BK201 := n3_; have BK202 := n4_; have HB := n5_; clear n0_ n1_ n2_ n3_ n4_ n5_; (try clear hb); (try clear hb2); (try clear hk); (try clear hi); have hcz99_0 : w98.cell? ⟨gb195, 0, none⟩ = some (.int .i64 t189) := (blk_cell BK195.out 0).trans rfl; have hcz99_1 : w98.cell? ⟨gb195, 1, none⟩ = some (.int .i64 t190) := (blk_cell BK195.out 1).trans rfl; have hcz99_2 : w98.cell? ⟨gb195, 2, none⟩ = some (.int .i64 t191) := (blk_cell BK195.out 2).trans rfl; have hcz99_3 : w98.cell? ⟨gb195, 3, none⟩ = some (.int .i64 t192) := (blk_cell BK195.out 3).trans rfl; have hfz99_0 := blk_frozen BK195.out 0; have hfz99_1 := blk_frozen BK195.out 1; have hfz99_2 := blk_frozen BK195.out 2; have hfz99_3 := blk_frozen BK195.out 3) | (go_at_call 15; (with_reducible refine (control_Valid.calls t189 t190 t191 t192 t209 _ A85.out).mono ?_); rintro e w100 ⟨rfl, hb⟩; have n0_ := Am (blk_below (g := gb187) (o := .cells #[.int .i64 t178, .int .i64 t179, .int .i64 t180, .int .i64 t181] 23 (0, 0)) (by (with_reducible repeat (first | apply kN | apply kD | apply kA)); exact BK187.out) hb); have n1_ := Am (blk_below (g := gb188) (o := .cells #[.int .i64 t182, .int .i64 t183] 27 (0, 0)) (by (with_reducible repeat (first | apply kN | apply kD | apply kA)); exact BK188.out) hb); have n2_ := Am (blk_below (g := gb195) (o := .cells #[.int .i64 t189, .int .i64 t190, .int .i64 t191, .int .i64 t192] 23 (0, 0)) (by (with_reducible repeat (first | apply kN | apply kD | apply kA)); exact BK195.out) hb); have n3_ := Am (blk_below (g := gb201) (o := .cells #[.int .i64 1, .int .i64 1] 27 (0, 0)) (by (with_reducible repeat (first | apply kN | apply kD | apply kA)); exact BK201.out) hb); have n4_ := Am (blk_below (g := gb202) (o := .cells #[.int .i64 64, .int .i64 1] 27 (0, 0)) (by (with_reducible repeat (first | apply kN | apply kD | apply kA)); exact BK202.out) hb); have n5_ := Am (below_step (by repeat (first | (with_reducible first | exact HB.out | apply bA | apply bN | apply bD | refine bS ?_ GE187.out | refine bS ?_ GE188.out | refine bS ?_ GE195.out | refine bS ?_ GE201.out | refine bS ?_ GE202.out) | exact HB.out)) hb); clear BK187 BK188 BK195 BK201 BK202 HB; have BK187 := n0_; have BK188 := n1_; have BK195 := n2_; have BK201 := n3_; have BK202 := n4_; have HB := n5_; clear n0_ n1_ n2_ n3_ n4_ n5_; (try clear hb); (try clear hb2); (try clear hk); (try clear hi)))
             go_ret
             exact ⟨by first | rfl | (simp [errW_none, errW_some] <;> rfl) | (simp [*, errW_none, errW_some] <;> rfl), by repeat (first | (with_reducible first | exact HB.out | apply bA | apply bN | apply bD | refine bS ?_ GE187.out | refine bS ?_ GE188.out | refine bS ?_ GE195.out | refine bS ?_ GE201.out | refine bS ?_ GE202.out) | exact HB.out)⟩
            ·rw [if_neg c84] at H
             have c84b0 : decide (t193 ≤ 65536) = false := decide_eq_false c84
             clear c84
             obtain rfl := Option.some.inj H
             have hnb101 := NB195_187.out
             have hnc101 := NB187_195.out
             have hnb102 := NB195_188.out
             have hnc102 := NB188_195.out
             have hnb103 := NB195_201.out
             have hnc103 := NB201_195.out
             have hnb104 := NB195_202.out
             have hnc104 := NB202_195.out
             have hcz105_0 : wc.cell? ⟨gb195, 0, none⟩ = some (.int .i64 t189) := (blk_cell BK195.out 0).trans rfl
             have hcz105_1 : wc.cell? ⟨gb195, 1, none⟩ = some (.int .i64 t190) := (blk_cell BK195.out 1).trans rfl
             have hcz105_2 : wc.cell? ⟨gb195, 2, none⟩ = some (.int .i64 t191) := (blk_cell BK195.out 2).trans rfl
             have hcz105_3 : wc.cell? ⟨gb195, 3, none⟩ = some (.int .i64 t192) := (blk_cell BK195.out 3).trans rfl
             have hfz105_0 := blk_frozen BK195.out 0
             have hfz105_1 := blk_frozen BK195.out 1
             have hfz105_2 := blk_frozen BK195.out 2
             have hfz105_3 := blk_frozen BK195.out 3
             have hnb106 := NB188_187.out
             have hnc106 := NB187_188.out
             have hnb107 := NB188_201.out
             have hnc107 := NB201_188.out
             have hnb108 := NB188_202.out
             have hnc108 := NB202_188.out
             have hcz109_0 : wc.cell? ⟨gb188, 0, none⟩ = some (.int .i64 t182) := (blk_cell BK188.out 0).trans rfl
             have hcz109_1 : wc.cell? ⟨gb188, 1, none⟩ = some (.int .i64 t183) := (blk_cell BK188.out 1).trans rfl
             have hfz109_0 := blk_frozen BK188.out 0
             have hfz109_1 := blk_frozen BK188.out 1
             go_wp2_with (first | ((with_reducible refine gate_callee (f := 17) rfl ?_); refine goesL_ (some 110) rfl rfl Try.func17 (by kernel_rfl) rfl #[.agg #[.int .i64 t189, .int .i64 t190, .int .i64 t191, .int .i64 t192], .agg #[.int .i64 t182, .int .i64 t183], .int .i64 t184, .int .i64 t185, .int .i64 0] rfl (by (try simp only [List.map_toArray, List.map_cons, List.map_nil]); first | done | rfl | (simp only [List.length_drop, List.length_take]; rfl)) ?_; (with_reducible refine (control_Bound.calls kj35 t189 t190 t191 t192 t182 t183 t184 t185 0 t205 t206 _ A78.out).mono ?_); rintro e w110 ⟨rfl, hb⟩; refine ⟨_, rfl, ?_⟩; have n0_ := Am (blk_below (g := gb187) (o := .cells #[.int .i64 t178, .int .i64 t179, .int .i64 t180, .int .i64 t181] 23 (0, 0)) (by (with_reducible repeat (first | apply kN | apply kD | apply kA)); exact BK187.out) hb); have n1_ := Am (blk_below (g := gb188) (o := .cells #[.int .i64 t182, .int .i64 t183] 27 (0, 0)) (by (with_reducible repeat (first | apply kN | apply kD | apply kA)); exact BK188.out) hb); have n2_ := Am (blk_below (g := gb195) (o := .cells #[.int .i64 t189, .int .i64 t190, .int .i64 t191, .int .i64 t192] 23 (0, 0)) (by (with_reducible repeat (first | apply kN | apply kD | apply kA)); exact BK195.out) hb); have n3_ := Am (blk_below (g := gb201) (o := .cells #[.int .i64 1, .int .i64 1] 27 (0, 0)) (by (with_reducible repeat (first | apply kN | apply kD | apply kA)); exact BK201.out) hb); have n4_ := Am (blk_below (g := gb202) (o := .cells #[.int .i64 64, .int .i64 1] 27 (0, 0)) (by (with_reducible repeat (first | apply kN | apply kD | apply kA)); exact BK202.out) hb); have n5_ := Am (below_step (by repeat (first | (with_reducible first | exact HB.out | apply bA | apply bN | apply bD | refine bS ?_ GE187.out | refine bS ?_ GE188.out | refine bS ?_ GE195.out | refine bS ?_ GE201.out | refine bS ?_ GE202.out) | exact HB.out)) hb); clear BK187 BK188 BK195 BK201 BK202 HB; have BK187 := n0_; have BK188 := n1_; have BK195 := n2_; have BK201 := n3_; have BK202 := n4_; have HB := n5_; clear n0_ n1_ n2_ n3_ n4_ n5_; (try clear hb); (try clear hb2); (try clear hk); (try clear hi); have hcz111_0 : w110.cell? ⟨gb195, 0, none⟩ = some (.int .i64 t189) := (blk_cell BK195.out 0).trans rfl; have hcz111_1 : w110.cell? ⟨gb195, 1, none⟩ = some (.int .i64 t190) := (blk_cell BK195.out 1).trans rfl; have hcz111_2 : w110.cell? ⟨gb195, 2, none⟩ = some (.int .i64 t191) := (blk_cell BK195.out 2).trans rfl; have hcz111_3 : w110.cell? ⟨gb195, 3, none⟩ = some (.int .i64 t192) := (blk_cell BK195.out 3).trans rfl; have hfz111_0 := blk_frozen BK195.out 0; have hfz111_1 := blk_frozen BK195.out 1; have hfz111_2 := blk_frozen BK195.out 2; have hfz111_3 := blk_frozen BK195.out 3; have hcz112_0 : w110.cell? ⟨gb188, 0, none⟩ = some (.int .i64 t182) := (blk_cell BK188.out 0).trans rfl; have hcz112_1 : w110.cell? ⟨gb188, 1, none⟩ = some (.int .i64 t183) := (blk_cell BK188.out 1).trans rfl; have hfz112_0 := blk_frozen BK188.out 0; have hfz112_1 := blk_frozen BK188.out 1) | ((with_reducible refine gate_callee (f := 19) rfl ?_); refine goesL_ (some 118) rfl rfl Try.func19 (by kernel_rfl) rfl #[.agg #[.int .i64 t189, .int .i64 t190, .int .i64 t191, .int .i64 t192], .agg #[.int .i64 t182, .int .i64 t183], .int .i64 t184, .int .i64 t185] rfl (by (try simp only [List.map_toArray, List.map_cons, List.map_nil]); first | done | rfl | (simp only [List.length_drop, List.length_take]; rfl)) ?_; (with_reducible refine (control_Demand.calls kj35 t189 t190 t191 t192 t182 t183 t184 t185 t207 t208 _ A79.out).mono ?_); rintro e w113 ⟨rfl, hb⟩; refine ⟨_, rfl, ?_⟩; have n0_ := Am (blk_below (g := gb187) (o := .cells #[.int .i64 t178, .int .i64 t179, .int .i64 t180, .int .i64 t181] 23 (0, 0)) (by (with_reducible repeat (first | apply kN | apply kD | apply kA)); exact BK187.out) hb); have n1_ := Am (blk_below (g := gb188) (o := .cells #[.int .i64 t182, .int .i64 t183] 27 (0, 0)) (by (with_reducible repeat (first | apply kN | apply kD | apply kA)); exact BK188.out) hb); have n2_ := Am (blk_below (g := gb195) (o := .cells #[.int .i64 t189, .int .i64 t190, .int .i64 t191, .int .i64 t192] 23 (0, 0)) (by (with_reducible repeat (first | apply kN | apply kD | apply kA)); exact BK195.out) hb); have n3_ := Am (blk_below (g := gb201) (o := .cells #[.int .i64 1, .int .i64 1] 27 (0, 0)) (by (with_reducible repeat (first | apply kN | apply kD | apply kA)); exact BK201.out) hb); have n4_ := Am (blk_below (g := gb202) (o := .cells #[.int .i64 64, .int .i64 1] 27 (0, 0)) (by (with_reducible repeat (first | apply kN | apply kD | apply kA)); exact BK202.out) hb); have n5_ := Am (below_step (by repeat (first | (with_reducible first | exact HB.out | apply bA | apply bN | apply bD | refine bS ?_ GE187.out | refine bS ?_ GE188.out | refine bS ?_ GE195.out | refine bS ?_ GE201.out | refine bS ?_ GE202.out) | exact HB.out)) hb); clear BK187 BK188 BK195 BK201 BK202 HB; have BK187 := n0_; have BK188 := n1_; have BK195 := n2_; have BK201 := n3_; have BK202 := n4_; have HB := n5_; clear n0_ n1_ n2_ n3_ n4_ n5_; (try clear hb); (try clear hb2); (try clear hk); (try clear hi); have hcz114_0 : w113.cell? ⟨gb195, 0, none⟩ = some (.int .i64 t189) := (blk_cell BK195.out 0).trans rfl; have hcz114_1 : w113.cell? ⟨gb195, 1, none⟩ = some (.int .i64 t190) := (blk_cell BK195.out 1).trans rfl; have hcz114_2 : w113.cell? ⟨gb195, 2, none⟩ = some (.int .i64 t191) := (blk_cell BK195.out 2).trans rfl; have hcz114_3 : w113.cell? ⟨gb195, 3, none⟩ = some (.int .i64 t192) := (blk_cell BK195.out 3).trans rfl; have hfz114_0 := blk_frozen BK195.out 0; have hfz114_1 := blk_frozen BK195.out 1; have hfz114_2 := blk_frozen BK195.out 2; have hfz114_3 := blk_frozen BK195.out 3))
             go_ret
             exact ⟨by first | rfl | (simp [errW_none, errW_some] <;> rfl) | (simp [*, errW_none, errW_some] <;> rfl), by repeat (first | (with_reducible first | exact HB.out | apply bA | apply bN | apply bD | refine bS ?_ GE187.out | refine bS ?_ GE188.out | refine bS ?_ GE195.out | refine bS ?_ GE201.out | refine bS ?_ GE202.out) | exact HB.out)⟩
           ·rw [if_neg c83] at H
            have c83b0 : decide ((wrap64 (t189 + t205)) ≤ t193) = false := decide_eq_false c83
            clear c83
            obtain rfl := Option.some.inj H
            have hnb115 := NB195_187.out
            have hnc115 := NB187_195.out
            have hnb116 := NB195_188.out
            have hnc116 := NB188_195.out
            have hnb117 := NB195_201.out
            have hnc117 := NB201_195.out
            have hnb118 := NB195_202.out
            have hnc118 := NB202_195.out
            have hcz119_0 : wc.cell? ⟨gb195, 0, none⟩ = some (.int .i64 t189) := (blk_cell BK195.out 0).trans rfl
            have hcz119_1 : wc.cell? ⟨gb195, 1, none⟩ = some (.int .i64 t190) := (blk_cell BK195.out 1).trans rfl
            have hcz119_2 : wc.cell? ⟨gb195, 2, none⟩ = some (.int .i64 t191) := (blk_cell BK195.out 2).trans rfl
            have hcz119_3 : wc.cell? ⟨gb195, 3, none⟩ = some (.int .i64 t192) := (blk_cell BK195.out 3).trans rfl
            have hfz119_0 := blk_frozen BK195.out 0
            have hfz119_1 := blk_frozen BK195.out 1
            have hfz119_2 := blk_frozen BK195.out 2
            have hfz119_3 := blk_frozen BK195.out 3
            have hnb120 := NB188_187.out
            have hnc120 := NB187_188.out
            have hnb121 := NB188_201.out
            have hnc121 := NB201_188.out
            have hnb122 := NB188_202.out
            have hnc122 := NB202_188.out
            have hcz123_0 : wc.cell? ⟨gb188, 0, none⟩ = some (.int .i64 t182) := (blk_cell BK188.out 0).trans rfl
            have hcz123_1 : wc.cell? ⟨gb188, 1, none⟩ = some (.int .i64 t183) := (blk_cell BK188.out 1).trans rfl
            have hfz123_0 := blk_frozen BK188.out 0
            have hfz123_1 := blk_frozen BK188.out 1
            go_wp2_with (first | ((with_reducible refine gate_callee (f := 17) rfl ?_); refine goesL_ (some 110) rfl rfl Try.func17 (by kernel_rfl) rfl #[.agg #[.int .i64 t189, .int .i64 t190, .int .i64 t191, .int .i64 t192], .agg #[.int .i64 t182, .int .i64 t183], .int .i64 t184, .int .i64 t185, .int .i64 0] rfl (by (try simp only [List.map_toArray, List.map_cons, List.map_nil]); first | done | rfl | (simp only [List.length_drop, List.length_take]; rfl)) ?_; (with_reducible refine (control_Bound.calls kj35 t189 t190 t191 t192 t182 t183 t184 t185 0 t205 t206 _ A78.out).mono ?_); rintro e w124 ⟨rfl, hb⟩; refine ⟨_, rfl, ?_⟩; have n0_ := Am (blk_below (g := gb187) (o := .cells #[.int .i64 t178, .int .i64 t179, .int .i64 t180, .int .i64 t181] 23 (0, 0)) (by (with_reducible repeat (first | apply kN | apply kD | apply kA)); exact BK187.out) hb); have n1_ := Am (blk_below (g := gb188) (o := .cells #[.int .i64 t182, .int .i64 t183] 27 (0, 0)) (by (with_reducible repeat (first | apply kN | apply kD | apply kA)); exact BK188.out) hb); have n2_ := Am (blk_below (g := gb195) (o := .cells #[.int .i64 t189, .int .i64 t190, .int .i64 t191, .int .i64 t192] 23 (0, 0)) (by (with_reducible repeat (first | apply kN | apply kD | apply kA)); exact BK195.out) hb); have n3_ := Am (blk_below (g := gb201) (o := .cells #[.int .i64 1, .int .i64 1] 27 (0, 0)) (by (with_reducible repeat (first | apply kN | apply kD | apply kA)); exact BK201.out) hb); have n4_ := Am (blk_below (g := gb202) (o := .cells #[.int .i64 64, .int .i64 1] 27 (0, 0)) (by (with_reducible repeat (first | apply kN | apply kD | apply kA)); exact BK202.out) hb); have n5_ := Am (below_step (by repeat (first | (with_reducible first | exact HB.out | apply bA | apply bN | apply bD | refine bS ?_ GE187.out | refine bS ?_ GE188.out | refine bS ?_ GE195.out | refine bS ?_ GE201.out | refine bS ?_ GE202.out) | exact HB.out)) hb); clear BK187 BK188 BK195 BK201 BK202 HB; have BK187 := n0_; have BK188 := n1_; have BK195 := n2_; have BK201 := n3_; have BK202 := n4_; have HB := n5_; clear n0_ n1_ n2_ n3_ n4_ n5_; (try clear hb); (try clear hb2); (try clear hk); (try clear hi); have hcz125_0 : w124.cell? ⟨gb195, 0, none⟩ = some (.int .i64 t189) := (blk_cell BK195.out 0).trans rfl; have hcz125_1 : w124.cell? ⟨gb195, 1, none⟩ = some (.int .i64 t190) := (blk_cell BK195.out 1).trans rfl; have hcz125_2 : w124.cell? ⟨gb195, 2, none⟩ = some (.int .i64 t191) := (blk_cell BK195.out 2).trans rfl; have hcz125_3 : w124.cell? ⟨gb195, 3, none⟩ = some (.int .i64 t192) := (blk_cell BK195.out 3).trans rfl; have hfz125_0 := blk_frozen BK195.out 0; have hfz125_1 := blk_frozen BK195.out 1; have hfz125_2 := blk_frozen BK195.out 2; have hfz125_3 := blk_frozen BK195.out 3; have hcz126_0 : w124.cell? ⟨gb188, 0, none⟩ = some (.int .i64 t182) := (blk_cell BK188.out 0).trans rfl; have hcz126_1 : w124.cell? ⟨gb188, 1, none⟩ = some (.int .i64 t183) := (blk_cell BK188.out 1).trans rfl; have hfz126_0 := blk_frozen BK188.out 0; have hfz126_1 := blk_frozen BK188.out 1) | ((with_reducible refine gate_callee (f := 19) rfl ?_); refine goesL_ (some 118) rfl rfl Try.func19 (by kernel_rfl) rfl #[.agg #[.int .i64 t189, .int .i64 t190, .int .i64 t191, .int .i64 t192], .agg #[.int .i64 t182, .int .i64 t183], .int .i64 t184, .int .i64 t185] rfl (by (try simp only [List.map_toArray, List.map_cons, List.map_nil]); first | done | rfl | (simp only [List.length_drop, List.length_take]; rfl)) ?_; (with_reducible refine (control_Demand.calls kj35 t189 t190 t191 t192 t182 t183 t184 t185 t207 t208 _ A79.out).mono ?_); rintro e w127 ⟨rfl, hb⟩; refine ⟨_, rfl, ?_⟩; have n0_ := Am (blk_below (g := gb187) (o := .cells #[.int .i64 t178, .int .i64 t179, .int .i64 t180, .int .i64 t181] 23 (0, 0)) (by (with_reducible repeat (first | apply kN | apply kD | apply kA)); exact BK187.out) hb); have n1_ := Am (blk_below (g := gb188) (o := .cells #[.int .i64 t182, .int .i64 t183] 27 (0, 0)) (by (with_reducible repeat (first | apply kN | apply kD | apply kA)); exact BK188.out) hb); have n2_ := Am (blk_below (g := gb195) (o := .cells #[.int .i64 t189, .int .i64 t190, .int .i64 t191, .int .i64 t192] 23 (0, 0)) (by (with_reducible repeat (first | apply kN | apply kD | apply kA)); exact BK195.out) hb); have n3_ := Am (blk_below (g := gb201) (o := .cells #[.int .i64 1, .int .i64 1] 27 (0, 0)) (by (with_reducible repeat (first | apply kN | apply kD | apply kA)); exact BK201.out) hb); have n4_ := Am (blk_below (g := gb202) (o := .cells #[.int .i64 64, .int .i64 1] 27 (0, 0)) (by (with_reducible repeat (first | apply kN | apply kD | apply kA)); exact BK202.out) hb); have n5_ := Am (below_step (by repeat (first | (with_reducible first | exact HB.out | apply bA | apply bN | apply bD | refine bS ?_ GE187.out | refine bS ?_ GE188.out | refine bS ?_ GE195.out | refine bS ?_ GE201.out | refine bS ?_ GE202.out) | exact HB.out)) hb); clear BK187 BK188 BK195 BK201 BK202 HB; have BK187 := n0_; have BK188 := n1_; have BK195 := n2_; have BK201 := n3_; have BK202 := n4_; have HB := n5_; clear n0_ n1_ n2_ n3_ n4_ n5_; (try clear hb); (try clear hb2); (try clear hk); (try clear hi); have hcz128_0 : w127.cell? ⟨gb195, 0, none⟩ = some (.int .i64 t189) := (blk_cell BK195.out 0).trans rfl; have hcz128_1 : w127.cell? ⟨gb195, 1, none⟩ = some (.int .i64 t190) := (blk_cell BK195.out 1).trans rfl; have hcz128_2 : w127.cell? ⟨gb195, 2, none⟩ = some (.int .i64 t191) := (blk_cell BK195.out 2).trans rfl; have hcz128_3 : w127.cell? ⟨gb195, 3, none⟩ = some (.int .i64 t192) := (blk_cell BK195.out 3).trans rfl; have hfz128_0 := blk_frozen BK195.out 0; have hfz128_1 := blk_frozen BK195.out 1; have hfz128_2 := blk_frozen BK195.out 2; have hfz128_3 := blk_frozen BK195.out 3))
            go_ret
            exact ⟨by first | rfl | (simp [errW_none, errW_some] <;> rfl) | (simp [*, errW_none, errW_some] <;> rfl), by repeat (first | (with_reducible first | exact HB.out | apply bA | apply bN | apply bD | refine bS ?_ GE187.out | refine bS ?_ GE188.out | refine bS ?_ GE195.out | refine bS ?_ GE201.out | refine bS ?_ GE202.out) | exact HB.out)⟩
          ·rw [if_neg c82] at H
           have c82b0 : decide (t207 ≤ (wrap64 (t189 - t205))) = false := decide_eq_false c82
           clear c82
           obtain rfl := Option.some.inj H
           have hnb129 := NB195_187.out
           have hnc129 := NB187_195.out
           have hnb130 := NB195_188.out
           have hnc130 := NB188_195.out
           have hnb131 := NB195_201.out
           have hnc131 := NB201_195.out
           have hnb132 := NB195_202.out
           have hnc132 := NB202_195.out
           have hcz133_0 : wc.cell? ⟨gb195, 0, none⟩ = some (.int .i64 t189) := (blk_cell BK195.out 0).trans rfl
           have hcz133_1 : wc.cell? ⟨gb195, 1, none⟩ = some (.int .i64 t190) := (blk_cell BK195.out 1).trans rfl
           have hcz133_2 : wc.cell? ⟨gb195, 2, none⟩ = some (.int .i64 t191) := (blk_cell BK195.out 2).trans rfl
           have hcz133_3 : wc.cell? ⟨gb195, 3, none⟩ = some (.int .i64 t192) := (blk_cell BK195.out 3).trans rfl
           have hfz133_0 := blk_frozen BK195.out 0
           have hfz133_1 := blk_frozen BK195.out 1
           have hfz133_2 := blk_frozen BK195.out 2
           have hfz133_3 := blk_frozen BK195.out 3
           have hnb134 := NB188_187.out
           have hnc134 := NB187_188.out
           have hnb135 := NB188_201.out
           have hnc135 := NB201_188.out
           have hnb136 := NB188_202.out
           have hnc136 := NB202_188.out
           have hcz137_0 : wc.cell? ⟨gb188, 0, none⟩ = some (.int .i64 t182) := (blk_cell BK188.out 0).trans rfl
           have hcz137_1 : wc.cell? ⟨gb188, 1, none⟩ = some (.int .i64 t183) := (blk_cell BK188.out 1).trans rfl
           have hfz137_0 := blk_frozen BK188.out 0
           have hfz137_1 := blk_frozen BK188.out 1
           go_wp2_with (first | ((with_reducible refine gate_callee (f := 17) rfl ?_); refine goesL_ (some 110) rfl rfl Try.func17 (by kernel_rfl) rfl #[.agg #[.int .i64 t189, .int .i64 t190, .int .i64 t191, .int .i64 t192], .agg #[.int .i64 t182, .int .i64 t183], .int .i64 t184, .int .i64 t185, .int .i64 0] rfl (by (try simp only [List.map_toArray, List.map_cons, List.map_nil]); first | done | rfl | (simp only [List.length_drop, List.length_take]; rfl)) ?_; (with_reducible refine (control_Bound.calls kj35 t189 t190 t191 t192 t182 t183 t184 t185 0 t205 t206 _ A78.out).mono ?_); rintro e w138 ⟨rfl, hb⟩; refine ⟨_, rfl, ?_⟩; have n0_ := Am (blk_below (g := gb187) (o := .cells #[.int .i64 t178, .int .i64 t179, .int .i64 t180, .int .i64 t181] 23 (0, 0)) (by (with_reducible repeat (first | apply kN | apply kD | apply kA)); exact BK187.out) hb); have n1_ := Am (blk_below (g := gb188) (o := .cells #[.int .i64 t182, .int .i64 t183] 27 (0, 0)) (by (with_reducible repeat (first | apply kN | apply kD | apply kA)); exact BK188.out) hb); have n2_ := Am (blk_below (g := gb195) (o := .cells #[.int .i64 t189, .int .i64 t190, .int .i64 t191, .int .i64 t192] 23 (0, 0)) (by (with_reducible repeat (first | apply kN | apply kD | apply kA)); exact BK195.out) hb); have n3_ := Am (blk_below (g := gb201) (o := .cells #[.int .i64 1, .int .i64 1] 27 (0, 0)) (by (with_reducible repeat (first | apply kN | apply kD | apply kA)); exact BK201.out) hb); have n4_ := Am (blk_below (g := gb202) (o := .cells #[.int .i64 64, .int .i64 1] 27 (0, 0)) (by (with_reducible repeat (first | apply kN | apply kD | apply kA)); exact BK202.out) hb); have n5_ := Am (below_step (by repeat (first | (with_reducible first | exact HB.out | apply bA | apply bN | apply bD | refine bS ?_ GE187.out | refine bS ?_ GE188.out | refine bS ?_ GE195.out | refine bS ?_ GE201.out | refine bS ?_ GE202.out) | exact HB.out)) hb); clear BK187 BK188 BK195 BK201 BK202 HB; have BK187 := n0_; have BK188 := n1_; have BK195 := n2_; have BK201 := n3_; have BK202 := n4_; have HB := n5_; clear n0_ n1_ n2_ n3_ n4_ n5_; (try clear hb); (try clear hb2); (try clear hk); (try clear hi); have hcz139_0 : w138.cell? ⟨gb195, 0, none⟩ = some (.int .i64 t189) := (blk_cell BK195.out 0).trans rfl; have hcz139_1 : w138.cell? ⟨gb195, 1, none⟩ = some (.int .i64 t190) := (blk_cell BK195.out 1).trans rfl; have hcz139_2 : w138.cell? ⟨gb195, 2, none⟩ = some (.int .i64 t191) := (blk_cell BK195.out 2).trans rfl; have hcz139_3 : w138.cell? ⟨gb195, 3, none⟩ = some (.int .i64 t192) := (blk_cell BK195.out 3).trans rfl; have hfz139_0 := blk_frozen BK195.out 0; have hfz139_1 := blk_frozen BK195.out 1; have hfz139_2 := blk_frozen BK195.out 2; have hfz139_3 := blk_frozen BK195.out 3; have hcz140_0 : w138.cell? ⟨gb188, 0, none⟩ = some (.int .i64 t182) := (blk_cell BK188.out 0).trans rfl; have hcz140_1 : w138.cell? ⟨gb188, 1, none⟩ = some (.int .i64 t183) := (blk_cell BK188.out 1).trans rfl; have hfz140_0 := blk_frozen BK188.out 0; have hfz140_1 := blk_frozen BK188.out 1) | ((with_reducible refine gate_callee (f := 19) rfl ?_); refine goesL_ (some 118) rfl rfl Try.func19 (by kernel_rfl) rfl #[.agg #[.int .i64 t189, .int .i64 t190, .int .i64 t191, .int .i64 t192], .agg #[.int .i64 t182, .int .i64 t183], .int .i64 t184, .int .i64 t185] rfl (by (try simp only [List.map_toArray, List.map_cons, List.map_nil]); first | done | rfl | (simp only [List.length_drop, List.length_take]; rfl)) ?_; (with_reducible refine (control_Demand.calls kj35 t189 t190 t191 t192 t182 t183 t184 t185 t207 t208 _ A79.out).mono ?_); rintro e w141 ⟨rfl, hb⟩; refine ⟨_, rfl, ?_⟩; have n0_ := Am (blk_below (g := gb187) (o := .cells #[.int .i64 t178, .int .i64 t179, .int .i64 t180, .int .i64 t181] 23 (0, 0)) (by (with_reducible repeat (first | apply kN | apply kD | apply kA)); exact BK187.out) hb); have n1_ := Am (blk_below (g := gb188) (o := .cells #[.int .i64 t182, .int .i64 t183] 27 (0, 0)) (by (with_reducible repeat (first | apply kN | apply kD | apply kA)); exact BK188.out) hb); have n2_ := Am (blk_below (g := gb195) (o := .cells #[.int .i64 t189, .int .i64 t190, .int .i64 t191, .int .i64 t192] 23 (0, 0)) (by (with_reducible repeat (first | apply kN | apply kD | apply kA)); exact BK195.out) hb); have n3_ := Am (blk_below (g := gb201) (o := .cells #[.int .i64 1, .int .i64 1] 27 (0, 0)) (by (with_reducible repeat (first | apply kN | apply kD | apply kA)); exact BK201.out) hb); have n4_ := Am (blk_below (g := gb202) (o := .cells #[.int .i64 64, .int .i64 1] 27 (0, 0)) (by (with_reducible repeat (first | apply kN | apply kD | apply kA)); exact BK202.out) hb); have n5_ := Am (below_step (by repeat (first | (with_reducible first | exact HB.out | apply bA | apply bN | apply bD | refine bS ?_ GE187.out | refine bS ?_ GE188.out | refine bS ?_ GE195.out | refine bS ?_ GE201.out | refine bS ?_ GE202.out) | exact HB.out)) hb); clear BK187 BK188 BK195 BK201 BK202 HB; have BK187 := n0_; have BK188 := n1_; have BK195 := n2_; have BK201 := n3_; have BK202 := n4_; have HB := n5_; clear n0_ n1_ n2_ n3_ n4_ n5_; (try clear hb); (try clear hb2); (try clear hk); (try clear hi); have hcz142_0 : w141.cell? ⟨gb195, 0, none⟩ = some (.int .i64 t189) := (blk_cell BK195.out 0).trans rfl; have hcz142_1 : w141.cell? ⟨gb195, 1, none⟩ = some (.int .i64 t190) := (blk_cell BK195.out 1).trans rfl; have hcz142_2 : w141.cell? ⟨gb195, 2, none⟩ = some (.int .i64 t191) := (blk_cell BK195.out 2).trans rfl; have hcz142_3 : w141.cell? ⟨gb195, 3, none⟩ = some (.int .i64 t192) := (blk_cell BK195.out 3).trans rfl; have hfz142_0 := blk_frozen BK195.out 0; have hfz142_1 := blk_frozen BK195.out 1; have hfz142_2 := blk_frozen BK195.out 2; have hfz142_3 := blk_frozen BK195.out 3))
           go_ret
           exact ⟨by first | rfl | (simp [errW_none, errW_some] <;> rfl) | (simp [*, errW_none, errW_some] <;> rfl), by repeat (first | (with_reducible first | exact HB.out | apply bA | apply bN | apply bD | refine bS ?_ GE187.out | refine bS ?_ GE188.out | refine bS ?_ GE195.out | refine bS ?_ GE201.out | refine bS ?_ GE202.out) | exact HB.out)⟩
         ·rw [if_neg c81] at H
          have c81b0 : (t208 == 0) = false := beq_eq_false_iff_ne.mpr c81
          have c81b1 : (t208 != 0) = true := bne_iff_ne.mpr c81
          obtain rfl := Option.some.inj H
          have hnb143 := NB195_187.out
          have hnc143 := NB187_195.out
          have hnb144 := NB195_188.out
          have hnc144 := NB188_195.out
          have hnb145 := NB195_201.out
          have hnc145 := NB201_195.out
          have hnb146 := NB195_202.out
          have hnc146 := NB202_195.out
          have hcz147_0 : wc.cell? ⟨gb195, 0, none⟩ = some (.int .i64 t189) := (blk_cell BK195.out 0).trans rfl
          have hcz147_1 : wc.cell? ⟨gb195, 1, none⟩ = some (.int .i64 t190) := (blk_cell BK195.out 1).trans rfl
          have hcz147_2 : wc.cell? ⟨gb195, 2, none⟩ = some (.int .i64 t191) := (blk_cell BK195.out 2).trans rfl
          have hcz147_3 : wc.cell? ⟨gb195, 3, none⟩ = some (.int .i64 t192) := (blk_cell BK195.out 3).trans rfl
          have hfz147_0 := blk_frozen BK195.out 0
          have hfz147_1 := blk_frozen BK195.out 1
          have hfz147_2 := blk_frozen BK195.out 2
          have hfz147_3 := blk_frozen BK195.out 3
          have hnb148 := NB188_187.out
          have hnc148 := NB187_188.out
          have hnb149 := NB188_201.out
          have hnc149 := NB201_188.out
          have hnb150 := NB188_202.out
          have hnc150 := NB202_188.out
          have hcz151_0 : wc.cell? ⟨gb188, 0, none⟩ = some (.int .i64 t182) := (blk_cell BK188.out 0).trans rfl
          have hcz151_1 : wc.cell? ⟨gb188, 1, none⟩ = some (.int .i64 t183) := (blk_cell BK188.out 1).trans rfl
          have hfz151_0 := blk_frozen BK188.out 0
          have hfz151_1 := blk_frozen BK188.out 1
          go_wp2_with (first | ((with_reducible refine gate_callee (f := 17) rfl ?_); refine goesL_ (some 110) rfl rfl Try.func17 (by kernel_rfl) rfl #[.agg #[.int .i64 t189, .int .i64 t190, .int .i64 t191, .int .i64 t192], .agg #[.int .i64 t182, .int .i64 t183], .int .i64 t184, .int .i64 t185, .int .i64 0] rfl (by (try simp only [List.map_toArray, List.map_cons, List.map_nil]); first | done | rfl | (simp only [List.length_drop, List.length_take]; rfl)) ?_; (with_reducible refine (control_Bound.calls kj35 t189 t190 t191 t192 t182 t183 t184 t185 0 t205 t206 _ A78.out).mono ?_); rintro e w152 ⟨rfl, hb⟩; refine ⟨_, rfl, ?_⟩; have n0_ := Am (blk_below (g := gb187) (o := .cells #[.int .i64 t178, .int .i64 t179, .int .i64 t180, .int .i64 t181] 23 (0, 0)) (by (with_reducible repeat (first | apply kN | apply kD | apply kA)); exact BK187.out) hb); have n1_ := Am (blk_below (g := gb188) (o := .cells #[.int .i64 t182, .int .i64 t183] 27 (0, 0)) (by (with_reducible repeat (first | apply kN | apply kD | apply kA)); exact BK188.out) hb); have n2_ := Am (blk_below (g := gb195) (o := .cells #[.int .i64 t189, .int .i64 t190, .int .i64 t191, .int .i64 t192] 23 (0, 0)) (by (with_reducible repeat (first | apply kN | apply kD | apply kA)); exact BK195.out) hb); have n3_ := Am (blk_below (g := gb201) (o := .cells #[.int .i64 1, .int .i64 1] 27 (0, 0)) (by (with_reducible repeat (first | apply kN | apply kD | apply kA)); exact BK201.out) hb); have n4_ := Am (blk_below (g := gb202) (o := .cells #[.int .i64 64, .int .i64 1] 27 (0, 0)) (by (with_reducible repeat (first | apply kN | apply kD | apply kA)); exact BK202.out) hb); have n5_ := Am (below_step (by repeat (first | (with_reducible first | exact HB.out | apply bA | apply bN | apply bD | refine bS ?_ GE187.out | refine bS ?_ GE188.out | refine bS ?_ GE195.out | refine bS ?_ GE201.out | refine bS ?_ GE202.out) | exact HB.out)) hb); clear BK187 BK188 BK195 BK201 BK202 HB; have BK187 := n0_; have BK188 := n1_; have BK195 := n2_; have BK201 := n3_; have BK202 := n4_; have HB := n5_; clear n0_ n1_ n2_ n3_ n4_ n5_; (try clear hb); (try clear hb2); (try clear hk); (try clear hi); have hcz153_0 : w152.cell? ⟨gb195, 0, none⟩ = some (.int .i64 t189) := (blk_cell BK195.out 0).trans rfl; have hcz153_1 : w152.cell? ⟨gb195, 1, none⟩ = some (.int .i64 t190) := (blk_cell BK195.out 1).trans rfl; have hcz153_2 : w152.cell? ⟨gb195, 2, none⟩ = some (.int .i64 t191) := (blk_cell BK195.out 2).trans rfl; have hcz153_3 : w152.cell? ⟨gb195, 3, none⟩ = some (.int .i64 t192) := (blk_cell BK195.out 3).trans rfl; have hfz153_0 := blk_frozen BK195.out 0; have hfz153_1 := blk_frozen BK195.out 1; have hfz153_2 := blk_frozen BK195.out 2; have hfz153_3 := blk_frozen BK195.out 3; have hcz154_0 : w152.cell? ⟨gb188, 0, none⟩ = some (.int .i64 t182) := (blk_cell BK188.out 0).trans rfl; have hcz154_1 : w152.cell? ⟨gb188, 1, none⟩ = some (.int .i64 t183) := (blk_cell BK188.out 1).trans rfl; have hfz154_0 := blk_frozen BK188.out 0; have hfz154_1 := blk_frozen BK188.out 1) | ((with_reducible refine gate_callee (f := 19) rfl ?_); refine goesL_ (some 118) rfl rfl Try.func19 (by kernel_rfl) rfl #[.agg #[.int .i64 t189, .int .i64 t190, .int .i64 t191, .int .i64 t192], .agg #[.int .i64 t182, .int .i64 t183], .int .i64 t184, .int .i64 t185] rfl (by (try simp only [List.map_toArray, List.map_cons, List.map_nil]); first | done | rfl | (simp only [List.length_drop, List.length_take]; rfl)) ?_; (with_reducible refine (control_Demand.calls kj35 t189 t190 t191 t192 t182 t183 t184 t185 t207 t208 _ A79.out).mono ?_); rintro e w155 ⟨rfl, hb⟩; refine ⟨_, rfl, ?_⟩; have n0_ := Am (blk_below (g := gb187) (o := .cells #[.int .i64 t178, .int .i64 t179, .int .i64 t180, .int .i64 t181] 23 (0, 0)) (by (with_reducible repeat (first | apply kN | apply kD | apply kA)); exact BK187.out) hb); have n1_ := Am (blk_below (g := gb188) (o := .cells #[.int .i64 t182, .int .i64 t183] 27 (0, 0)) (by (with_reducible repeat (first | apply kN | apply kD | apply kA)); exact BK188.out) hb); have n2_ := Am (blk_below (g := gb195) (o := .cells #[.int .i64 t189, .int .i64 t190, .int .i64 t191, .int .i64 t192] 23 (0, 0)) (by (with_reducible repeat (first | apply kN | apply kD | apply kA)); exact BK195.out) hb); have n3_ := Am (blk_below (g := gb201) (o := .cells #[.int .i64 1, .int .i64 1] 27 (0, 0)) (by (with_reducible repeat (first | apply kN | apply kD | apply kA)); exact BK201.out) hb); have n4_ := Am (blk_below (g := gb202) (o := .cells #[.int .i64 64, .int .i64 1] 27 (0, 0)) (by (with_reducible repeat (first | apply kN | apply kD | apply kA)); exact BK202.out) hb); have n5_ := Am (below_step (by repeat (first | (with_reducible first | exact HB.out | apply bA | apply bN | apply bD | refine bS ?_ GE187.out | refine bS ?_ GE188.out | refine bS ?_ GE195.out | refine bS ?_ GE201.out | refine bS ?_ GE202.out) | exact HB.out)) hb); clear BK187 BK188 BK195 BK201 BK202 HB; have BK187 := n0_; have BK188 := n1_; have BK195 := n2_; have BK201 := n3_; have BK202 := n4_; have HB := n5_; clear n0_ n1_ n2_ n3_ n4_ n5_; (try clear hb); (try clear hb2); (try clear hk); (try clear hi)))
          go_ret
          exact ⟨by first | rfl | (simp [errW_none, errW_some] <;> rfl) | (simp [*, errW_none, errW_some] <;> rfl), by repeat (first | (with_reducible first | exact HB.out | apply bA | apply bN | apply bD | refine bS ?_ GE187.out | refine bS ?_ GE188.out | refine bS ?_ GE195.out | refine bS ?_ GE201.out | refine bS ?_ GE202.out) | exact HB.out)⟩
        ·rw [if_neg c80] at H
         have c80b0 : (t206 == 0) = false := beq_eq_false_iff_ne.mpr c80
         have c80b1 : (t206 != 0) = true := bne_iff_ne.mpr c80
         obtain rfl := Option.some.inj H
         have hnb156 := NB195_187.out
         have hnc156 := NB187_195.out
         have hnb157 := NB195_188.out
         have hnc157 := NB188_195.out
         have hnb158 := NB195_201.out
         have hnc158 := NB201_195.out
         have hnb159 := NB195_202.out
         have hnc159 := NB202_195.out
         have hcz160_0 : wc.cell? ⟨gb195, 0, none⟩ = some (.int .i64 t189) := (blk_cell BK195.out 0).trans rfl
         have hcz160_1 : wc.cell? ⟨gb195, 1, none⟩ = some (.int .i64 t190) := (blk_cell BK195.out 1).trans rfl
         have hcz160_2 : wc.cell? ⟨gb195, 2, none⟩ = some (.int .i64 t191) := (blk_cell BK195.out 2).trans rfl
         have hcz160_3 : wc.cell? ⟨gb195, 3, none⟩ = some (.int .i64 t192) := (blk_cell BK195.out 3).trans rfl
         have hfz160_0 := blk_frozen BK195.out 0
         have hfz160_1 := blk_frozen BK195.out 1
         have hfz160_2 := blk_frozen BK195.out 2
         have hfz160_3 := blk_frozen BK195.out 3
         have hnb161 := NB188_187.out
         have hnc161 := NB187_188.out
         have hnb162 := NB188_201.out
         have hnc162 := NB201_188.out
         have hnb163 := NB188_202.out
         have hnc163 := NB202_188.out
         have hcz164_0 : wc.cell? ⟨gb188, 0, none⟩ = some (.int .i64 t182) := (blk_cell BK188.out 0).trans rfl
         have hcz164_1 : wc.cell? ⟨gb188, 1, none⟩ = some (.int .i64 t183) := (blk_cell BK188.out 1).trans rfl
         have hfz164_0 := blk_frozen BK188.out 0
         have hfz164_1 := blk_frozen BK188.out 1
         go_wp2_with (first | ((with_reducible refine gate_callee (f := 17) rfl ?_); refine goesL_ (some 110) rfl rfl Try.func17 (by kernel_rfl) rfl #[.agg #[.int .i64 t189, .int .i64 t190, .int .i64 t191, .int .i64 t192], .agg #[.int .i64 t182, .int .i64 t183], .int .i64 t184, .int .i64 t185, .int .i64 0] rfl (by (try simp only [List.map_toArray, List.map_cons, List.map_nil]); first | done | rfl | (simp only [List.length_drop, List.length_take]; rfl)) ?_; (with_reducible refine (control_Bound.calls kj35 t189 t190 t191 t192 t182 t183 t184 t185 0 t205 t206 _ A78.out).mono ?_); rintro e w165 ⟨rfl, hb⟩; refine ⟨_, rfl, ?_⟩; have n0_ := Am (blk_below (g := gb187) (o := .cells #[.int .i64 t178, .int .i64 t179, .int .i64 t180, .int .i64 t181] 23 (0, 0)) (by (with_reducible repeat (first | apply kN | apply kD | apply kA)); exact BK187.out) hb); have n1_ := Am (blk_below (g := gb188) (o := .cells #[.int .i64 t182, .int .i64 t183] 27 (0, 0)) (by (with_reducible repeat (first | apply kN | apply kD | apply kA)); exact BK188.out) hb); have n2_ := Am (blk_below (g := gb195) (o := .cells #[.int .i64 t189, .int .i64 t190, .int .i64 t191, .int .i64 t192] 23 (0, 0)) (by (with_reducible repeat (first | apply kN | apply kD | apply kA)); exact BK195.out) hb); have n3_ := Am (blk_below (g := gb201) (o := .cells #[.int .i64 1, .int .i64 1] 27 (0, 0)) (by (with_reducible repeat (first | apply kN | apply kD | apply kA)); exact BK201.out) hb); have n4_ := Am (blk_below (g := gb202) (o := .cells #[.int .i64 64, .int .i64 1] 27 (0, 0)) (by (with_reducible repeat (first | apply kN | apply kD | apply kA)); exact BK202.out) hb); have n5_ := Am (below_step (by repeat (first | (with_reducible first | exact HB.out | apply bA | apply bN | apply bD | refine bS ?_ GE187.out | refine bS ?_ GE188.out | refine bS ?_ GE195.out | refine bS ?_ GE201.out | refine bS ?_ GE202.out) | exact HB.out)) hb); clear BK187 BK188 BK195 BK201 BK202 HB; have BK187 := n0_; have BK188 := n1_; have BK195 := n2_; have BK201 := n3_; have BK202 := n4_; have HB := n5_; clear n0_ n1_ n2_ n3_ n4_ n5_; (try clear hb); (try clear hb2); (try clear hk); (try clear hi); have hcz166_0 : w165.cell? ⟨gb195, 0, none⟩ = some (.int .i64 t189) := (blk_cell BK195.out 0).trans rfl; have hcz166_1 : w165.cell? ⟨gb195, 1, none⟩ = some (.int .i64 t190) := (blk_cell BK195.out 1).trans rfl; have hcz166_2 : w165.cell? ⟨gb195, 2, none⟩ = some (.int .i64 t191) := (blk_cell BK195.out 2).trans rfl; have hcz166_3 : w165.cell? ⟨gb195, 3, none⟩ = some (.int .i64 t192) := (blk_cell BK195.out 3).trans rfl; have hfz166_0 := blk_frozen BK195.out 0; have hfz166_1 := blk_frozen BK195.out 1; have hfz166_2 := blk_frozen BK195.out 2; have hfz166_3 := blk_frozen BK195.out 3; have hcz167_0 : w165.cell? ⟨gb188, 0, none⟩ = some (.int .i64 t182) := (blk_cell BK188.out 0).trans rfl; have hcz167_1 : w165.cell? ⟨gb188, 1, none⟩ = some (.int .i64 t183) := (blk_cell BK188.out 1).trans rfl; have hfz167_0 := blk_frozen BK188.out 0; have hfz167_1 := blk_frozen BK188.out 1) | ((with_reducible refine gate_callee (f := 19) rfl ?_); refine goesL_ (some 118) rfl rfl Try.func19 (by kernel_rfl) rfl #[.agg #[.int .i64 t189, .int .i64 t190, .int .i64 t191, .int .i64 t192], .agg #[.int .i64 t182, .int .i64 t183], .int .i64 t184, .int .i64 t185] rfl (by (try simp only [List.map_toArray, List.map_cons, List.map_nil]); first | done | rfl | (simp only [List.length_drop, List.length_take]; rfl)) ?_; (with_reducible refine (control_Demand.calls kj35 t189 t190 t191 t192 t182 t183 t184 t185 t207 t208 _ A79.out).mono ?_); rintro e w168 ⟨rfl, hb⟩; refine ⟨_, rfl, ?_⟩; have n0_ := Am (blk_below (g := gb187) (o := .cells #[.int .i64 t178, .int .i64 t179, .int .i64 t180, .int .i64 t181] 23 (0, 0)) (by (with_reducible repeat (first | apply kN | apply kD | apply kA)); exact BK187.out) hb); have n1_ := Am (blk_below (g := gb188) (o := .cells #[.int .i64 t182, .int .i64 t183] 27 (0, 0)) (by (with_reducible repeat (first | apply kN | apply kD | apply kA)); exact BK188.out) hb); have n2_ := Am (blk_below (g := gb195) (o := .cells #[.int .i64 t189, .int .i64 t190, .int .i64 t191, .int .i64 t192] 23 (0, 0)) (by (with_reducible repeat (first | apply kN | apply kD | apply kA)); exact BK195.out) hb); have n3_ := Am (blk_below (g := gb201) (o := .cells #[.int .i64 1, .int .i64 1] 27 (0, 0)) (by (with_reducible repeat (first | apply kN | apply kD | apply kA)); exact BK201.out) hb); have n4_ := Am (blk_below (g := gb202) (o := .cells #[.int .i64 64, .int .i64 1] 27 (0, 0)) (by (with_reducible repeat (first | apply kN | apply kD | apply kA)); exact BK202.out) hb); have n5_ := Am (below_step (by repeat (first | (with_reducible first | exact HB.out | apply bA | apply bN | apply bD | refine bS ?_ GE187.out | refine bS ?_ GE188.out | refine bS ?_ GE195.out | refine bS ?_ GE201.out | refine bS ?_ GE202.out) | exact HB.out)) hb); clear BK187 BK188 BK195 BK201 BK202 HB; have BK187 := n0_; have BK188 := n1_; have BK195 := n2_; have BK201 := n3_; have BK202 := n4_; have HB := n5_; clear n0_ n1_ n2_ n3_ n4_ n5_; (try clear hb); (try clear hb2); (try clear hk); (try clear hi)))
         go_ret
         exact ⟨by first | rfl | (simp [errW_none, errW_some] <;> rfl) | (simp [*, errW_none, errW_some] <;> rfl), by repeat (first | (with_reducible first | exact HB.out | apply bA | apply bN | apply bD | refine bS ?_ GE187.out | refine bS ?_ GE188.out | refine bS ?_ GE195.out | refine bS ?_ GE201.out | refine bS ?_ GE202.out) | exact HB.out)⟩
       ·rw [if_neg c77] at H
        have c77b0 : (t194 == 0) = false := beq_eq_false_iff_ne.mpr c77
        have c77b1 : (t194 != 0) = true := bne_iff_ne.mpr c77
        by_cases c169 : (t189 == 0 && (t190 == 0 && (t191 == 0 && (t192 == 0)))) = true
        ·rw [if_pos c169] at H
         have c169b0 : (t189 == 0 && (t190 == 0 && (t191 == 0 && (t192 == 0)))) = true := c169
         (try (have c169b1 : decide (t189 = 0 && (t190 == 0 && (t191 == 0 && (t192 == 0)))) = true := by simpa using c169))
         (try (have c169b2 : (t189 == 0 && (t190 == 0 && (t191 == 0 && (t192 == 0)))) = true := by simpa using c169))
         clear c169
         obtain rfl := Option.some.inj H
         have hnb170 := NB195_187.out
         have hnc170 := NB187_195.out
         have hnb171 := NB195_188.out
         have hnc171 := NB188_195.out
         have hnb172 := NB195_201.out
         have hnc172 := NB201_195.out
         have hnb173 := NB195_202.out
         have hnc173 := NB202_195.out
         have hcz174_0 : wc.cell? ⟨gb195, 0, none⟩ = some (.int .i64 t189) := (blk_cell BK195.out 0).trans rfl
         have hcz174_1 : wc.cell? ⟨gb195, 1, none⟩ = some (.int .i64 t190) := (blk_cell BK195.out 1).trans rfl
         have hcz174_2 : wc.cell? ⟨gb195, 2, none⟩ = some (.int .i64 t191) := (blk_cell BK195.out 2).trans rfl
         have hcz174_3 : wc.cell? ⟨gb195, 3, none⟩ = some (.int .i64 t192) := (blk_cell BK195.out 3).trans rfl
         have hfz174_0 := blk_frozen BK195.out 0
         have hfz174_1 := blk_frozen BK195.out 1
         have hfz174_2 := blk_frozen BK195.out 2
         have hfz174_3 := blk_frozen BK195.out 3
         go_wp2
         go_ret
         exact ⟨by first | rfl | (simp [errW_none, errW_some] <;> rfl) | (simp [*, errW_none, errW_some] <;> rfl), by repeat (first | (with_reducible first | exact HB.out | apply bA | apply bN | apply bD | refine bS ?_ GE187.out | refine bS ?_ GE188.out | refine bS ?_ GE195.out | refine bS ?_ GE201.out | refine bS ?_ GE202.out) | exact HB.out)⟩
        ·rw [if_neg c169] at H
         have c169b0 : (t189 == 0 && (t190 == 0 && (t191 == 0 && (t192 == 0)))) = false := by simpa using c169
         (try (have c169b1 : decide (t189 = 0 && (t190 == 0 && (t191 == 0 && (t192 == 0)))) = false := by simpa using c169))
         (try (have c169b2 : (t189 == 0 && (t190 == 0 && (t191 == 0 && (t192 == 0)))) = false := by simpa using c169))
         (try (have c169b3 : ¬ (t189 = 0 && (t190 == 0 && (t191 == 0 && (t192 == 0)))) := by simpa using c169))
         clear c169
         obtain rfl := Option.some.inj H
         have hnb175 := NB195_187.out
         have hnc175 := NB187_195.out
         have hnb176 := NB195_188.out
         have hnc176 := NB188_195.out
         have hnb177 := NB195_201.out
         have hnc177 := NB201_195.out
         have hnb178 := NB195_202.out
         have hnc178 := NB202_195.out
         have hcz179_0 : wc.cell? ⟨gb195, 0, none⟩ = some (.int .i64 t189) := (blk_cell BK195.out 0).trans rfl
         have hcz179_1 : wc.cell? ⟨gb195, 1, none⟩ = some (.int .i64 t190) := (blk_cell BK195.out 1).trans rfl
         have hcz179_2 : wc.cell? ⟨gb195, 2, none⟩ = some (.int .i64 t191) := (blk_cell BK195.out 2).trans rfl
         have hcz179_3 : wc.cell? ⟨gb195, 3, none⟩ = some (.int .i64 t192) := (blk_cell BK195.out 3).trans rfl
         have hfz179_0 := blk_frozen BK195.out 0
         have hfz179_1 := blk_frozen BK195.out 1
         have hfz179_2 := blk_frozen BK195.out 2
         have hfz179_3 := blk_frozen BK195.out 3
         go_wp2
         go_ret
         exact ⟨by first | rfl | (simp [errW_none, errW_some] <;> rfl) | (simp [*, errW_none, errW_some] <;> rfl), by repeat (first | (with_reducible first | exact HB.out | apply bA | apply bN | apply bD | refine bS ?_ GE187.out | refine bS ?_ GE188.out | refine bS ?_ GE195.out | refine bS ?_ GE201.out | refine bS ?_ GE202.out) | exact HB.out)⟩
 ·replace c6 := Bool.eq_false_iff.mpr c6
  subst c6
  have H1 : (some false) = some r := by rw [if_neg (show ¬ (false = true) by decide)] at H; exact H
  clear H; have H := H1; clear H1
  obtain rfl := Option.some.inj H
  go_enter Try.func9, Try.ntmps9
  go_wp2_with (first | ((with_reducible refine gate_callee (f := 10) rfl ?_); refine goesL_ (some 24) rfl rfl Try.func10 (by kernel_rfl) rfl #[] rfl (by (try simp only [List.map_toArray, List.map_cons, List.map_nil]); first | done | rfl | (simp only [List.length_drop, List.length_take]; rfl)) ?_; (with_reducible refine (soundservicelaw18_sane.calls  false _ A5.out).mono ?_); rintro e w180 ⟨rfl, hb⟩; refine ⟨_, rfl, ?_⟩; have n0_ := Am (below_step (by repeat (first | (with_reducible first | exact HB.out | apply bA | apply bN | apply bD) | exact HB.out)) hb); clear HB; have HB := n0_; clear n0_; (try clear hb); (try clear hb2); (try clear hk); (try clear hi)))
  go_ret
  exact ⟨by first | rfl | (simp [errW_none, errW_some] <;> rfl) | (simp [*, errW_none, errW_some] <;> rfl), by repeat (first | (with_reducible first | exact HB.out | apply bA | apply bN | apply bD) | exact HB.out)⟩

/-- THE ONE PURE STATEMENT of soundservicelaw18_ControlPlans: yours. -/
def soundservicelaw18_ControlPlans.Pure : Prop := ∀ (l0 : List Int) (a1 : Int) (a2 : Int) (l3 : List Int), l0.length ≤ maxLen → l0.length * 1 ≤ 140737488351232 → (∀ x ∈ l0, (Lit.int .u8 x).wf = true) → (Lit.int .u8 a1).wf = true → (Lit.int .u8 a2).wf = true → l3.length ≤ maxLen → l3.length * 1 ≤ 140737488351232 → (∀ x ∈ l3, (Lit.int .u8 x).wf = true) → ∃ k, soundservicelaw18_ControlPlans.f k l0 a1 a2 l3 = some true
theorem soundservicelaw18_ControlPlans.walk (P : soundservicelaw18_ControlPlans.Pure) (a0 : Option Addr) (len0 cap0 : Nat) (z0 : List Int) (a1 : Int) (a2 : Int) (a3 : Option Addr) (len3 cap3 : Nat) (z3 : List Int) (w : World) (w0 : (a0 = none ∧ len0 = 0 ∧ cap0 = 0 ∧ z0 = []) ∨ ∃ x, a0 = some x ∧ len0 ≤ cap0 ∧ cap0 ≤ maxLen ∧ z0.length = cap0 ∧ (∀ i, i < z0.length → w.cell? (x.add i) = some (.int .u8 (z0.getD i 0))) ∧ ∀ n ∈ z0, (Lit.int .u8 n).wf = true) (y0 : len0 * 1 ≤ 140737488351232) (w1 : (Lit.int .u8 a1).wf = true) (w2 : (Lit.int .u8 a2).wf = true) (w3 : (a3 = none ∧ len3 = 0 ∧ cap3 = 0 ∧ z3 = []) ∨ ∃ x, a3 = some x ∧ len3 ≤ cap3 ∧ cap3 ≤ maxLen ∧ z3.length = cap3 ∧ (∀ i, i < z3.length → w.cell? (x.add i) = some (.int .u8 (z3.getD i 0))) ∧ ∀ n ∈ z3, (Lit.int .u8 n).wf = true) (y3 : len3 * 1 ≤ 140737488351232) :
  Calls Try.prog 9 #[.slice a0 len0 cap0, .int .u8 a1, .int .u8 a2, .slice a3 len3 cap3] w fun e w' => e = .returned (.bool true) ∧ Below w.heap.size w w' := by
 obtain ⟨l0, rfl, hr0, hm0, hw0, hc0⟩ := ReadsInt.ofRowC w0
 obtain ⟨l3, rfl, hr3, hm3, hw3, hc3⟩ := ReadsInt.ofRowC w3
 obtain ⟨k, h⟩ := P l0 a1 a2 l3 hm0 y0 hw0 w1 w2 hm3 y3 hw3
 refine (soundservicelaw18_ControlPlans.calls k _ _ l0 a1 a2 _ _ l3 true w (Kd.C_of_reads (d := (0 : Int)) (h1 := fun _ => rfl) hr0) hc0 (Kd.C_of_reads (d := (0 : Int)) (h1 := fun _ => rfl) hr3) hc3 h).mono ?_
 rintro e w' ⟨rfl, hd⟩
 exact ⟨rfl, hd⟩

end Go.Proofs.Ytcnheiemajghiaa.PA
