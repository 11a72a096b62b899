/- Walks of functions of the program: each does what its Lean function says. Written by a program of this session (wip/xprint), which runs the printer of the kit with changes. -/
import Derived.Test.YtcnheiemajghiaaPAx0
import Derived.Test.YtcnheiemajghiaaPAx1
import Derived.Test.YtcnheiemajghiaaPAx2
import Derived.Test.YtcnheiemajghiaaPAx3
namespace Go.Proofs.Ytcnheiemajghiaa.PA
open Go.RowKit Go.Proofs.YtcnheiemajghiaaW.PrintWords Go.Proofs.YtcnheiemajghiaaW.PrintLast Go.Proofs.YtcnheiemajghiaaW.PrintMore
attribute [local go_sem] max2_int min2_int max_two min_two max_three min_three max_four min_four   -- for this text's walks alone
set_option linter.unusedVariables false
set_option linter.unusedSimpArgs false

/-! ### soundservicelaw18_ControlAscends: function 4 -/
mutual
def soundservicelaw18_ControlAscends.j1 : Nat → Bool → Option (Bool)
 | 0, _ => none
 | k + 1, x6 => some x6
def soundservicelaw18_ControlAscends.j0 : Nat → Bool → Option (Bool)
 | 0, _ => none
 | k + 1, x6 => soundservicelaw18_ControlAscends.j1 k x6
end
def soundservicelaw18_ControlAscends.f (k : Nat) (l0 : List Int) (a1 : Int) (a2 : Int) : Option (Bool) := (soundservicelaw18_sane.f).bind fun t171 => (if t171 = true then ((soundservicemade_New.f l0).bind fun t172 => ((soundservicelaw18_made.f t172).bind fun bt174 => ((control_Adjust.f bt174.1 bt174.2.1 bt174.2.2.1 bt174.2.2.2.1 (wrap64 (bt174.1 + (wrap64 (Int.tmod a1 2000))))).bind fun t185 => ((control_Adjust.f bt174.1 bt174.2.1 bt174.2.2.1 bt174.2.2.2.1 (wrap64 ((wrap64 (bt174.1 + (wrap64 (Int.tmod a1 2000)))) + (wrap64 (a2))))).bind fun t186 => (if t185 ≤ t186 then (if t185 ≥ 0 then (if t186 ≤ bt174.2.2.2.1 then (if (wrap64 (Int.tmod a1 2000)) > bt174.1 then (if (wrap64 (Int.tmod a1 2000)) > bt174.2.1 then (if (wrap64 (Int.tmod a1 2000)) ≤ bt174.2.1 then (soundservicelaw18_ControlAscends.j0 k true) else (if bt174.2.2.2.1 = 0 then (soundservicelaw18_ControlAscends.j0 k true) else (soundservicelaw18_ControlAscends.j0 k (decide (t185 > 0))))) else (if t185 = 0 then (if (wrap64 (Int.tmod a1 2000)) ≤ bt174.2.1 then (soundservicelaw18_ControlAscends.j0 k true) else (if bt174.2.2.2.1 = 0 then (soundservicelaw18_ControlAscends.j0 k true) else (soundservicelaw18_ControlAscends.j0 k (decide (t185 > 0))))) else (soundservicelaw18_ControlAscends.j0 k false))) else ((control_Adjust.f bt174.1 bt174.2.1 bt174.2.2.1 bt174.2.2.2.1 (wrap64 (bt174.1 - (wrap64 (Int.tmod a1 2000))))).bind fun t187 => (if t187 = (wrap64 (-t185)) then (if (wrap64 (Int.tmod a1 2000)) > bt174.2.1 then (if (wrap64 (Int.tmod a1 2000)) ≤ bt174.2.1 then (soundservicelaw18_ControlAscends.j0 k true) else (if bt174.2.2.2.1 = 0 then (soundservicelaw18_ControlAscends.j0 k true) else (soundservicelaw18_ControlAscends.j0 k (decide (t185 > 0))))) else (if t185 = 0 then (if (wrap64 (Int.tmod a1 2000)) ≤ bt174.2.1 then (soundservicelaw18_ControlAscends.j0 k true) else (if bt174.2.2.2.1 = 0 then (soundservicelaw18_ControlAscends.j0 k true) else (soundservicelaw18_ControlAscends.j0 k (decide (t185 > 0))))) else (soundservicelaw18_ControlAscends.j0 k false))) else (soundservicelaw18_ControlAscends.j0 k false)))) else (soundservicelaw18_ControlAscends.j0 k false)) else (soundservicelaw18_ControlAscends.j0 k false)) else (soundservicelaw18_ControlAscends.j0 k false)))))) else (some false))
theorem soundservicelaw18_ControlAscends.mono_l : ∀ k, (∀ y0, LeO (soundservicelaw18_ControlAscends.j1 k y0) (soundservicelaw18_ControlAscends.j1 (k + 1) y0)) ∧ (∀ y0, LeO (soundservicelaw18_ControlAscends.j0 k y0) (soundservicelaw18_ControlAscends.j0 (k + 1) y0))
 | 0 => ⟨fun _ r h => by simp [soundservicelaw18_ControlAscends.j1] at h, fun _ r h => by simp [soundservicelaw18_ControlAscends.j0] at h⟩
 | k + 1 => by
  obtain ⟨ih0, ih1⟩ := soundservicelaw18_ControlAscends.mono_l k
  refine ⟨?_, ?_⟩
  ·intro y0
   unfold soundservicelaw18_ControlAscends.j1
   repeat' first
   | (with_reducible exact ih0 _)
   | (with_reducible exact ih1 _)
   | (with_reducible exact LeO.refl _)
   | (with_reducible exact LeO.none _)
   | (with_reducible refine LeO.ite ?_ ?_)
   | (with_reducible refine LeO.bind ?_ (fun _ => ?_))
   | exact ih0 _
   | exact ih1 _
   | exact LeO.none _
   | refine LeO.ite ?_ ?_
   | refine LeO.bind ?_ (fun _ => ?_)
  ·intro y0
   unfold soundservicelaw18_ControlAscends.j0
   repeat' first
   | (with_reducible exact ih0 _)
   | (with_reducible exact ih1 _)
   | (with_reducible exact LeO.refl _)
   | (with_reducible exact LeO.none _)
   | (with_reducible refine LeO.ite ?_ ?_)
   | (with_reducible refine LeO.bind ?_ (fun _ => ?_))
   | exact ih0 _
   | exact ih1 _
   | exact LeO.none _
   | refine LeO.ite ?_ ?_
   | refine LeO.bind ?_ (fun _ => ?_)
theorem soundservicelaw18_ControlAscends.mono : ∀ a0 a1 a2 k, LeO (soundservicelaw18_ControlAscends.f k a0 a1 a2) (soundservicelaw18_ControlAscends.f (k + 1) a0 a1 a2) := by
 intro a0 a1 a2 k
 obtain ⟨ih0, ih1⟩ := soundservicelaw18_ControlAscends.mono_l k
 unfold soundservicelaw18_ControlAscends.f
 repeat' first
   | (with_reducible exact ih0 _)
   | (with_reducible exact ih1 _)
   | (with_reducible exact LeO.refl _)
   | (with_reducible exact LeO.none _)
   | (with_reducible refine LeO.ite ?_ ?_)
   | (with_reducible refine LeO.bind ?_ (fun _ => ?_))
   | exact ih0 _
   | exact ih1 _
   | exact LeO.none _
   | refine LeO.ite ?_ ?_
   | refine LeO.bind ?_ (fun _ => ?_)
def soundservicelaw18_ControlAscends.T5 : Bool × List (List Nat × List Nat) := (true, [([], []), ([], []), ([1], [1]), ([], []), ([2, 3], [2, 3]), ([0, 4], [0, 4]), ([], []), ([], []), ([7], [7]), ([], []), ([8, 9], [8, 9]), ([], []), ([11], [11]), ([10, 12], [10, 12]), ([6, 13, 5], [6, 13]), ([5, 14, 0, 1, 2, 3, 4, 5], [5]), ([14, 15, 0, 1, 2, 3, 4, 5, 6, 7, 8, 9, 10, 11, 12, 13, 14, 15], [14])])
def soundservicelaw18_ControlAscends.B5 : List Nat := [0, 0, 2, 0, 14, 31, 0, 0, 128, 0, 896, 0, 2048, 8064, 16383, 32767, 65535]
theorem soundservicelaw18_ControlAscends.tab5 : rtab .any (opsOf Try.f4 5) = soundservicelaw18_ControlAscends.T5 := by kernel_rfl
theorem soundservicelaw18_ControlAscends.bits5 : waitsOk soundservicelaw18_ControlAscends.T5.2 soundservicelaw18_ControlAscends.B5 = true := by kernel_rfl
set_option maxHeartbeats 8000000 in
set_option maxRecDepth 100000 in
theorem soundservicelaw18_ControlAscends.calls (k : Nat) (A0 : Option Addr) (c0 : Nat) (l0 : List Int) (a1 : Int) (a2 : Int) (r : Bool) (w : World) (hr0 : Kd.C (Kd.int .u8) w A0 l0.length l0) (hc0 : l0.length ≤ c0) (h : soundservicelaw18_ControlAscends.f k l0 a1 a2 = some r) :
  Calls Try.prog 4 #[.slice A0 l0.length c0, .int .u16 a1, .int .u8 a2] w fun e w' => e = .returned (.bool r) ∧ Below w.heap.size w w' := by
 have hu23 := Try.underlying23
 have hu27 := Try.underlying27
 have HR0 := Aside0.mk hr0
 have HC0 := Aside0.mk hc0
 clear hr0 hc0
 have HB := Aside0.mk (Below.refl w.heap.size w)
 have H : ((soundservicelaw18_sane.f).bind fun t171 => (if t171 = true then ((soundservicemade_New.f l0).bind fun t172 => ((soundservicelaw18_made.f t172).bind fun bt174 => ((control_Adjust.f bt174.1 bt174.2.1 bt174.2.2.1 bt174.2.2.2.1 (wrap64 (bt174.1 + (wrap64 (Int.tmod a1 2000))))).bind fun t185 => ((control_Adjust.f bt174.1 bt174.2.1 bt174.2.2.1 bt174.2.2.2.1 (wrap64 ((wrap64 (bt174.1 + (wrap64 (Int.tmod a1 2000)))) + (wrap64 (a2))))).bind fun t186 => (if t185 ≤ t186 then (if t185 ≥ 0 then (if t186 ≤ bt174.2.2.2.1 then (if (wrap64 (Int.tmod a1 2000)) > bt174.1 then (if (wrap64 (Int.tmod a1 2000)) > bt174.2.1 then (if (wrap64 (Int.tmod a1 2000)) ≤ bt174.2.1 then (soundservicelaw18_ControlAscends.j0 k true) else (if bt174.2.2.2.1 = 0 then (soundservicelaw18_ControlAscends.j0 k true) else (soundservicelaw18_ControlAscends.j0 k (decide (t185 > 0))))) else (if t185 = 0 then (if (wrap64 (Int.tmod a1 2000)) ≤ bt174.2.1 then (soundservicelaw18_ControlAscends.j0 k true) else (if bt174.2.2.2.1 = 0 then (soundservicelaw18_ControlAscends.j0 k true) else (soundservicelaw18_ControlAscends.j0 k (decide (t185 > 0))))) else (soundservicelaw18_ControlAscends.j0 k false))) else ((control_Adjust.f bt174.1 bt174.2.1 bt174.2.2.1 bt174.2.2.2.1 (wrap64 (bt174.1 - (wrap64 (Int.tmod a1 2000))))).bind fun t187 => (if t187 = (wrap64 (-t185)) then (if (wrap64 (Int.tmod a1 2000)) > bt174.2.1 then (if (wrap64 (Int.tmod a1 2000)) ≤ bt174.2.1 then (soundservicelaw18_ControlAscends.j0 k true) else (if bt174.2.2.2.1 = 0 then (soundservicelaw18_ControlAscends.j0 k true) else (soundservicelaw18_ControlAscends.j0 k (decide (t185 > 0))))) else (if t185 = 0 then (if (wrap64 (Int.tmod a1 2000)) ≤ bt174.2.1 then (soundservicelaw18_ControlAscends.j0 k true) else (if bt174.2.2.2.1 = 0 then (soundservicelaw18_ControlAscends.j0 k true) else (soundservicelaw18_ControlAscends.j0 k (decide (t185 > 0))))) else (soundservicelaw18_ControlAscends.j0 k false))) else (soundservicelaw18_ControlAscends.j0 k false)))) else (soundservicelaw18_ControlAscends.j0 k false)) else (soundservicelaw18_ControlAscends.j0 k false)) else (soundservicelaw18_ControlAscends.j0 k false)))))) else (some false))) = some r := h
 clear h
 replace H := Option.bind_eq_some_iff.mp H
 obtain ⟨t171, A40, H⟩ := H
 replace H : (if t171 = true then ((soundservicemade_New.f l0).bind fun t172 => ((soundservicelaw18_made.f t172).bind fun bt174 => ((control_Adjust.f bt174.1 bt174.2.1 bt174.2.2.1 bt174.2.2.2.1 (wrap64 (bt174.1 + (wrap64 (Int.tmod a1 2000))))).bind fun t185 => ((control_Adjust.f bt174.1 bt174.2.1 bt174.2.2.1 bt174.2.2.2.1 (wrap64 ((wrap64 (bt174.1 + (wrap64 (Int.tmod a1 2000)))) + (wrap64 (a2))))).bind fun t186 => (if t185 ≤ t186 then (if t185 ≥ 0 then (if t186 ≤ bt174.2.2.2.1 then (if (wrap64 (Int.tmod a1 2000)) > bt174.1 then (if (wrap64 (Int.tmod a1 2000)) > bt174.2.1 then (if (wrap64 (Int.tmod a1 2000)) ≤ bt174.2.1 then (soundservicelaw18_ControlAscends.j0 k true) else (if bt174.2.2.2.1 = 0 then (soundservicelaw18_ControlAscends.j0 k true) else (soundservicelaw18_ControlAscends.j0 k (decide (t185 > 0))))) else (if t185 = 0 then (if (wrap64 (Int.tmod a1 2000)) ≤ bt174.2.1 then (soundservicelaw18_ControlAscends.j0 k true) else (if bt174.2.2.2.1 = 0 then (soundservicelaw18_ControlAscends.j0 k true) else (soundservicelaw18_ControlAscends.j0 k (decide (t185 > 0))))) else (soundservicelaw18_ControlAscends.j0 k false))) else ((control_Adjust.f bt174.1 bt174.2.1 bt174.2.2.1 bt174.2.2.2.1 (wrap64 (bt174.1 - (wrap64 (Int.tmod a1 2000))))).bind fun t187 => (if t187 = (wrap64 (-t185)) then (if (wrap64 (Int.tmod a1 2000)) > bt174.2.1 then (if (wrap64 (Int.tmod a1 2000)) ≤ bt174.2.1 then (soundservicelaw18_ControlAscends.j0 k true) else (if bt174.2.2.2.1 = 0 then (soundservicelaw18_ControlAscends.j0 k true) else (soundservicelaw18_ControlAscends.j0 k (decide (t185 > 0))))) else (if t185 = 0 then (if (wrap64 (Int.tmod a1 2000)) ≤ bt174.2.1 then (soundservicelaw18_ControlAscends.j0 k true) else (if bt174.2.2.2.1 = 0 then (soundservicelaw18_ControlAscends.j0 k true) else (soundservicelaw18_ControlAscends.j0 k (decide (t185 > 0))))) else (soundservicelaw18_ControlAscends.j0 k false))) else (soundservicelaw18_ControlAscends.j0 k false)))) else (soundservicelaw18_ControlAscends.j0 k false)) else (soundservicelaw18_ControlAscends.j0 k false)) else (soundservicelaw18_ControlAscends.j0 k false)))))) else (some false)) = some r := H
 have A4 := Aside0.mk A40
 clear A40
 by_cases c5 : t171 = true
 ·subst c5
  have H1 : ((soundservicemade_New.f l0).bind fun t172 => ((soundservicelaw18_made.f t172).bind fun bt174 => ((control_Adjust.f bt174.1 bt174.2.1 bt174.2.2.1 bt174.2.2.2.1 (wrap64 (bt174.1 + (wrap64 (Int.tmod a1 2000))))).bind fun t185 => ((control_Adjust.f bt174.1 bt174.2.1 bt174.2.2.1 bt174.2.2.2.1 (wrap64 ((wrap64 (bt174.1 + (wrap64 (Int.tmod a1 2000)))) + (wrap64 (a2))))).bind fun t186 => (if t185 ≤ t186 then (if t185 ≥ 0 then (if t186 ≤ bt174.2.2.2.1 then (if (wrap64 (Int.tmod a1 2000)) > bt174.1 then (if (wrap64 (Int.tmod a1 2000)) > bt174.2.1 then (if (wrap64 (Int.tmod a1 2000)) ≤ bt174.2.1 then (soundservicelaw18_ControlAscends.j0 k true) else (if bt174.2.2.2.1 = 0 then (soundservicelaw18_ControlAscends.j0 k true) else (soundservicelaw18_ControlAscends.j0 k (decide (t185 > 0))))) else (if t185 = 0 then (if (wrap64 (Int.tmod a1 2000)) ≤ bt174.2.1 then (soundservicelaw18_ControlAscends.j0 k true) else (if bt174.2.2.2.1 = 0 then (soundservicelaw18_ControlAscends.j0 k true) else (soundservicelaw18_ControlAscends.j0 k (decide (t185 > 0))))) else (soundservicelaw18_ControlAscends.j0 k false))) else ((control_Adjust.f bt174.1 bt174.2.1 bt174.2.2.1 bt174.2.2.2.1 (wrap64 (bt174.1 - (wrap64 (Int.tmod a1 2000))))).bind fun t187 => (if t187 = (wrap64 (-t185)) then (if (wrap64 (Int.tmod a1 2000)) > bt174.2.1 then (if (wrap64 (Int.tmod a1 2000)) ≤ bt174.2.1 then (soundservicelaw18_ControlAscends.j0 k true) else (if bt174.2.2.2.1 = 0 then (soundservicelaw18_ControlAscends.j0 k true) else (soundservicelaw18_ControlAscends.j0 k (decide (t185 > 0))))) else (if t185 = 0 then (if (wrap64 (Int.tmod a1 2000)) ≤ bt174.2.1 then (soundservicelaw18_ControlAscends.j0 k true) else (if bt174.2.2.2.1 = 0 then (soundservicelaw18_ControlAscends.j0 k true) else (soundservicelaw18_ControlAscends.j0 k (decide (t185 > 0))))) else (soundservicelaw18_ControlAscends.j0 k false))) else (soundservicelaw18_ControlAscends.j0 k false)))) else (soundservicelaw18_ControlAscends.j0 k false)) else (soundservicelaw18_ControlAscends.j0 k false)) else (soundservicelaw18_ControlAscends.j0 k false)))))) = some r := by rw [if_pos rfl] at H; exact H
  clear H
  have H := H1
  clear H1
  replace H := Option.bind_eq_some_iff.mp H
  obtain ⟨t172, A60, H⟩ := H
  replace H : ((soundservicelaw18_made.f t172).bind fun bt174 => ((control_Adjust.f bt174.1 bt174.2.1 bt174.2.2.1 bt174.2.2.2.1 (wrap64 (bt174.1 + (wrap64 (Int.tmod a1 2000))))).bind fun t185 => ((control_Adjust.f bt174.1 bt174.2.1 bt174.2.2.1 bt174.2.2.2.1 (wrap64 ((wrap64 (bt174.1 + (wrap64 (Int.tmod a1 2000)))) + (wrap64 (a2))))).bind fun t186 => (if t185 ≤ t186 then (if t185 ≥ 0 then (if t186 ≤ bt174.2.2.2.1 then (if (wrap64 (Int.tmod a1 2000)) > bt174.1 then (if (wrap64 (Int.tmod a1 2000)) > bt174.2.1 then (if (wrap64 (Int.tmod a1 2000)) ≤ bt174.2.1 then (soundservicelaw18_ControlAscends.j0 k true) else (if bt174.2.2.2.1 = 0 then (soundservicelaw18_ControlAscends.j0 k true) else (soundservicelaw18_ControlAscends.j0 k (decide (t185 > 0))))) else (if t185 = 0 then (if (wrap64 (Int.tmod a1 2000)) ≤ bt174.2.1 then (soundservicelaw18_ControlAscends.j0 k true) else (if bt174.2.2.2.1 = 0 then (soundservicelaw18_ControlAscends.j0 k true) else (soundservicelaw18_ControlAscends.j0 k (decide (t185 > 0))))) else (soundservicelaw18_ControlAscends.j0 k false))) else ((control_Adjust.f bt174.1 bt174.2.1 bt174.2.2.1 bt174.2.2.2.1 (wrap64 (bt174.1 - (wrap64 (Int.tmod a1 2000))))).bind fun t187 => (if t187 = (wrap64 (-t185)) then (if (wrap64 (Int.tmod a1 2000)) > bt174.2.1 then (if (wrap64 (Int.tmod a1 2000)) ≤ bt174.2.1 then (soundservicelaw18_ControlAscends.j0 k true) else (if bt174.2.2.2.1 = 0 then (soundservicelaw18_ControlAscends.j0 k true) else (soundservicelaw18_ControlAscends.j0 k (decide (t185 > 0))))) else (if t185 = 0 then (if (wrap64 (Int.tmod a1 2000)) ≤ bt174.2.1 then (soundservicelaw18_ControlAscends.j0 k true) else (if bt174.2.2.2.1 = 0 then (soundservicelaw18_ControlAscends.j0 k true) else (soundservicelaw18_ControlAscends.j0 k (decide (t185 > 0))))) else (soundservicelaw18_ControlAscends.j0 k false))) else (soundservicelaw18_ControlAscends.j0 k false)))) else (soundservicelaw18_ControlAscends.j0 k false)) else (soundservicelaw18_ControlAscends.j0 k false)) else (soundservicelaw18_ControlAscends.j0 k false))))) = some r := H
  have A6 := Aside0.mk A60
  clear A60
  replace H := Option.bind_eq_some_iff.mp H
  obtain ⟨⟨t174, t175, t176, t177, t178, t179, t180, t181, t182⟩, A70, H⟩ := H
  replace H : ((control_Adjust.f t174 t175 t176 t177 (wrap64 (t174 + (wrap64 (Int.tmod a1 2000))))).bind fun t185 => ((control_Adjust.f t174 t175 t176 t177 (wrap64 ((wrap64 (t174 + (wrap64 (Int.tmod a1 2000)))) + (wrap64 (a2))))).bind fun t186 => (if t185 ≤ t186 then (if t185 ≥ 0 then (if t186 ≤ t177 then (if (wrap64 (Int.tmod a1 2000)) > t174 then (if (wrap64 (Int.tmod a1 2000)) > t175 then (if (wrap64 (Int.tmod a1 2000)) ≤ t175 then (soundservicelaw18_ControlAscends.j0 k true) else (if t177 = 0 then (soundservicelaw18_ControlAscends.j0 k true) else (soundservicelaw18_ControlAscends.j0 k (decide (t185 > 0))))) else (if t185 = 0 then (if (wrap64 (Int.tmod a1 2000)) ≤ t175 then (soundservicelaw18_ControlAscends.j0 k true) else (if t177 = 0 then (soundservicelaw18_ControlAscends.j0 k true) else (soundservicelaw18_ControlAscends.j0 k (decide (t185 > 0))))) else (soundservicelaw18_ControlAscends.j0 k false))) else ((control_Adjust.f t174 t175 t176 t177 (wrap64 (t174 - (wrap64 (Int.tmod a1 2000))))).bind fun t187 => (if t187 = (wrap64 (-t185)) then (if (wrap64 (Int.tmod a1 2000)) > t175 then (if (wrap64 (Int.tmod a1 2000)) ≤ t175 then (soundservicelaw18_ControlAscends.j0 k true) else (if t177 = 0 then (soundservicelaw18_ControlAscends.j0 k true) else (soundservicelaw18_ControlAscends.j0 k (decide (t185 > 0))))) else (if t185 = 0 then (if (wrap64 (Int.tmod a1 2000)) ≤ t175 then (soundservicelaw18_ControlAscends.j0 k true) else (if t177 = 0 then (soundservicelaw18_ControlAscends.j0 k true) else (soundservicelaw18_ControlAscends.j0 k (decide (t185 > 0))))) else (soundservicelaw18_ControlAscends.j0 k false))) else (soundservicelaw18_ControlAscends.j0 k false)))) else (soundservicelaw18_ControlAscends.j0 k false)) else (soundservicelaw18_ControlAscends.j0 k false)) else (soundservicelaw18_ControlAscends.j0 k false)))) = some r := H
  have A7 := Aside0.mk A70
  clear A70
  replace H := Option.bind_eq_some_iff.mp H
  obtain ⟨t185, A80, H⟩ := H
  replace H : ((control_Adjust.f t174 t175 t176 t177 (wrap64 ((wrap64 (t174 + (wrap64 (Int.tmod a1 2000)))) + (wrap64 (a2))))).bind fun t186 => (if t185 ≤ t186 then (if t185 ≥ 0 then (if t186 ≤ t177 then (if (wrap64 (Int.tmod a1 2000)) > t174 then (if (wrap64 (Int.tmod a1 2000)) > t175 then (if (wrap64 (Int.tmod a1 2000)) ≤ t175 then (soundservicelaw18_ControlAscends.j0 k true) else (if t177 = 0 then (soundservicelaw18_ControlAscends.j0 k true) else (soundservicelaw18_ControlAscends.j0 k (decide (t185 > 0))))) else (if t185 = 0 then (if (wrap64 (Int.tmod a1 2000)) ≤ t175 then (soundservicelaw18_ControlAscends.j0 k true) else (if t177 = 0 then (soundservicelaw18_ControlAscends.j0 k true) else (soundservicelaw18_ControlAscends.j0 k (decide (t185 > 0))))) else (soundservicelaw18_ControlAscends.j0 k false))) else ((control_Adjust.f t174 t175 t176 t177 (wrap64 (t174 - (wrap64 (Int.tmod a1 2000))))).bind fun t187 => (if t187 = (wrap64 (-t185)) then (if (wrap64 (Int.tmod a1 2000)) > t175 then (if (wrap64 (Int.tmod a1 2000)) ≤ t175 then (soundservicelaw18_ControlAscends.j0 k true) else (if t177 = 0 then (soundservicelaw18_ControlAscends.j0 k true) else (soundservicelaw18_ControlAscends.j0 k (decide (t185 > 0))))) else (if t185 = 0 then (if (wrap64 (Int.tmod a1 2000)) ≤ t175 then (soundservicelaw18_ControlAscends.j0 k true) else (if t177 = 0 then (soundservicelaw18_ControlAscends.j0 k true) else (soundservicelaw18_ControlAscends.j0 k (decide (t185 > 0))))) else (soundservicelaw18_ControlAscends.j0 k false))) else (soundservicelaw18_ControlAscends.j0 k false)))) else (soundservicelaw18_ControlAscends.j0 k false)) else (soundservicelaw18_ControlAscends.j0 k false)) else (soundservicelaw18_ControlAscends.j0 k false))) = some r := H
  have A8 := Aside0.mk A80
  clear A80
  replace H := Option.bind_eq_some_iff.mp H
  obtain ⟨t186, A90, H⟩ := H
  replace H : (if t185 ≤ t186 then (if t185 ≥ 0 then (if t186 ≤ t177 then (if (wrap64 (Int.tmod a1 2000)) > t174 then (if (wrap64 (Int.tmod a1 2000)) > t175 then (if (wrap64 (Int.tmod a1 2000)) ≤ t175 then (soundservicelaw18_ControlAscends.j0 k true) else (if t177 = 0 then (soundservicelaw18_ControlAscends.j0 k true) else (soundservicelaw18_ControlAscends.j0 k (decide (t185 > 0))))) else (if t185 = 0 then (if (wrap64 (Int.tmod a1 2000)) ≤ t175 then (soundservicelaw18_ControlAscends.j0 k true) else (if t177 = 0 then (soundservicelaw18_ControlAscends.j0 k true) else (soundservicelaw18_ControlAscends.j0 k (decide (t185 > 0))))) else (soundservicelaw18_ControlAscends.j0 k false))) else ((control_Adjust.f t174 t175 t176 t177 (wrap64 (t174 - (wrap64 (Int.tmod a1 2000))))).bind fun t187 => (if t187 = (wrap64 (-t185)) then (if (wrap64 (Int.tmod a1 2000)) > t175 then (if (wrap64 (Int.tmod a1 2000)) ≤ t175 then (soundservicelaw18_ControlAscends.j0 k true) else (if t177 = 0 then (soundservicelaw18_ControlAscends.j0 k true) else (soundservicelaw18_ControlAscends.j0 k (decide (t185 > 0))))) else (if t185 = 0 then (if (wrap64 (Int.tmod a1 2000)) ≤ t175 then (soundservicelaw18_ControlAscends.j0 k true) else (if t177 = 0 then (soundservicelaw18_ControlAscends.j0 k true) else (soundservicelaw18_ControlAscends.j0 k (decide (t185 > 0))))) else (soundservicelaw18_ControlAscends.j0 k false))) else (soundservicelaw18_ControlAscends.j0 k false)))) else (soundservicelaw18_ControlAscends.j0 k false)) else (soundservicelaw18_ControlAscends.j0 k false)) else (soundservicelaw18_ControlAscends.j0 k false)) = some r := H
  have A9 := Aside0.mk A90
  clear A90
  have HC10 := Aside0.mk H
  clear H
  go_enter Try.func4, Try.ntmps4
  try go_wp2_with (first | ((with_reducible refine gate_callee (f := 10) rfl ?_); refine goesL_ (some 14) rfl rfl Try.func10 (by kernel_rfl) rfl #[] rfl (by (try simp only [List.map_toArray, List.map_cons, List.map_nil]); first | done | rfl | (simp only [List.length_drop, List.length_take]; rfl)) ?_; (with_reducible refine (soundservicelaw18_sane.calls  true _ A4.out).mono ?_); rintro e w11 ⟨rfl, hb⟩; refine ⟨_, rfl, ?_⟩; have n0_ := Aside0.mk (below_step (by repeat (first | (with_reducible first | exact HB.out | apply below_alloc | apply pw_below_drewN | apply below_drew1) | exact HB.out)) hb); clear HB; have HB := n0_; clear n0_; (try clear hb); (try clear hb2); (try clear hk); (try clear hi)) | ((with_reducible refine gate_callee (f := 12) rfl ?_); refine goesL_ (some 18) rfl rfl Try.func12 (by kernel_rfl) rfl #[.slice A0 l0.length c0] rfl (by (try simp only [List.map_toArray, List.map_cons, List.map_nil]); first | done | rfl | (simp only [List.length_drop, List.length_take]; rfl)) ?_; (with_reducible refine (soundservicemade_New.calls _ _ l0 t172 w _ ?side1 ?side2 ?side3 A6.out).mono ?_); (case side1 => repeat (first | (with_reducible first | exact HB.out | apply below_alloc | apply pw_below_drewN | apply below_drew1) | exact HB.out)); (case side2 => exact HR0.out); (case side3 => exact HC0.out); rintro e w12 ⟨g173, rfl, hi, hb, hb2⟩; refine ⟨_, rfl, ?_⟩; have n0_ := Aside0.mk (hb); have n1_ := Aside0.mk (hi); clear HB; have HB := n0_; have HI173 := n1_; clear n0_ n1_; (try clear hb); (try clear hb2); (try clear hk); (try clear hi)) | ((with_reducible refine gate_callee (f := 11) rfl ?_); refine goesL_ (some 19) rfl rfl Try.func11 (by kernel_rfl) rfl #[.pointer (some ⟨g173, 0, none⟩)] rfl (by (try simp only [List.map_toArray, List.map_cons, List.map_nil]); first | done | rfl | (simp only [List.length_drop, List.length_take]; rfl)) ?_; (with_reducible refine (soundservicelaw18_made.calls g173 t172 t174 t175 t176 t177 t178 t179 t180 t181 t182 w _ ?side1 ?side2 A7.out).mono ?_); (case side1 => repeat (first | (with_reducible first | exact HI173.out | apply IsS59.alloc | apply IsS59.drewN | apply IsS59.drew) | exact HI173.out)); (case side2 => repeat (first | (with_reducible first | exact HB.out | apply below_alloc | apply pw_below_drewN | apply below_drew1 | refine below_set ?_ (IsS59.ge HI173.out)) | exact HB.out)); rintro e w13 ⟨rfl, hi, hb, hk⟩; refine ⟨_, rfl, ?_⟩; have n0_ := Aside0.mk (hb); have n1_ := Aside0.mk (hi); clear HB; clear HI173; have HB := n0_; have HI173 := n1_; clear n0_ n1_; (try clear hb); (try clear hb2); (try clear hk); (try clear hi)) | ((with_reducible refine gate_dst (N := 7) rfl ?_); refine box_event ?hg (N := 7) ?hd (cs := #[.int .i64 0, .int .i64 0, .int .i64 0, .int .i64 0]) (t := 23) ?hr ?_; (case hd => rfl); (case hg => rfl); (case hr => first | (go_simp; done) | (go_simp; rfl)); intro gb183 hg w14 hbox hb; have n0_ := Aside0.mk (IsS59.below (by repeat (first | (with_reducible first | exact HI173.out | apply IsS59.alloc | apply IsS59.drewN | apply IsS59.drew) | exact HI173.out)) hb); have n1_ := Aside0.mk (below_step (by repeat (first | (with_reducible first | exact HB.out | apply below_alloc | apply pw_below_drewN | apply below_drew1 | refine below_set ?_ (IsS59.ge HI173.out)) | exact HB.out)) hb); have n2_ := Aside0.mk (hbox); have n3_ := Aside0.mk ((by rw [hg]; exact (below_size (by repeat (first | (with_reducible first | exact HB.out | apply below_alloc | apply pw_below_drewN | apply below_drew1 | refine below_set ?_ (IsS59.ge HI173.out)) | exact HB.out))) : w.heap.size ≤ gb183)); have n4_ := Aside0.mk ((by rw [hg]; exact (below_size (by repeat (first | (with_reducible first | exact HB.out | apply below_alloc | apply pw_below_drewN | apply below_drew1 | refine below_set ?_ (IsS59.ge HI173.out)) | exact HB.out))) : w.heap.size ≤ gb183)); have n5_ := Aside0.mk ((by rw [hg]; exact Nat.ne_of_lt (IsS59.lt (show IsS59 w _ g173 t182 from by repeat (first | (with_reducible first | exact HI173.out | apply IsS59.alloc | apply IsS59.drewN | apply IsS59.drew) | exact HI173.out))) : g173 ≠ gb183)); have n6_ := Aside0.mk ((by rw [hg]; exact Nat.ne_of_gt (IsS59.lt (show IsS59 w _ g173 t182 from by repeat (first | (with_reducible first | exact HI173.out | apply IsS59.alloc | apply IsS59.drewN | apply IsS59.drew) | exact HI173.out))) : gb183 ≠ g173)); clear HI173; clear HB; have HI173 := n0_; have HB := n1_; have BK183 := n2_; have GW183 := n3_; have GE183 := n4_; have NB173_183 := n5_; have NB183_173 := n6_; clear n0_ n1_ n2_ n3_ n4_ n5_ n6_; clear hb hbox hg) | ((with_reducible refine gate_dst (N := 8) rfl ?_); refine box_event ?hg (N := 8) ?hd (cs := #[.int .i64 0, .int .i64 0]) (t := 27) ?hr ?_; (case hd => rfl); (case hg => rfl); (case hr => first | (go_simp; done) | (go_simp; rfl)); intro gb184 hg w15 hbox hb; have n0_ := Aside0.mk (IsS59.below (by repeat (first | (with_reducible first | exact HI173.out | apply IsS59.alloc | apply IsS59.drewN | apply IsS59.drew | refine IsS59.far ?_ NB173_183.out _) | exact HI173.out)) hb); have n1_ := Aside0.mk (blk_below (g := gb183) (o := .cells #[.int .i64 0, .int .i64 0, .int .i64 0, .int .i64 0] 23 (0, 0)) (by (with_reducible repeat (first | apply blk_drewN | apply blk_drew | apply blk_alloc)); exact BK183.out) hb); have n2_ := Aside0.mk (below_step (by repeat (first | (with_reducible first | exact HB.out | apply below_alloc | apply pw_below_drewN | apply below_drew1 | refine below_set ?_ (IsS59.ge HI173.out) | refine below_set ?_ GE183.out) | exact HB.out)) hb); have n3_ := Aside0.mk (hbox); have n4_ := Aside0.mk ((by rw [hg]; exact (below_size (by repeat (first | (with_reducible first | exact HB.out | apply below_alloc | apply pw_below_drewN | apply below_drew1 | refine below_set ?_ (IsS59.ge HI173.out) | refine below_set ?_ GE183.out) | exact HB.out))) : w.heap.size ≤ gb184)); have n5_ := Aside0.mk ((by rw [hg]; exact (below_size (by repeat (first | (with_reducible first | exact HB.out | apply below_alloc | apply pw_below_drewN | apply below_drew1 | refine below_set ?_ (IsS59.ge HI173.out) | refine below_set ?_ GE183.out) | exact HB.out))) : w.heap.size ≤ gb184)); have n6_ := Aside0.mk ((by rw [hg]; exact Nat.ne_of_lt (blk_lt (g := gb183) (o := .cells #[.int .i64 0, .int .i64 0, .int .i64 0, .int .i64 0] 23 (0, 0)) (by (with_reducible repeat (first | apply blk_drewN | apply blk_drew | apply blk_alloc)); exact BK183.out)) : gb183 ≠ gb184)); have n7_ := Aside0.mk ((by rw [hg]; exact Nat.ne_of_gt (blk_lt (g := gb183) (o := .cells #[.int .i64 0, .int .i64 0, .int .i64 0, .int .i64 0] 23 (0, 0)) (by (with_reducible repeat (first | apply blk_drewN | apply blk_drew | apply blk_alloc)); exact BK183.out)) : gb184 ≠ gb183)); have n8_ := Aside0.mk ((by rw [hg]; exact Nat.ne_of_lt (IsS59.lt (show IsS59 w _ g173 t182 from by repeat (first | (with_reducible first | exact HI173.out | apply IsS59.alloc | apply IsS59.drewN | apply IsS59.drew | refine IsS59.far ?_ NB173_183.out _) | exact HI173.out))) : g173 ≠ gb184)); have n9_ := Aside0.mk ((by rw [hg]; exact Nat.ne_of_gt (IsS59.lt (show IsS59 w _ g173 t182 from by repeat (first | (with_reducible first | exact HI173.out | apply IsS59.alloc | apply IsS59.drewN | apply IsS59.drew | refine IsS59.far ?_ NB173_183.out _) | exact HI173.out))) : gb184 ≠ g173)); clear HI173; clear BK183; clear HB; have HI173 := n0_; have BK183 := n1_; have HB := n2_; have BK184 := n3_; have GW184 := n4_; have GE184 := n5_; have NB183_184 := n6_; have NB184_183 := n7_; have NB173_184 := n8_; have NB184_173 := n9_; clear n0_ n1_ n2_ n3_ n4_ n5_ n6_ n7_ n8_ n9_; clear hb hbox hg; have hnb16 := NB183_184.out; have hnc16 := NB184_183.out; have hnb17 := NB183_173.out; have hnc17 := NB173_183.out; have hcz18_0 : w15.cell? ⟨gb183, 0, none⟩ = some (.int .i64 0) := (blk_cell BK183.out 0).trans rfl; have hcz18_1 : w15.cell? ⟨gb183, 1, none⟩ = some (.int .i64 0) := (blk_cell BK183.out 1).trans rfl; have hcz18_2 : w15.cell? ⟨gb183, 2, none⟩ = some (.int .i64 0) := (blk_cell BK183.out 2).trans rfl; have hcz18_3 : w15.cell? ⟨gb183, 3, none⟩ = some (.int .i64 0) := (blk_cell BK183.out 3).trans rfl; have hfz18_0 := blk_frozen BK183.out 0; have hfz18_1 := blk_frozen BK183.out 1; have hfz18_2 := blk_frozen BK183.out 2; have hfz18_3 := blk_frozen BK183.out 3; have hnb19 := NB184_173.out; have hnc19 := NB173_184.out; have hcz20_0 : w15.cell? ⟨gb184, 0, none⟩ = some (.int .i64 0) := (blk_cell BK184.out 0).trans rfl; have hcz20_1 : w15.cell? ⟨gb184, 1, none⟩ = some (.int .i64 0) := (blk_cell BK184.out 1).trans rfl; have hfz20_0 := blk_frozen BK184.out 0; have hfz20_1 := blk_frozen BK184.out 1))
  have n0_ : Aside0 (((((((w15.setCell ⟨gb183, 0, none⟩ (.int .i64 t174)).setCell ⟨gb183, 1, none⟩ (.int .i64 t175)).setCell ⟨gb183, 2, none⟩ (.int .i64 t176)).setCell ⟨gb183, 3, none⟩ (.int .i64 t177)).setCell ⟨gb184, 0, none⟩ (.int .i64 t178)).setCell ⟨gb184, 1, none⟩ (.int .i64 t179)).heap[gb183]? = some (.cells #[.int .i64 t174, .int .i64 t175, .int .i64 t176, .int .i64 t177] 23 (0, 0))) := ⟨by (with_reducible repeat (first | apply blk_drewN | apply blk_drew | apply blk_alloc)); refine blk_far ?_ NB183_184.out _; (with_reducible repeat (first | apply blk_drewN | apply blk_drew | apply blk_alloc)); refine blk_far ?_ NB183_184.out _; (with_reducible repeat (first | apply blk_drewN | apply blk_drew | apply blk_alloc)); refine blk_put (cs := #[.int .i64 t174, .int .i64 t175, .int .i64 t176, .int .i64 0]) ?_ 3 _ rfl; (with_reducible repeat (first | apply blk_drewN | apply blk_drew | apply blk_alloc)); refine blk_put (cs := #[.int .i64 t174, .int .i64 t175, .int .i64 0, .int .i64 0]) ?_ 2 _ rfl; (with_reducible repeat (first | apply blk_drewN | apply blk_drew | apply blk_alloc)); refine blk_put (cs := #[.int .i64 t174, .int .i64 0, .int .i64 0, .int .i64 0]) ?_ 1 _ rfl; (with_reducible repeat (first | apply blk_drewN | apply blk_drew | apply blk_alloc)); refine blk_put (cs := #[.int .i64 0, .int .i64 0, .int .i64 0, .int .i64 0]) ?_ 0 _ rfl; (with_reducible repeat (first | apply blk_drewN | apply blk_drew | apply blk_alloc)); exact BK183.out⟩
  have n1_ : Aside0 (((((((w15.setCell ⟨gb183, 0, none⟩ (.int .i64 t174)).setCell ⟨gb183, 1, none⟩ (.int .i64 t175)).setCell ⟨gb183, 2, none⟩ (.int .i64 t176)).setCell ⟨gb183, 3, none⟩ (.int .i64 t177)).setCell ⟨gb184, 0, none⟩ (.int .i64 t178)).setCell ⟨gb184, 1, none⟩ (.int .i64 t179)).heap[gb184]? = some (.cells #[.int .i64 t178, .int .i64 t179] 27 (0, 0))) := ⟨by (with_reducible repeat (first | apply blk_drewN | apply blk_drew | apply blk_alloc)); refine blk_put (cs := #[.int .i64 t178, .int .i64 0]) ?_ 1 _ rfl; (with_reducible repeat (first | apply blk_drewN | apply blk_drew | apply blk_alloc)); refine blk_put (cs := #[.int .i64 0, .int .i64 0]) ?_ 0 _ rfl; (with_reducible repeat (first | apply blk_drewN | apply blk_drew | apply blk_alloc)); refine blk_far ?_ NB184_183.out _; (with_reducible repeat (first | apply blk_drewN | apply blk_drew | apply blk_alloc)); refine blk_far ?_ NB184_183.out _; (with_reducible repeat (first | apply blk_drewN | apply blk_drew | apply blk_alloc)); refine blk_far ?_ NB184_183.out _; (with_reducible repeat (first | apply blk_drewN | apply blk_drew | apply blk_alloc)); refine blk_far ?_ NB184_183.out _; (with_reducible repeat (first | apply blk_drewN | apply blk_drew | apply blk_alloc)); exact BK184.out⟩
  have n2_ : Aside0 (IsS59 w ((((((w15.setCell ⟨gb183, 0, none⟩ (.int .i64 t174)).setCell ⟨gb183, 1, none⟩ (.int .i64 t175)).setCell ⟨gb183, 2, none⟩ (.int .i64 t176)).setCell ⟨gb183, 3, none⟩ (.int .i64 t177)).setCell ⟨gb184, 0, none⟩ (.int .i64 t178)).setCell ⟨gb184, 1, none⟩ (.int .i64 t179)) g173 t182) := ⟨by repeat (first | (with_reducible first | exact HI173.out | apply IsS59.alloc | apply IsS59.drewN | apply IsS59.drew | refine IsS59.far ?_ NB173_183.out _ | refine IsS59.far ?_ NB173_184.out _) | exact HI173.out)⟩
  have n3_ : Aside0 (Below w.heap.size w ((((((w15.setCell ⟨gb183, 0, none⟩ (.int .i64 t174)).setCell ⟨gb183, 1, none⟩ (.int .i64 t175)).setCell ⟨gb183, 2, none⟩ (.int .i64 t176)).setCell ⟨gb183, 3, none⟩ (.int .i64 t177)).setCell ⟨gb184, 0, none⟩ (.int .i64 t178)).setCell ⟨gb184, 1, none⟩ (.int .i64 t179))) := ⟨by repeat (first | (with_reducible first | exact HB.out | apply below_alloc | apply pw_below_drewN | apply below_drew1 | refine below_set ?_ (IsS59.ge HI173.out) | refine below_set ?_ GE183.out | refine below_set ?_ GE184.out) | exact HB.out)⟩
  (try clear BK183)
  (try clear BK184)
  (try clear HI173)
  (try clear HB)
  generalize ((((((w15.setCell ⟨gb183, 0, none⟩ (.int .i64 t174)).setCell ⟨gb183, 1, none⟩ (.int .i64 t175)).setCell ⟨gb183, 2, none⟩ (.int .i64 t176)).setCell ⟨gb183, 3, none⟩ (.int .i64 t177)).setCell ⟨gb184, 0, none⟩ (.int .i64 t178)).setCell ⟨gb184, 1, none⟩ (.int .i64 t179)) = w21 at n0_ n1_ n2_ n3_ ⊢
  have BK183 := n0_
  have BK184 := n1_
  have HI173 := n2_
  have HB := n3_
  clear n0_ n1_ n2_ n3_
  have n0_ := Aside0.mk (blk_drew BK183.out)
  have n1_ := Aside0.mk (blk_drew BK184.out)
  have n2_ := Aside0.mk (IsS59.drew HI173.out)
  have n3_ := Aside0.mk (below_drew1 HB.out)
  clear BK183
  clear BK184
  clear HI173
  clear HB
  have BK183 := n0_
  have BK184 := n1_
  have HI173 := n2_
  have HB := n3_
  clear n0_ n1_ n2_ n3_
  refine start_ (n := 17) (S := fun w' => w'.cell? ⟨gb183, 0, none⟩ = some (.int .i64 t174) ∧ w'.cell? ⟨gb183, 1, none⟩ = some (.int .i64 t175) ∧ w'.cell? ⟨gb183, 2, none⟩ = some (.int .i64 t176) ∧ w'.cell? ⟨gb183, 3, none⟩ = some (.int .i64 t177)) (ds := []) #[false, false, false, false, false, false, false, false, false, false, false, false, false, false, false, false, false] (by kernel_rfl) rfl rfl ⟨(blk_cell BK183.out 0).trans rfl, (blk_cell BK183.out 1).trans rfl, (blk_cell BK183.out 2).trans rfl, (blk_cell BK183.out 3).trans rfl⟩ (fun hHeld => ?_); refine with_tabW soundservicelaw18_ControlAscends.tab5 soundservicelaw18_ControlAscends.bits5 (fun HT_ HW_ => ?_)
  generalize w21.drew = w22 at BK183 BK184 HI173 HB hHeld ⊢
  refine pure_ (i := 1) (N := some 28) (v := ?_) (a' := ?_) #[false, true, false, false, false, false, false, false, false, false, false, false, false, false, false, false, false] rfl rfl (any_of HT_.out (by kernel_rfl)) (fun _ _ _ h => h) (Or.inl ⟨by rfl, ?_⟩) ?_ ?_
  rotate_left
  ·intro w'
   go_simp
   with_reducible rfl
  rotate_left
  ·simp only [Act.put, List.setIfInBounds_toArray, List.set_cons_zero, List.set_cons_succ, i64_w, i32_w]
   rfl
  refine pure_ (i := 3) (N := some 30) (v := ?_) (a' := ?_) #[false, true, false, true, false, false, false, false, false, false, false, false, false, false, false, false, false] rfl rfl (any_of HT_.out (by kernel_rfl)) (fun _ _ _ h => h) (Or.inl ⟨by rfl, ?_⟩) ?_ ?_
  rotate_left
  ·intro w'
   go_simp
   with_reducible rfl
  rotate_left
  ·simp only [Act.put, List.setIfInBounds_toArray, List.set_cons_zero, List.set_cons_succ, i64_w, i32_w]
   rfl
  refine pure_ (i := 7) (N := some 34) (v := ?_) (a' := ?_) #[false, true, false, true, false, false, false, true, false, false, false, false, false, false, false, false, false] rfl rfl (any_of HT_.out (by kernel_rfl)) (fun _ _ _ h => h) (Or.inl ⟨by rfl, ?_⟩) ?_ ?_
  rotate_left
  ·intro w'
   go_simp
   with_reducible rfl
  rotate_left
  ·simp only [Act.put, List.setIfInBounds_toArray, List.set_cons_zero, List.set_cons_succ, i64_w, i32_w]
   rfl
  refine pure_ (i := 9) (N := some 36) (v := ?_) (a' := ?_) #[false, true, false, true, false, false, false, true, false, true, false, false, false, false, false, false, false] rfl rfl (any_of HT_.out (by kernel_rfl)) (fun _ _ _ h => h) (Or.inl ⟨by rfl, ?_⟩) ?_ ?_
  rotate_left
  ·intro w'
   go_simp
   with_reducible rfl
  rotate_left
  ·simp only [Act.put, List.setIfInBounds_toArray, List.set_cons_zero, List.set_cons_succ, i64_w, i32_w]
   rfl
  refine pure_ (i := 11) (N := some 38) (v := ?_) (a' := ?_) #[false, true, false, true, false, false, false, true, false, true, false, true, false, false, false, false, false] rfl rfl (any_of HT_.out (by kernel_rfl)) (fun _ _ _ h => h) (Or.inl ⟨by rfl, ?_⟩) ?_ ?_
  rotate_left
  ·intro w'
   go_simp
   with_reducible rfl
  rotate_left
  ·simp only [Act.put, List.setIfInBounds_toArray, List.set_cons_zero, List.set_cons_succ, i64_w, i32_w]
   rfl
  refine pure_ (i := 12) (N := some 39) (v := ?_) (a' := ?_) #[false, true, false, true, false, false, false, true, false, true, false, true, true, false, false, false, false] rfl rfl (any_of HT_.out (by kernel_rfl)) (fun _ _ _ h => h) (Or.inl ⟨by rfl, ?_⟩) ?_ ?_
  rotate_left
  ·intro w'
   go_simp
   with_reducible rfl
  rotate_left
  ·simp only [Act.put, List.setIfInBounds_toArray, List.set_cons_zero, List.set_cons_succ, i64_w, i32_w]
   rfl
  refine take_ (i := 0) (N := some 27) (v := ?_) (a' := ?_) #[true, true, false, true, false, false, false, true, false, true, false, true, true, false, false, false, false] rfl rfl (take_ofW HT_.out HW_.out (by kernel_rfl)) (fun _ _ _ h => h) (Or.inl ⟨by rfl, ?_⟩) hHeld ?_ ?_
  rotate_left
  ·rintro w' ⟨s0, s1, s2, s3⟩
   go_simp
   with_reducible rfl
  rotate_left
  ·simp only [Act.put, List.setIfInBounds_toArray, List.set_cons_zero, List.set_cons_succ, i64_w, i32_w]
   rfl
  refine take_ (i := 2) (N := some 29) (v := ?_) (a' := ?_) #[true, true, true, true, false, false, false, true, false, true, false, true, true, false, false, false, false] rfl rfl (take_ofW HT_.out HW_.out (by kernel_rfl)) (fun _ _ _ h => h) (Or.inl ⟨by rfl, ?_⟩) hHeld ?_ ?_
  rotate_left
  ·rintro w' ⟨s0, s1, s2, s3⟩
   go_simp
   with_reducible rfl
  rotate_left
  ·simp only [Act.put, List.setIfInBounds_toArray, List.set_cons_zero, List.set_cons_succ, i64_w, i32_w]
   rfl
  refine pure_ (i := 4) (N := some 31) (v := ?_) (a' := ?_) #[true, true, true, true, true, false, false, true, false, true, false, true, true, false, false, false, false] rfl rfl (any_of HT_.out (by kernel_rfl)) (fun _ _ _ h => h) (Or.inl ⟨by rfl, ?_⟩) ?_ ?_
  rotate_left
  ·intro w'
   go_simp
   with_reducible rfl
  rotate_left
  ·simp only [Act.put, List.setIfInBounds_toArray, List.set_cons_zero, List.set_cons_succ, i64_w, i32_w]
   rfl
  refine take_ (i := 6) (N := some 33) (v := ?_) (a' := ?_) #[true, true, true, true, true, false, true, true, false, true, false, true, true, false, false, false, false] rfl rfl (take_ofW HT_.out HW_.out (by kernel_rfl)) (fun _ _ _ h => h) (Or.inl ⟨by rfl, ?_⟩) hHeld ?_ ?_
  rotate_left
  ·rintro w' ⟨s0, s1, s2, s3⟩
   go_simp
   with_reducible rfl
  rotate_left
  ·simp only [Act.put, List.setIfInBounds_toArray, List.set_cons_zero, List.set_cons_succ, i64_w, i32_w]
   rfl
  refine take_ (i := 8) (N := some 35) (v := ?_) (a' := ?_) #[true, true, true, true, true, false, true, true, true, true, false, true, true, false, false, false, false] rfl rfl (take_ofW HT_.out HW_.out (by kernel_rfl)) (fun _ _ _ h => h) (Or.inl ⟨by rfl, ?_⟩) hHeld ?_ ?_
  rotate_left
  ·rintro w' ⟨s0, s1, s2, s3⟩
   go_simp
   with_reducible rfl
  rotate_left
  ·simp only [Act.put, List.setIfInBounds_toArray, List.set_cons_zero, List.set_cons_succ, i64_w, i32_w]
   rfl
  refine pure_ (i := 10) (N := some 37) (v := ?_) (a' := ?_) #[true, true, true, true, true, false, true, true, true, true, true, true, true, false, false, false, false] rfl rfl (any_of HT_.out (by kernel_rfl)) (fun _ _ _ h => h) (Or.inl ⟨by rfl, ?_⟩) ?_ ?_
  rotate_left
  ·intro w'
   go_simp
   with_reducible rfl
  rotate_left
  ·simp only [Act.put, List.setIfInBounds_toArray, List.set_cons_zero, List.set_cons_succ, i64_w, i32_w]
   rfl
  refine pure_ (i := 13) (N := some 40) (v := ?_) (a' := ?_) #[true, true, true, true, true, false, true, true, true, true, true, true, true, true, false, false, false] rfl rfl (any_of HT_.out (by kernel_rfl)) (fun _ _ _ h => h) (Or.inl ⟨by rfl, ?_⟩) ?_ ?_
  rotate_left
  ·intro w'
   go_simp
   with_reducible rfl
  rotate_left
  ·simp only [Act.put, List.setIfInBounds_toArray, List.set_cons_zero, List.set_cons_succ, i64_w, i32_w]
   rfl
  refine one_ (i := 5) (N := some 32) #[true, true, true, true, true, true, true, true, true, true, true, true, true, true, false, false, false] rfl rfl (one_of HT_.out (by kernel_rfl)) (by decide) (fun K hK => ?_)
  refine goes_ Try.func13 (by kernel_rfl) rfl #[.agg #[.int .i64 t174, .int .i64 t175, .int .i64 t176, .int .i64 t177], .int .i64 (wrap64 (t174 + (wrap64 (Int.tmod a1 2000))))] (by rfl) rfl rfl (by (try simp only [List.map_toArray, List.map_cons, List.map_nil]); first | done | rfl | (simp only [List.length_drop, List.length_take]; rfl)) ?_
  with_reducible refine (control_Adjust.calls t174 t175 t176 t177 (wrap64 (t174 + (wrap64 (Int.tmod a1 2000)))) t185 _ A8.out).mono ?_
  rintro e w23 ⟨rfl, hb⟩
  refine ⟨_, rfl, ?_⟩
  have n0_ := Aside0.mk (IsS59.below (by repeat (first | (with_reducible first | exact HI173.out | apply IsS59.alloc | apply IsS59.drewN | apply IsS59.drew | refine IsS59.far ?_ NB173_183.out _ | refine IsS59.far ?_ NB173_184.out _) | exact HI173.out)) hb)
  have n1_ := Aside0.mk (blk_below (g := gb183) (o := .cells #[.int .i64 t174, .int .i64 t175, .int .i64 t176, .int .i64 t177] 23 (0, 0)) (by (with_reducible repeat (first | apply blk_drewN | apply blk_drew | apply blk_alloc)); exact BK183.out) hb)
  have n2_ := Aside0.mk (blk_below (g := gb184) (o := .cells #[.int .i64 t178, .int .i64 t179] 27 (0, 0)) (by (with_reducible repeat (first | apply blk_drewN | apply blk_drew | apply blk_alloc)); exact BK184.out) hb)
  have n3_ := Aside0.mk (below_step (by repeat (first | (with_reducible first | exact HB.out | apply below_alloc | apply pw_below_drewN | apply below_drew1 | refine below_set ?_ (IsS59.ge HI173.out) | refine below_set ?_ GE183.out | refine below_set ?_ GE184.out) | exact HB.out)) hb)
  clear HI173
  clear BK183
  clear BK184
  clear HB
  have HI173 := n0_
  have BK183 := n1_
  have BK184 := n2_
  have HB := n3_
  clear n0_ n1_ n2_ n3_
  (try clear hb)
  (try clear hb2)
  (try clear hk)
  (try clear hi)
  refine hK.out _ _ ⟨(blk_cell BK183.out 0).trans rfl, (blk_cell BK183.out 1).trans rfl, (blk_cell BK183.out 2).trans rfl, (blk_cell BK183.out 3).trans rfl⟩ (fun hHeld => ?_)
  clear hK K
  refine norm_ (a' := ?_) ?_ ?_
  rotate_left
  ·show Act.put _ (some 32) _ = _
   simp only [Act.put, List.setIfInBounds_toArray, List.set_cons_zero, List.set_cons_succ, i64_w, i32_w]
   rfl
  refine one_ (i := 14) (N := some 41) #[true, true, true, true, true, true, true, true, true, true, true, true, true, true, true, false, false] rfl rfl (one_of HT_.out (by kernel_rfl)) (by decide) (fun K hK => ?_)
  refine goes_ Try.func13 (by kernel_rfl) rfl #[.agg #[.int .i64 t174, .int .i64 t175, .int .i64 t176, .int .i64 t177], .int .i64 (wrap64 ((wrap64 (t174 + (wrap64 (Int.tmod a1 2000)))) + (wrap64 (a2))))] (by rfl) rfl rfl (by (try simp only [List.map_toArray, List.map_cons, List.map_nil]); first | done | rfl | (simp only [List.length_drop, List.length_take]; rfl)) ?_
  with_reducible refine (control_Adjust.calls t174 t175 t176 t177 (wrap64 ((wrap64 (t174 + (wrap64 (Int.tmod a1 2000)))) + (wrap64 (a2)))) t186 _ A9.out).mono ?_
  rintro e w24 ⟨rfl, hb⟩
  refine ⟨_, rfl, ?_⟩
  have n0_ := Aside0.mk (IsS59.below (by repeat (first | (with_reducible first | exact HI173.out | apply IsS59.alloc | apply IsS59.drewN | apply IsS59.drew | refine IsS59.far ?_ NB173_183.out _ | refine IsS59.far ?_ NB173_184.out _) | exact HI173.out)) hb)
  have n1_ := Aside0.mk (blk_below (g := gb183) (o := .cells #[.int .i64 t174, .int .i64 t175, .int .i64 t176, .int .i64 t177] 23 (0, 0)) (by (with_reducible repeat (first | apply blk_drewN | apply blk_drew | apply blk_alloc)); exact BK183.out) hb)
  have n2_ := Aside0.mk (blk_below (g := gb184) (o := .cells #[.int .i64 t178, .int .i64 t179] 27 (0, 0)) (by (with_reducible repeat (first | apply blk_drewN | apply blk_drew | apply blk_alloc)); exact BK184.out) hb)
  have n3_ := Aside0.mk (below_step (by repeat (first | (with_reducible first | exact HB.out | apply below_alloc | apply pw_below_drewN | apply below_drew1 | refine below_set ?_ (IsS59.ge HI173.out) | refine below_set ?_ GE183.out | refine below_set ?_ GE184.out) | exact HB.out)) hb)
  clear HI173
  clear BK183
  clear BK184
  clear HB
  have HI173 := n0_
  have BK183 := n1_
  have BK184 := n2_
  have HB := n3_
  clear n0_ n1_ n2_ n3_
  (try clear hb)
  (try clear hb2)
  (try clear hk)
  (try clear hi)
  refine hK.out _ _ ⟨(blk_cell BK183.out 0).trans rfl, (blk_cell BK183.out 1).trans rfl, (blk_cell BK183.out 2).trans rfl, (blk_cell BK183.out 3).trans rfl⟩ (fun hHeld => ?_)
  clear hK K
  refine norm_ (a' := ?_) ?_ ?_
  rotate_left
  ·show Act.put _ (some 41) _ = _
   simp only [Act.put, List.setIfInBounds_toArray, List.set_cons_zero, List.set_cons_succ, i64_w, i32_w]
   rfl
  refine pure_ (i := 15) (N := some 12) (v := ?_) (a' := ?_) #[true, true, true, true, true, true, true, true, true, true, true, true, true, true, true, true, false] rfl rfl (any_of HT_.out (by kernel_rfl)) (fun _ _ _ h => h) (Or.inl ⟨by rfl, ?_⟩) ?_ ?_
  rotate_left
  ·intro w'
   go_simp
   with_reducible rfl
  rotate_left
  ·simp only [Act.put, List.setIfInBounds_toArray, List.set_cons_zero, List.set_cons_succ, i64_w, i32_w]
   rfl
  refine pure_ (i := 16) (N := some 13) (v := ?_) (a' := ?_) #[true, true, true, true, true, true, true, true, true, true, true, true, true, true, true, true, true] rfl rfl (any_of HT_.out (by kernel_rfl)) (fun _ _ _ h => h) (Or.inl ⟨by rfl, ?_⟩) ?_ ?_
  rotate_left
  ·intro w'
   go_simp
   with_reducible rfl
  rotate_left
  ·simp only [Act.put, List.setIfInBounds_toArray, List.set_cons_zero, List.set_cons_succ, i64_w, i32_w]
   rfl
  refine done_ (done_of HT_.out (by kernel_rfl)) ?_
  go_upto_region 6 with (fail)
  go_cut [6] (fun v6 wc => ∃ (kq : Nat) (x6_9 : Bool), v6 = .bool x6_9 ∧ Aside0 (soundservicelaw18_ControlAscends.j1 kq x6_9 = some r) ∧ Aside0 (kq ≤ k) ∧ Aside0 (wc.heap[gb183]? = some (.cells #[.int .i64 t174, .int .i64 t175, .int .i64 t176, .int .i64 t177] 23 (0, 0))) ∧ Aside0 (wc.heap[gb184]? = some (.cells #[.int .i64 t178, .int .i64 t179] 27 (0, 0))) ∧ Aside0 (Below w.heap.size w wc))
  case first =>
   have H := HC10.out
   clear HC10
   have HC25 := Aside0.mk H
   clear H
   go_upto_region 6 with (fail)
   go_cut [6] (fun v6 wc => ∃ (kq : Nat) (x6_24 : Bool), v6 = .bool x6_24 ∧ Aside0 (soundservicelaw18_ControlAscends.j0 kq x6_24 = some r) ∧ Aside0 (kq ≤ k) ∧ Aside0 (wc.heap[gb183]? = some (.cells #[.int .i64 t174, .int .i64 t175, .int .i64 t176, .int .i64 t177] 23 (0, 0))) ∧ Aside0 (wc.heap[gb184]? = some (.cells #[.int .i64 t178, .int .i64 t179] 27 (0, 0))) ∧ Aside0 (Below w.heap.size w wc))
   case first =>
    have H := HC25.out
    clear HC25
    by_cases c26 : t185 ≤ t186
    ·rw [if_pos c26] at H
     have c26b0 : decide (t185 ≤ t186) = true := decide_eq_true c26
     clear c26
     (first | rw [c26b0] | (simp only [i64_w, i32_w]; rw [c26b0]) | skip)
     by_cases c27 : t185 ≥ 0
     ·rw [if_pos c27] at H
      have c27b0 : decide (0 ≤ t185) = true := decide_eq_true c27
      clear c27
      by_cases c28 : t186 ≤ t177
      ·rw [if_pos c28] at H
       have c28b0 : decide (t186 ≤ t177) = true := decide_eq_true c28
       clear c28
       by_cases c29 : (wrap64 (Int.tmod a1 2000)) > t174
       ·rw [if_pos c29] at H
        have c29b0 : decide (t174 < (wrap64 (Int.tmod a1 2000))) = true := decide_eq_true c29
        clear c29
        by_cases c30 : (wrap64 (Int.tmod a1 2000)) > t175
        ·rw [if_pos c30] at H
         have c30b0 : decide (t175 < (wrap64 (Int.tmod a1 2000))) = true := decide_eq_true c30
         clear c30
         by_cases c31 : (wrap64 (Int.tmod a1 2000)) ≤ t175
         ·rw [if_pos c31] at H
          have c31b0 : decide ((wrap64 (Int.tmod a1 2000)) ≤ t175) = true := decide_eq_true c31
          clear c31
          have H' := Aside0.mk H
          clear H
          have hnb32 := NB183_184.out
          have hnc32 := NB184_183.out
          have hnb33 := NB183_173.out
          have hnc33 := NB173_183.out
          have hcz34_0 : w24.cell? ⟨gb183, 0, none⟩ = some (.int .i64 t174) := (blk_cell BK183.out 0).trans rfl
          have hcz34_1 : w24.cell? ⟨gb183, 1, none⟩ = some (.int .i64 t175) := (blk_cell BK183.out 1).trans rfl
          have hcz34_2 : w24.cell? ⟨gb183, 2, none⟩ = some (.int .i64 t176) := (blk_cell BK183.out 2).trans rfl
          have hcz34_3 : w24.cell? ⟨gb183, 3, none⟩ = some (.int .i64 t177) := (blk_cell BK183.out 3).trans rfl
          have hfz34_0 := blk_frozen BK183.out 0
          have hfz34_1 := blk_frozen BK183.out 1
          have hfz34_2 := blk_frozen BK183.out 2
          have hfz34_3 := blk_frozen BK183.out 3
          go_wp2
          go_meet
          case rel => exact ⟨_, (true), (by first | rfl | (simp; done) | (simp [*]; done)), H', ⟨by first | omega | exact Nat.le_refl _⟩, ⟨by (with_reducible repeat (first | apply blk_drewN | apply blk_drew | apply blk_alloc)); exact BK183.out⟩, ⟨by (with_reducible repeat (first | apply blk_drewN | apply blk_drew | apply blk_alloc)); exact BK184.out⟩, ⟨by repeat (first | (with_reducible first | exact HB.out | apply below_alloc | apply pw_below_drewN | apply below_drew1 | refine below_set ?_ (IsS59.ge HI173.out) | refine below_set ?_ GE183.out | refine below_set ?_ GE184.out) | exact HB.out)⟩⟩
         ·rw [if_neg c31] at H
          have c31b0 : decide ((wrap64 (Int.tmod a1 2000)) ≤ t175) = false := decide_eq_false c31
          clear c31
          by_cases c35 : t177 = 0
          ·rw [if_pos c35] at H
           have c35b0 : (t177 == 0) = true := beq_iff_eq.mpr c35
           have c35b1 : (t177 != 0) = false := bne_eq_false_iff_eq.mpr c35
           clear c35
           have H' := Aside0.mk H
           clear H
           have hnb36 := NB183_184.out
           have hnc36 := NB184_183.out
           have hnb37 := NB183_173.out
           have hnc37 := NB173_183.out
           have hcz38_0 : w24.cell? ⟨gb183, 0, none⟩ = some (.int .i64 t174) := (blk_cell BK183.out 0).trans rfl
           have hcz38_1 : w24.cell? ⟨gb183, 1, none⟩ = some (.int .i64 t175) := (blk_cell BK183.out 1).trans rfl
           have hcz38_2 : w24.cell? ⟨gb183, 2, none⟩ = some (.int .i64 t176) := (blk_cell BK183.out 2).trans rfl
           have hcz38_3 : w24.cell? ⟨gb183, 3, none⟩ = some (.int .i64 t177) := (blk_cell BK183.out 3).trans rfl
           have hfz38_0 := blk_frozen BK183.out 0
           have hfz38_1 := blk_frozen BK183.out 1
           have hfz38_2 := blk_frozen BK183.out 2
           have hfz38_3 := blk_frozen BK183.out 3
           go_wp2
           go_meet
           case rel => exact ⟨_, (true), (by first | rfl | (simp; done) | (simp [*]; done)), H', ⟨by first | omega | exact Nat.le_refl _⟩, ⟨by (with_reducible repeat (first | apply blk_drewN | apply blk_drew | apply blk_alloc)); exact BK183.out⟩, ⟨by (with_reducible repeat (first | apply blk_drewN | apply blk_drew | apply blk_alloc)); exact BK184.out⟩, ⟨by repeat (first | (with_reducible first | exact HB.out | apply below_alloc | apply pw_below_drewN | apply below_drew1 | refine below_set ?_ (IsS59.ge HI173.out) | refine below_set ?_ GE183.out | refine below_set ?_ GE184.out) | exact HB.out)⟩⟩
          ·rw [if_neg c35] at H
           have c35b0 : (t177 == 0) = false := beq_eq_false_iff_ne.mpr c35
           have c35b1 : (t177 != 0) = true := bne_iff_ne.mpr c35
           have H' := Aside0.mk H
           clear H
           have hnb39 := NB183_184.out
           have hnc39 := NB184_183.out
           have hnb40 := NB183_173.out
           have hnc40 := NB173_183.out
           have hcz41_0 : w24.cell? ⟨gb183, 0, none⟩ = some (.int .i64 t174) := (blk_cell BK183.out 0).trans rfl
           have hcz41_1 : w24.cell? ⟨gb183, 1, none⟩ = some (.int .i64 t175) := (blk_cell BK183.out 1).trans rfl
           have hcz41_2 : w24.cell? ⟨gb183, 2, none⟩ = some (.int .i64 t176) := (blk_cell BK183.out 2).trans rfl
           have hcz41_3 : w24.cell? ⟨gb183, 3, none⟩ = some (.int .i64 t177) := (blk_cell BK183.out 3).trans rfl
           have hfz41_0 := blk_frozen BK183.out 0
           have hfz41_1 := blk_frozen BK183.out 1
           have hfz41_2 := blk_frozen BK183.out 2
           have hfz41_3 := blk_frozen BK183.out 3
           go_wp2
           go_meet
           case rel => exact ⟨_, (decide (t185 > 0)), (by first | rfl | (simp; done) | (simp [*]; done)), H', ⟨by first | omega | exact Nat.le_refl _⟩, ⟨by (with_reducible repeat (first | apply blk_drewN | apply blk_drew | apply blk_alloc)); exact BK183.out⟩, ⟨by (with_reducible repeat (first | apply blk_drewN | apply blk_drew | apply blk_alloc)); exact BK184.out⟩, ⟨by repeat (first | (with_reducible first | exact HB.out | apply below_alloc | apply pw_below_drewN | apply below_drew1 | refine below_set ?_ (IsS59.ge HI173.out) | refine below_set ?_ GE183.out | refine below_set ?_ GE184.out) | exact HB.out)⟩⟩
        ·rw [if_neg c30] at H
         have c30b0 : decide (t175 < (wrap64 (Int.tmod a1 2000))) = false := decide_eq_false c30
         clear c30
         by_cases c42 : t185 = 0
         ·rw [if_pos c42] at H
          have c42b0 : (t185 == 0) = true := beq_iff_eq.mpr c42
          have c42b1 : (t185 != 0) = false := bne_eq_false_iff_eq.mpr c42
          clear c42
          by_cases c43 : (wrap64 (Int.tmod a1 2000)) ≤ t175
          ·rw [if_pos c43] at H
           have c43b0 : decide ((wrap64 (Int.tmod a1 2000)) ≤ t175) = true := decide_eq_true c43
           clear c43
           have H' := Aside0.mk H
           clear H
           have hnb44 := NB183_184.out
           have hnc44 := NB184_183.out
           have hnb45 := NB183_173.out
           have hnc45 := NB173_183.out
           have hcz46_0 : w24.cell? ⟨gb183, 0, none⟩ = some (.int .i64 t174) := (blk_cell BK183.out 0).trans rfl
           have hcz46_1 : w24.cell? ⟨gb183, 1, none⟩ = some (.int .i64 t175) := (blk_cell BK183.out 1).trans rfl
           have hcz46_2 : w24.cell? ⟨gb183, 2, none⟩ = some (.int .i64 t176) := (blk_cell BK183.out 2).trans rfl
           have hcz46_3 : w24.cell? ⟨gb183, 3, none⟩ = some (.int .i64 t177) := (blk_cell BK183.out 3).trans rfl
           have hfz46_0 := blk_frozen BK183.out 0
           have hfz46_1 := blk_frozen BK183.out 1
           have hfz46_2 := blk_frozen BK183.out 2
           have hfz46_3 := blk_frozen BK183.out 3
           go_wp2
           go_meet
           case rel => exact ⟨_, (true), (by first | rfl | (simp; done) | (simp [*]; done)), H', ⟨by first | omega | exact Nat.le_refl _⟩, ⟨by (with_reducible repeat (first | apply blk_drewN | apply blk_drew | apply blk_alloc)); exact BK183.out⟩, ⟨by (with_reducible repeat (first | apply blk_drewN | apply blk_drew | apply blk_alloc)); exact BK184.out⟩, ⟨by repeat (first | (with_reducible first | exact HB.out | apply below_alloc | apply pw_below_drewN | apply below_drew1 | refine below_set ?_ (IsS59.ge HI173.out) | refine below_set ?_ GE183.out | refine below_set ?_ GE184.out) | exact HB.out)⟩⟩
          ·rw [if_neg c43] at H
           have c43b0 : decide ((wrap64 (Int.tmod a1 2000)) ≤ t175) = false := decide_eq_false c43
           clear c43
           by_cases c47 : t177 = 0
           ·rw [if_pos c47] at H
            have c47b0 : (t177 == 0) = true := beq_iff_eq.mpr c47
            have c47b1 : (t177 != 0) = false := bne_eq_false_iff_eq.mpr c47
            clear c47
            have H' := Aside0.mk H
            clear H
            have hnb48 := NB183_184.out
            have hnc48 := NB184_183.out
            have hnb49 := NB183_173.out
            have hnc49 := NB173_183.out
            have hcz50_0 : w24.cell? ⟨gb183, 0, none⟩ = some (.int .i64 t174) := (blk_cell BK183.out 0).trans rfl
            have hcz50_1 : w24.cell? ⟨gb183, 1, none⟩ = some (.int .i64 t175) := (blk_cell BK183.out 1).trans rfl
            have hcz50_2 : w24.cell? ⟨gb183, 2, none⟩ = some (.int .i64 t176) := (blk_cell BK183.out 2).trans rfl
            have hcz50_3 : w24.cell? ⟨gb183, 3, none⟩ = some (.int .i64 t177) := (blk_cell BK183.out 3).trans rfl
            have hfz50_0 := blk_frozen BK183.out 0
            have hfz50_1 := blk_frozen BK183.out 1
            have hfz50_2 := blk_frozen BK183.out 2
            have hfz50_3 := blk_frozen BK183.out 3
            go_wp2
            go_meet
            case rel => exact ⟨_, (true), (by first | rfl | (simp; done) | (simp [*]; done)), H', ⟨by first | omega | exact Nat.le_refl _⟩, ⟨by (with_reducible repeat (first | apply blk_drewN | apply blk_drew | apply blk_alloc)); exact BK183.out⟩, ⟨by (with_reducible repeat (first | apply blk_drewN | apply blk_drew | apply blk_alloc)); exact BK184.out⟩, ⟨by repeat (first | (with_reducible first | exact HB.out | apply below_alloc | apply pw_below_drewN | apply below_drew1 | refine below_set ?_ (IsS59.ge HI173.out) | refine below_set ?_ GE183.out | refine below_set ?_ GE184.out) | exact HB.out)⟩⟩
           ·rw [if_neg c47] at H
            have c47b0 : (t177 == 0) = false := beq_eq_false_iff_ne.mpr c47
            have c47b1 : (t177 != 0) = true := bne_iff_ne.mpr c47
            have H' := Aside0.mk H
            clear H
            have hnb51 := NB183_184.out
            have hnc51 := NB184_183.out
            have hnb52 := NB183_173.out
            have hnc52 := NB173_183.out
            have hcz53_0 : w24.cell? ⟨gb183, 0, none⟩ = some (.int .i64 t174) := (blk_cell BK183.out 0).trans rfl
            have hcz53_1 : w24.cell? ⟨gb183, 1, none⟩ = some (.int .i64 t175) := (blk_cell BK183.out 1).trans rfl
            have hcz53_2 : w24.cell? ⟨gb183, 2, none⟩ = some (.int .i64 t176) := (blk_cell BK183.out 2).trans rfl
            have hcz53_3 : w24.cell? ⟨gb183, 3, none⟩ = some (.int .i64 t177) := (blk_cell BK183.out 3).trans rfl
            have hfz53_0 := blk_frozen BK183.out 0
            have hfz53_1 := blk_frozen BK183.out 1
            have hfz53_2 := blk_frozen BK183.out 2
            have hfz53_3 := blk_frozen BK183.out 3
            go_wp2
            go_meet
            case rel => exact ⟨_, (decide (t185 > 0)), (by first | rfl | (simp; done) | (simp [*]; done)), H', ⟨by first | omega | exact Nat.le_refl _⟩, ⟨by (with_reducible repeat (first | apply blk_drewN | apply blk_drew | apply blk_alloc)); exact BK183.out⟩, ⟨by (with_reducible repeat (first | apply blk_drewN | apply blk_drew | apply blk_alloc)); exact BK184.out⟩, ⟨by repeat (first | (with_reducible first | exact HB.out | apply below_alloc | apply pw_below_drewN | apply below_drew1 | refine below_set ?_ (IsS59.ge HI173.out) | refine below_set ?_ GE183.out | refine below_set ?_ GE184.out) | exact HB.out)⟩⟩
         ·rw [if_neg c42] at H
          have c42b0 : (t185 == 0) = false := beq_eq_false_iff_ne.mpr c42
          have c42b1 : (t185 != 0) = true := bne_iff_ne.mpr c42
          have H' := Aside0.mk H
          clear H
          have hnb54 := NB183_184.out
          have hnc54 := NB184_183.out
          have hnb55 := NB183_173.out
          have hnc55 := NB173_183.out
          have hcz56_0 : w24.cell? ⟨gb183, 0, none⟩ = some (.int .i64 t174) := (blk_cell BK183.out 0).trans rfl
          have hcz56_1 : w24.cell? ⟨gb183, 1, none⟩ = some (.int .i64 t175) := (blk_cell BK183.out 1).trans rfl
          have hcz56_2 : w24.cell? ⟨gb183, 2, none⟩ = some (.int .i64 t176) := (blk_cell BK183.out 2).trans rfl
          have hcz56_3 : w24.cell? ⟨gb183, 3, none⟩ = some (.int .i64 t177) := (blk_cell BK183.out 3).trans rfl
          have hfz56_0 := blk_frozen BK183.out 0
          have hfz56_1 := blk_frozen BK183.out 1
          have hfz56_2 := blk_frozen BK183.out 2
          have hfz56_3 := blk_frozen BK183.out 3
          go_wp2
          go_meet
          case rel => exact ⟨_, (false), (by first | rfl | (simp; done) | (simp [*]; done)), H', ⟨by first | omega | exact Nat.le_refl _⟩, ⟨by (with_reducible repeat (first | apply blk_drewN | apply blk_drew | apply blk_alloc)); exact BK183.out⟩, ⟨by (with_reducible repeat (first | apply blk_drewN | apply blk_drew | apply blk_alloc)); exact BK184.out⟩, ⟨by repeat (first | (with_reducible first | exact HB.out | apply below_alloc | apply pw_below_drewN | apply below_drew1 | refine below_set ?_ (IsS59.ge HI173.out) | refine below_set ?_ GE183.out | refine below_set ?_ GE184.out) | exact HB.out)⟩⟩
       ·rw [if_neg c29] at H
        have c29b0 : decide (t174 < (wrap64 (Int.tmod a1 2000))) = false := decide_eq_false c29
        clear c29
        replace H := Option.bind_eq_some_iff.mp H
        obtain ⟨t187, A570, H⟩ := H
        replace H : (if t187 = (wrap64 (-t185)) then (if (wrap64 (Int.tmod a1 2000)) > t175 then (if (wrap64 (Int.tmod a1 2000)) ≤ t175 then (soundservicelaw18_ControlAscends.j0 k true) else (if t177 = 0 then (soundservicelaw18_ControlAscends.j0 k true) else (soundservicelaw18_ControlAscends.j0 k (decide (t185 > 0))))) else (if t185 = 0 then (if (wrap64 (Int.tmod a1 2000)) ≤ t175 then (soundservicelaw18_ControlAscends.j0 k true) else (if t177 = 0 then (soundservicelaw18_ControlAscends.j0 k true) else (soundservicelaw18_ControlAscends.j0 k (decide (t185 > 0))))) else (soundservicelaw18_ControlAscends.j0 k false))) else (soundservicelaw18_ControlAscends.j0 k false)) = some r := H
        have A57 := Aside0.mk A570
        clear A570
        by_cases c58 : t187 = (wrap64 (-t185))
        ·rw [if_pos c58] at H
         have c58b0 : (t187 == (wrap64 (-t185))) = true := beq_iff_eq.mpr c58
         have c58b1 : (t187 != (wrap64 (-t185))) = false := bne_eq_false_iff_eq.mpr c58
         clear c58
         by_cases c59 : (wrap64 (Int.tmod a1 2000)) > t175
         ·rw [if_pos c59] at H
          have c59b0 : decide (t175 < (wrap64 (Int.tmod a1 2000))) = true := decide_eq_true c59
          clear c59
          by_cases c60 : (wrap64 (Int.tmod a1 2000)) ≤ t175
          ·rw [if_pos c60] at H
           have c60b0 : decide ((wrap64 (Int.tmod a1 2000)) ≤ t175) = true := decide_eq_true c60
           clear c60
           have H' := Aside0.mk H
           clear H
           have hnb61 := NB183_184.out
           have hnc61 := NB184_183.out
           have hnb62 := NB183_173.out
           have hnc62 := NB173_183.out
           have hcz63_0 : w24.cell? ⟨gb183, 0, none⟩ = some (.int .i64 t174) := (blk_cell BK183.out 0).trans rfl
           have hcz63_1 : w24.cell? ⟨gb183, 1, none⟩ = some (.int .i64 t175) := (blk_cell BK183.out 1).trans rfl
           have hcz63_2 : w24.cell? ⟨gb183, 2, none⟩ = some (.int .i64 t176) := (blk_cell BK183.out 2).trans rfl
           have hcz63_3 : w24.cell? ⟨gb183, 3, none⟩ = some (.int .i64 t177) := (blk_cell BK183.out 3).trans rfl
           have hfz63_0 := blk_frozen BK183.out 0
           have hfz63_1 := blk_frozen BK183.out 1
           have hfz63_2 := blk_frozen BK183.out 2
           have hfz63_3 := blk_frozen BK183.out 3
           go_wp2_with (first | (go_at_call 13; (with_reducible refine (control_Adjust.calls t174 t175 t176 t177 (wrap64 (t174 - (wrap64 (Int.tmod a1 2000)))) t187 _ A57.out).mono ?_); rintro e w64 ⟨rfl, hb⟩; have n0_ := Aside0.mk (IsS59.below (by repeat (first | (with_reducible first | exact HI173.out | apply IsS59.alloc | apply IsS59.drewN | apply IsS59.drew | refine IsS59.far ?_ NB173_183.out _ | refine IsS59.far ?_ NB173_184.out _) | exact HI173.out)) hb); have n1_ := Aside0.mk (blk_below (g := gb183) (o := .cells #[.int .i64 t174, .int .i64 t175, .int .i64 t176, .int .i64 t177] 23 (0, 0)) (by (with_reducible repeat (first | apply blk_drewN | apply blk_drew | apply blk_alloc)); exact BK183.out) hb); have n2_ := Aside0.mk (blk_below (g := gb184) (o := .cells #[.int .i64 t178, .int .i64 t179] 27 (0, 0)) (by (with_reducible repeat (first | apply blk_drewN | apply blk_drew | apply blk_alloc)); exact BK184.out) hb); have n3_ := Aside0.mk (below_step (by repeat (first | (with_reducible first | exact HB.out | apply below_alloc | apply pw_below_drewN | apply below_drew1 | refine below_set ?_ (IsS59.ge HI173.out) | refine below_set ?_ GE183.out | refine below_set ?_ GE184.out) | exact HB.out)) hb); clear HI173; clear BK183; clear BK184; clear HB; have HI173 := n0_; have BK183 := n1_; have BK184 := n2_; have HB := n3_; clear n0_ n1_ n2_ n3_; (try clear hb); (try clear hb2); (try clear hk); (try clear hi); have hcz65_0 : w64.cell? ⟨gb183, 0, none⟩ = some (.int .i64 t174) := (blk_cell BK183.out 0).trans rfl; have hcz65_1 : w64.cell? ⟨gb183, 1, none⟩ = some (.int .i64 t175) := (blk_cell BK183.out 1).trans rfl; have hcz65_2 : w64.cell? ⟨gb183, 2, none⟩ = some (.int .i64 t176) := (blk_cell BK183.out 2).trans rfl; have hcz65_3 : w64.cell? ⟨gb183, 3, none⟩ = some (.int .i64 t177) := (blk_cell BK183.out 3).trans rfl; have hfz65_0 := blk_frozen BK183.out 0; have hfz65_1 := blk_frozen BK183.out 1; have hfz65_2 := blk_frozen BK183.out 2; have hfz65_3 := blk_frozen BK183.out 3))
           go_meet
           case rel => exact ⟨_, (true), (by first | rfl | (simp; done) | (simp [*]; done)), H', ⟨by first | omega | exact Nat.le_refl _⟩, ⟨by (with_reducible repeat (first | apply blk_drewN | apply blk_drew | apply blk_alloc)); exact BK183.out⟩, ⟨by (with_reducible repeat (first | apply blk_drewN | apply blk_drew | apply blk_alloc)); exact BK184.out⟩, ⟨by repeat (first | (with_reducible first | exact HB.out | apply below_alloc | apply pw_below_drewN | apply below_drew1 | refine below_set ?_ (IsS59.ge HI173.out) | refine below_set ?_ GE183.out | refine below_set ?_ GE184.out) | exact HB.out)⟩⟩
          ·rw [if_neg c60] at H
           have c60b0 : decide ((wrap64 (Int.tmod a1 2000)) ≤ t175) = false := decide_eq_false c60
           clear c60
           by_cases c66 : t177 = 0
           ·rw [if_pos c66] at H
            have c66b0 : (t177 == 0) = true := beq_iff_eq.mpr c66
            have c66b1 : (t177 != 0) = false := bne_eq_false_iff_eq.mpr c66
            clear c66
            have H' := Aside0.mk H
            clear H
            have hnb67 := NB183_184.out
            have hnc67 := NB184_183.out
            have hnb68 := NB183_173.out
            have hnc68 := NB173_183.out
            have hcz69_0 : w24.cell? ⟨gb183, 0, none⟩ = some (.int .i64 t174) := (blk_cell BK183.out 0).trans rfl
            have hcz69_1 : w24.cell? ⟨gb183, 1, none⟩ = some (.int .i64 t175) := (blk_cell BK183.out 1).trans rfl
            have hcz69_2 : w24.cell? ⟨gb183, 2, none⟩ = some (.int .i64 t176) := (blk_cell BK183.out 2).trans rfl
            have hcz69_3 : w24.cell? ⟨gb183, 3, none⟩ = some (.int .i64 t177) := (blk_cell BK183.out 3).trans rfl
            have hfz69_0 := blk_frozen BK183.out 0
            have hfz69_1 := blk_frozen BK183.out 1
            have hfz69_2 := blk_frozen BK183.out 2
            have hfz69_3 := blk_frozen BK183.out 3
            go_wp2_with (first | (go_at_call 13; (with_reducible refine (control_Adjust.calls t174 t175 t176 t177 (wrap64 (t174 - (wrap64 (Int.tmod a1 2000)))) t187 _ A57.out).mono ?_); rintro e w70 ⟨rfl, hb⟩; have n0_ := Aside0.mk (IsS59.below (by repeat (first | (with_reducible first | exact HI173.out | apply IsS59.alloc | apply IsS59.drewN | apply IsS59.drew | refine IsS59.far ?_ NB173_183.out _ | refine IsS59.far ?_ NB173_184.out _) | exact HI173.out)) hb); have n1_ := Aside0.mk (blk_below (g := gb183) (o := .cells #[.int .i64 t174, .int .i64 t175, .int .i64 t176, .int .i64 t177] 23 (0, 0)) (by (with_reducible repeat (first | apply blk_drewN | apply blk_drew | apply blk_alloc)); exact BK183.out) hb); have n2_ := Aside0.mk (blk_below (g := gb184) (o := .cells #[.int .i64 t178, .int .i64 t179] 27 (0, 0)) (by (with_reducible repeat (first | apply blk_drewN | apply blk_drew | apply blk_alloc)); exact BK184.out) hb); have n3_ := Aside0.mk (below_step (by repeat (first | (with_reducible first | exact HB.out | apply below_alloc | apply pw_below_drewN | apply below_drew1 | refine below_set ?_ (IsS59.ge HI173.out) | refine below_set ?_ GE183.out | refine below_set ?_ GE184.out) | exact HB.out)) hb); clear HI173; clear BK183; clear BK184; clear HB; have HI173 := n0_; have BK183 := n1_; have BK184 := n2_; have HB := n3_; clear n0_ n1_ n2_ n3_; (try clear hb); (try clear hb2); (try clear hk); (try clear hi); have hcz71_0 : w70.cell? ⟨gb183, 0, none⟩ = some (.int .i64 t174) := (blk_cell BK183.out 0).trans rfl; have hcz71_1 : w70.cell? ⟨gb183, 1, none⟩ = some (.int .i64 t175) := (blk_cell BK183.out 1).trans rfl; have hcz71_2 : w70.cell? ⟨gb183, 2, none⟩ = some (.int .i64 t176) := (blk_cell BK183.out 2).trans rfl; have hcz71_3 : w70.cell? ⟨gb183, 3, none⟩ = some (.int .i64 t177) := (blk_cell BK183.out 3).trans rfl; have hfz71_0 := blk_frozen BK183.out 0; have hfz71_1 := blk_frozen BK183.out 1; have hfz71_2 := blk_frozen BK183.out 2; have hfz71_3 := blk_frozen BK183.out 3))
            go_meet
            case rel => exact ⟨_, (true), (by first | rfl | (simp; done) | (simp [*]; done)), H', ⟨by first | omega | exact Nat.le_refl _⟩, ⟨by (with_reducible repeat (first | apply blk_drewN | apply blk_drew | apply blk_alloc)); exact BK183.out⟩, ⟨by (with_reducible repeat (first | apply blk_drewN | apply blk_drew | apply blk_alloc)); exact BK184.out⟩, ⟨by repeat (first | (with_reducible first | exact HB.out | apply below_alloc | apply pw_below_drewN | apply below_drew1 | refine below_set ?_ (IsS59.ge HI173.out) | refine below_set ?_ GE183.out | refine below_set ?_ GE184.out) | exact HB.out)⟩⟩
           ·rw [if_neg c66] at H
            have c66b0 : (t177 == 0) = false := beq_eq_false_iff_ne.mpr c66
            have c66b1 : (t177 != 0) = true := bne_iff_ne.mpr c66
            have H' := Aside0.mk H
            clear H
            have hnb72 := NB183_184.out
            have hnc72 := NB184_183.out
            have hnb73 := NB183_173.out
            have hnc73 := NB173_183.out
            have hcz74_0 : w24.cell? ⟨gb183, 0, none⟩ = some (.int .i64 t174) := (blk_cell BK183.out 0).trans rfl
            have hcz74_1 : w24.cell? ⟨gb183, 1, none⟩ = some (.int .i64 t175) := (blk_cell BK183.out 1).trans rfl
            have hcz74_2 : w24.cell? ⟨gb183, 2, none⟩ = some (.int .i64 t176) := (blk_cell BK183.out 2).trans rfl
            have hcz74_3 : w24.cell? ⟨gb183, 3, none⟩ = some (.int .i64 t177) := (blk_cell BK183.out 3).trans rfl
            have hfz74_0 := blk_frozen BK183.out 0
            have hfz74_1 := blk_frozen BK183.out 1
            have hfz74_2 := blk_frozen BK183.out 2
            have hfz74_3 := blk_frozen BK183.out 3
            go_wp2_with (first | (go_at_call 13; (with_reducible refine (control_Adjust.calls t174 t175 t176 t177 (wrap64 (t174 - (wrap64 (Int.tmod a1 2000)))) t187 _ A57.out).mono ?_); rintro e w75 ⟨rfl, hb⟩; have n0_ := Aside0.mk (IsS59.below (by repeat (first | (with_reducible first | exact HI173.out | apply IsS59.alloc | apply IsS59.drewN | apply IsS59.drew | refine IsS59.far ?_ NB173_183.out _ | refine IsS59.far ?_ NB173_184.out _) | exact HI173.out)) hb); have n1_ := Aside0.mk (blk_below (g := gb183) (o := .cells #[.int .i64 t174, .int .i64 t175, .int .i64 t176, .int .i64 t177] 23 (0, 0)) (by (with_reducible repeat (first | apply blk_drewN | apply blk_drew | apply blk_alloc)); exact BK183.out) hb); have n2_ := Aside0.mk (blk_below (g := gb184) (o := .cells #[.int .i64 t178, .int .i64 t179] 27 (0, 0)) (by (with_reducible repeat (first | apply blk_drewN | apply blk_drew | apply blk_alloc)); exact BK184.out) hb); have n3_ := Aside0.mk (below_step (by repeat (first | (with_reducible first | exact HB.out | apply below_alloc | apply pw_below_drewN | apply below_drew1 | refine below_set ?_ (IsS59.ge HI173.out) | refine below_set ?_ GE183.out | refine below_set ?_ GE184.out) | exact HB.out)) hb); clear HI173; clear BK183; clear BK184; clear HB; have HI173 := n0_; have BK183 := n1_; have BK184 := n2_; have HB := n3_; clear n0_ n1_ n2_ n3_; (try clear hb); (try clear hb2); (try clear hk); (try clear hi); have hcz76_0 : w75.cell? ⟨gb183, 0, none⟩ = some (.int .i64 t174) := (blk_cell BK183.out 0).trans rfl; have hcz76_1 : w75.cell? ⟨gb183, 1, none⟩ = some (.int .i64 t175) := (blk_cell BK183.out 1).trans rfl; have hcz76_2 : w75.cell? ⟨gb183, 2, none⟩ = some (.int .i64 t176) := (blk_cell BK183.out 2).trans rfl; have hcz76_3 : w75.cell? ⟨gb183, 3, none⟩ = some (.int .i64 t177) := (blk_cell BK183.out 3).trans rfl; have hfz76_0 := blk_frozen BK183.out 0; have hfz76_1 := blk_frozen BK183.out 1; have hfz76_2 := blk_frozen BK183.out 2; have hfz76_3 := blk_frozen BK183.out 3))
            go_meet
            case rel => exact ⟨_, (decide (t185 > 0)), (by first | rfl | (simp; done) | (simp [*]; done)), H', ⟨by first | omega | exact Nat.le_refl _⟩, ⟨by (with_reducible repeat (first | apply blk_drewN | apply blk_drew | apply blk_alloc)); exact BK183.out⟩, ⟨by (with_reducible repeat (first | apply blk_drewN | apply blk_drew | apply blk_alloc)); exact BK184.out⟩, ⟨by repeat (first | (with_reducible first | exact HB.out | apply below_alloc | apply pw_below_drewN | apply below_drew1 | refine below_set ?_ (IsS59.ge HI173.out) | refine below_set ?_ GE183.out | refine below_set ?_ GE184.out) | exact HB.out)⟩⟩
         ·rw [if_neg c59] at H
          have c59b0 : decide (t175 < (wrap64 (Int.tmod a1 2000))) = false := decide_eq_false c59
          clear c59
          by_cases c77 : t185 = 0
          ·rw [if_pos c77] at H
           have c77b0 : (t185 == 0) = true := beq_iff_eq.mpr c77
           have c77b1 : (t185 != 0) = false := bne_eq_false_iff_eq.mpr c77
           clear c77
           by_cases c78 : (wrap64 (Int.tmod a1 2000)) ≤ t175
           ·rw [if_pos c78] at H
            have c78b0 : decide ((wrap64 (Int.tmod a1 2000)) ≤ t175) = true := decide_eq_true c78
            clear c78
            have H' := Aside0.mk H
            clear H
            have hnb79 := NB183_184.out
            have hnc79 := NB184_183.out
            have hnb80 := NB183_173.out
            have hnc80 := NB173_183.out
            have hcz81_0 : w24.cell? ⟨gb183, 0, none⟩ = some (.int .i64 t174) := (blk_cell BK183.out 0).trans rfl
            have hcz81_1 : w24.cell? ⟨gb183, 1, none⟩ = some (.int .i64 t175) := (blk_cell BK183.out 1).trans rfl
            have hcz81_2 : w24.cell? ⟨gb183, 2, none⟩ = some (.int .i64 t176) := (blk_cell BK183.out 2).trans rfl
            have hcz81_3 : w24.cell? ⟨gb183, 3, none⟩ = some (.int .i64 t177) := (blk_cell BK183.out 3).trans rfl
            have hfz81_0 := blk_frozen BK183.out 0
            have hfz81_1 := blk_frozen BK183.out 1
            have hfz81_2 := blk_frozen BK183.out 2
            have hfz81_3 := blk_frozen BK183.out 3
            go_wp2_with (first | (go_at_call 13; (with_reducible refine (control_Adjust.calls t174 t175 t176 t177 (wrap64 (t174 - (wrap64 (Int.tmod a1 2000)))) t187 _ A57.out).mono ?_); rintro e w82 ⟨rfl, hb⟩; have n0_ := Aside0.mk (IsS59.below (by repeat (first | (with_reducible first | exact HI173.out | apply IsS59.alloc | apply IsS59.drewN | apply IsS59.drew | refine IsS59.far ?_ NB173_183.out _ | refine IsS59.far ?_ NB173_184.out _) | exact HI173.out)) hb); have n1_ := Aside0.mk (blk_below (g := gb183) (o := .cells #[.int .i64 t174, .int .i64 t175, .int .i64 t176, .int .i64 t177] 23 (0, 0)) (by (with_reducible repeat (first | apply blk_drewN | apply blk_drew | apply blk_alloc)); exact BK183.out) hb); have n2_ := Aside0.mk (blk_below (g := gb184) (o := .cells #[.int .i64 t178, .int .i64 t179] 27 (0, 0)) (by (with_reducible repeat (first | apply blk_drewN | apply blk_drew | apply blk_alloc)); exact BK184.out) hb); have n3_ := Aside0.mk (below_step (by repeat (first | (with_reducible first | exact HB.out | apply below_alloc | apply pw_below_drewN | apply below_drew1 | refine below_set ?_ (IsS59.ge HI173.out) | refine below_set ?_ GE183.out | refine below_set ?_ GE184.out) | exact HB.out)) hb); clear HI173; clear BK183; clear BK184; clear HB; have HI173 := n0_; have BK183 := n1_; have BK184 := n2_; have HB := n3_; clear n0_ n1_ n2_ n3_; (try clear hb); (try clear hb2); (try clear hk); (try clear hi); have hcz83_0 : w82.cell? ⟨gb183, 0, none⟩ = some (.int .i64 t174) := (blk_cell BK183.out 0).trans rfl; have hcz83_1 : w82.cell? ⟨gb183, 1, none⟩ = some (.int .i64 t175) := (blk_cell BK183.out 1).trans rfl; have hcz83_2 : w82.cell? ⟨gb183, 2, none⟩ = some (.int .i64 t176) := (blk_cell BK183.out 2).trans rfl; have hcz83_3 : w82.cell? ⟨gb183, 3, none⟩ = some (.int .i64 t177) := (blk_cell BK183.out 3).trans rfl; have hfz83_0 := blk_frozen BK183.out 0; have hfz83_1 := blk_frozen BK183.out 1; have hfz83_2 := blk_frozen BK183.out 2; have hfz83_3 := blk_frozen BK183.out 3))
            go_meet
            case rel => exact ⟨_, (true), (by first | rfl | (simp; done) | (simp [*]; done)), H', ⟨by first | omega | exact Nat.le_refl _⟩, ⟨by (with_reducible repeat (first | apply blk_drewN | apply blk_drew | apply blk_alloc)); exact BK183.out⟩, ⟨by (with_reducible repeat (first | apply blk_drewN | apply blk_drew | apply blk_alloc)); exact BK184.out⟩, ⟨by repeat (first | (with_reducible first | exact HB.out | apply below_alloc | apply pw_below_drewN | apply below_drew1 | refine below_set ?_ (IsS59.ge HI173.out) | refine below_set ?_ GE183.out | refine below_set ?_ GE184.out) | exact HB.out)⟩⟩
           ·rw [if_neg c78] at H
            have c78b0 : decide ((wrap64 (Int.tmod a1 2000)) ≤ t175) = false := decide_eq_false c78
            clear c78
            by_cases c84 : t177 = 0
            ·rw [if_pos c84] at H
             have c84b0 : (t177 == 0) = true := beq_iff_eq.mpr c84
             have c84b1 : (t177 != 0) = false := bne_eq_false_iff_eq.mpr c84
             clear c84
             have H' := Aside0.mk H
             clear H
             have hnb85 := NB183_184.out
             have hnc85 := NB184_183.out
             have hnb86 := NB183_173.out
             have hnc86 := NB173_183.out
             have hcz87_0 : w24.cell? ⟨gb183, 0, none⟩ = some (.int .i64 t174) := (blk_cell BK183.out 0).trans rfl
             have hcz87_1 : w24.cell? ⟨gb183, 1, none⟩ = some (.int .i64 t175) := (blk_cell BK183.out 1).trans rfl
             have hcz87_2 : w24.cell? ⟨gb183, 2, none⟩ = some (.int .i64 t176) := (blk_cell BK183.out 2).trans rfl
             have hcz87_3 : w24.cell? ⟨gb183, 3, none⟩ = some (.int .i64 t177) := (blk_cell BK183.out 3).trans rfl
             have hfz87_0 := blk_frozen BK183.out 0
             have hfz87_1 := blk_frozen BK183.out 1
             have hfz87_2 := blk_frozen BK183.out 2
             have hfz87_3 := blk_frozen BK183.out 3
             go_wp2_with (first | (go_at_call 13; (with_reducible refine (control_Adjust.calls t174 t175 t176 t177 (wrap64 (t174 - (wrap64 (Int.tmod a1 2000)))) t187 _ A57.out).mono ?_); rintro e w88 ⟨rfl, hb⟩; have n0_ := Aside0.mk (IsS59.below (by repeat (first | (with_reducible first | exact HI173.out | apply IsS59.alloc | apply IsS59.drewN | apply IsS59.drew | refine IsS59.far ?_ NB173_183.out _ | refine IsS59.far ?_ NB173_184.out _) | exact HI173.out)) hb); have n1_ := Aside0.mk (blk_below (g := gb183) (o := .cells #[.int .i64 t174, .int .i64 t175, .int .i64 t176, .int .i64 t177] 23 (0, 0)) (by (with_reducible repeat (first | apply blk_drewN | apply blk_drew | apply blk_alloc)); exact BK183.out) hb); have n2_ := Aside0.mk (blk_below (g := gb184) (o := .cells #[.int .i64 t178, .int .i64 t179] 27 (0, 0)) (by (with_reducible repeat (first | apply blk_drewN | apply blk_drew | apply blk_alloc)); exact BK184.out) hb); have n3_ := Aside0.mk (below_step (by repeat (first | (with_reducible first | exact HB.out | apply below_alloc | apply pw_below_drewN | apply below_drew1 | refine below_set ?_ (IsS59.ge HI173.out) | refine below_set ?_ GE183.out | refine below_set ?_ GE184.out) | exact HB.out)) hb); clear HI173; clear BK183; clear BK184; clear HB; have HI173 := n0_; have BK183 := n1_; have BK184 := n2_; have HB := n3_; clear n0_ n1_ n2_ n3_; (try clear hb); (try clear hb2); (try clear hk); (try clear hi); have hcz89_0 : w88.cell? ⟨gb183, 0, none⟩ = some (.int .i64 t174) := (blk_cell BK183.out 0).trans rfl; have hcz89_1 : w88.cell? ⟨gb183, 1, none⟩ = some (.int .i64 t175) := (blk_cell BK183.out 1).trans rfl; have hcz89_2 : w88.cell? ⟨gb183, 2, none⟩ = some (.int .i64 t176) := (blk_cell BK183.out 2).trans rfl; have hcz89_3 : w88.cell? ⟨gb183, 3, none⟩ = some (.int .i64 t177) := (blk_cell BK183.out 3).trans rfl; have hfz89_0 := blk_frozen BK183.out 0; have hfz89_1 := blk_frozen BK183.out 1; have hfz89_2 := blk_frozen BK183.out 2; have hfz89_3 := blk_frozen BK183.out 3))
             go_meet
             case rel => exact ⟨_, (true), (by first | rfl | (simp; done) | (simp [*]; done)), H', ⟨by first | omega | exact Nat.le_refl _⟩, ⟨by (with_reducible repeat (first | apply blk_drewN | apply blk_drew | apply blk_alloc)); exact BK183.out⟩, ⟨by (with_reducible repeat (first | apply blk_drewN | apply blk_drew | apply blk_alloc)); exact BK184.out⟩, ⟨by repeat (first | (with_reducible first | exact HB.out | apply below_alloc | apply pw_below_drewN | apply below_drew1 | refine below_set ?_ (IsS59.ge HI173.out) | refine below_set ?_ GE183.out | refine below_set ?_ GE184.out) | exact HB.out)⟩⟩
            ·rw [if_neg c84] at H
             have c84b0 : (t177 == 0) = false := beq_eq_false_iff_ne.mpr c84
             have c84b1 : (t177 != 0) = true := bne_iff_ne.mpr c84
             have H' := Aside0.mk H
             clear H
             have hnb90 := NB183_184.out
             have hnc90 := NB184_183.out
             have hnb91 := NB183_173.out
             have hnc91 := NB173_183.out
             have hcz92_0 : w24.cell? ⟨gb183, 0, none⟩ = some (.int .i64 t174) := (blk_cell BK183.out 0).trans rfl
             have hcz92_1 : w24.cell? ⟨gb183, 1, none⟩ = some (.int .i64 t175) := (blk_cell BK183.out 1).trans rfl
             have hcz92_2 : w24.cell? ⟨gb183, 2, none⟩ = some (.int .i64 t176) := (blk_cell BK183.out 2).trans rfl
             have hcz92_3 : w24.cell? ⟨gb183, 3, none⟩ = some (.int .i64 t177) := (blk_cell BK183.out 3).trans rfl
             have hfz92_0 := blk_frozen BK183.out 0
             have hfz92_1 := blk_frozen BK183.out 1
             have hfz92_2 := blk_frozen BK183.out 2
             have hfz92_3 := blk_frozen BK183.out 3
             go_wp2_with (first | (go_at_call 13; (with_reducible refine (control_Adjust.calls t174 t175 t176 t177 (wrap64 (t174 - (wrap64 (Int.tmod a1 2000)))) t187 _ A57.out).mono ?_); rintro e w93 ⟨rfl, hb⟩; have n0_ := Aside0.mk (IsS59.below (by repeat (first | (with_reducible first | exact HI173.out | apply IsS59.alloc | apply IsS59.drewN | apply IsS59.drew | refine IsS59.far ?_ NB173_183.out _ | refine IsS59.far ?_ NB173_184.out _) | exact HI173.out)) hb); have n1_ := Aside0.mk (blk_below (g := gb183) (o := .cells #[.int .i64 t174, .int .i64 t175, .int .i64 t176, .int .i64 t177] 23 (0, 0)) (by (with_reducible repeat (first | apply blk_drewN | apply blk_drew | apply blk_alloc)); exact BK183.out) hb); have n2_ := Aside0.mk (blk_below (g := gb184) (o := .cells #[.int .i64 t178, .int .i64 t179] 27 (0, 0)) (by (with_reducible repeat (first | apply blk_drewN | apply blk_drew | apply blk_alloc)); exact BK184.out) hb); have n3_ := Aside0.mk (below_step (by repeat (first | (with_reducible first | exact HB.out | apply below_alloc | apply pw_below_drewN | apply below_drew1 | refine below_set ?_ (IsS59.ge HI173.out) | refine below_set ?_ GE183.out | refine below_set ?_ GE184.out) | exact HB.out)) hb); clear HI173; clear BK183; clear BK184; clear HB; have HI173 := n0_; have BK183 := n1_; have BK184 := n2_; have HB := n3_; clear n0_ n1_ n2_ n3_; (try clear hb); (try clear hb2); (try clear hk); (try clear hi); have hcz94_0 : w93.cell? ⟨gb183, 0, none⟩ = some (.int .i64 t174) := (blk_cell BK183.out 0).trans rfl; have hcz94_1 : w93.cell? ⟨gb183, 1, none⟩ = some (.int .i64 t175) := (blk_cell BK183.out 1).trans rfl; have hcz94_2 : w93.cell? ⟨gb183, 2, none⟩ = some (.int .i64 t176) := (blk_cell BK183.out 2).trans rfl; have hcz94_3 : w93.cell? ⟨gb183, 3, none⟩ = some (.int .i64 t177) := (blk_cell BK183.out 3).trans rfl; have hfz94_0 := blk_frozen BK183.out 0; have hfz94_1 := blk_frozen BK183.out 1; have hfz94_2 := blk_frozen BK183.out 2; have hfz94_3 := blk_frozen BK183.out 3))
             go_meet
             case rel => exact ⟨_, (decide (t185 > 0)), (by first | rfl | (simp; done) | (simp [*]; done)), H', ⟨by first | omega | exact Nat.le_refl _⟩, ⟨by (with_reducible repeat (first | apply blk_drewN | apply blk_drew | apply blk_alloc)); exact BK183.out⟩, ⟨by (with_reducible repeat (first | apply blk_drewN | apply blk_drew | apply blk_alloc)); exact BK184.out⟩, ⟨by repeat (first | (with_reducible first | exact HB.out | apply below_alloc | apply pw_below_drewN | apply below_drew1 | refine below_set ?_ (IsS59.ge HI173.out) | refine below_set ?_ GE183.out | refine below_set ?_ GE184.out) | exact HB.out)⟩⟩
          ·rw [if_neg c77] at H
           have c77b0 : (t185 == 0) = false := beq_eq_false_iff_ne.mpr c77
           have c77b1 : (t185 != 0) = true := bne_iff_ne.mpr c77
           have H' := Aside0.mk H
           clear H
           have hnb95 := NB183_184.out
           have hnc95 := NB184_183.out
           have hnb96 := NB183_173.out
           have hnc96 := NB173_183.out
           have hcz97_0 : w24.cell? ⟨gb183, 0, none⟩ = some (.int .i64 t174) := (blk_cell BK183.out 0).trans rfl
           have hcz97_1 : w24.cell? ⟨gb183, 1, none⟩ = some (.int .i64 t175) := (blk_cell BK183.out 1).trans rfl
           have hcz97_2 : w24.cell? ⟨gb183, 2, none⟩ = some (.int .i64 t176) := (blk_cell BK183.out 2).trans rfl
           have hcz97_3 : w24.cell? ⟨gb183, 3, none⟩ = some (.int .i64 t177) := (blk_cell BK183.out 3).trans rfl
           have hfz97_0 := blk_frozen BK183.out 0
           have hfz97_1 := blk_frozen BK183.out 1
           have hfz97_2 := blk_frozen BK183.out 2
           have hfz97_3 := blk_frozen BK183.out 3
           go_wp2_with (first | (go_at_call 13; (with_reducible refine (control_Adjust.calls t174 t175 t176 t177 (wrap64 (t174 - (wrap64 (Int.tmod a1 2000)))) t187 _ A57.out).mono ?_); rintro e w98 ⟨rfl, hb⟩; have n0_ := Aside0.mk (IsS59.below (by repeat (first | (with_reducible first | exact HI173.out | apply IsS59.alloc | apply IsS59.drewN | apply IsS59.drew | refine IsS59.far ?_ NB173_183.out _ | refine IsS59.far ?_ NB173_184.out _) | exact HI173.out)) hb); have n1_ := Aside0.mk (blk_below (g := gb183) (o := .cells #[.int .i64 t174, .int .i64 t175, .int .i64 t176, .int .i64 t177] 23 (0, 0)) (by (with_reducible repeat (first | apply blk_drewN | apply blk_drew | apply blk_alloc)); exact BK183.out) hb); have n2_ := Aside0.mk (blk_below (g := gb184) (o := .cells #[.int .i64 t178, .int .i64 t179] 27 (0, 0)) (by (with_reducible repeat (first | apply blk_drewN | apply blk_drew | apply blk_alloc)); exact BK184.out) hb); have n3_ := Aside0.mk (below_step (by repeat (first | (with_reducible first | exact HB.out | apply below_alloc | apply pw_below_drewN | apply below_drew1 | refine below_set ?_ (IsS59.ge HI173.out) | refine below_set ?_ GE183.out | refine below_set ?_ GE184.out) | exact HB.out)) hb); clear HI173; clear BK183; clear BK184; clear HB; have HI173 := n0_; have BK183 := n1_; have BK184 := n2_; have HB := n3_; clear n0_ n1_ n2_ n3_; (try clear hb); (try clear hb2); (try clear hk); (try clear hi); have hcz99_0 : w98.cell? ⟨gb183, 0, none⟩ = some (.int .i64 t174) := (blk_cell BK183.out 0).trans rfl; have hcz99_1 : w98.cell? ⟨gb183, 1, none⟩ = some (.int .i64 t175) := (blk_cell BK183.out 1).trans rfl; have hcz99_2 : w98.cell? ⟨gb183, 2, none⟩ = some (.int .i64 t176) := (blk_cell BK183.out 2).trans rfl; have hcz99_3 : w98.cell? ⟨gb183, 3, none⟩ = some (.int .i64 t177) := (blk_cell BK183.out 3).trans rfl; have hfz99_0 := blk_frozen BK183.out 0; have hfz99_1 := blk_frozen BK183.out 1; have hfz99_2 := blk_frozen BK183.out 2; have hfz99_3 := blk_frozen BK183.out 3))
           go_meet
           case rel => exact ⟨_, (false), (by first | rfl | (simp; done) | (simp [*]; done)), H', ⟨by first | omega | exact Nat.le_refl _⟩, ⟨by (with_reducible repeat (first | apply blk_drewN | apply blk_drew | apply blk_alloc)); exact BK183.out⟩, ⟨by (with_reducible repeat (first | apply blk_drewN | apply blk_drew | apply blk_alloc)); exact BK184.out⟩, ⟨by repeat (first | (with_reducible first | exact HB.out | apply below_alloc | apply pw_below_drewN | apply below_drew1 | refine below_set ?_ (IsS59.ge HI173.out) | refine below_set ?_ GE183.out | refine below_set ?_ GE184.out) | exact HB.out)⟩⟩
        ·rw [if_neg c58] at H
         have c58b0 : (t187 == (wrap64 (-t185))) = false := beq_eq_false_iff_ne.mpr c58
         have c58b1 : (t187 != (wrap64 (-t185))) = true := bne_iff_ne.mpr c58
         have H' := Aside0.mk H
         clear H
         have hnb100 := NB183_184.out
         have hnc100 := NB184_183.out
         have hnb101 := NB183_173.out
         have hnc101 := NB173_183.out
         have hcz102_0 : w24.cell? ⟨gb183, 0, none⟩ = some (.int .i64 t174) := (blk_cell BK183.out 0).trans rfl
         have hcz102_1 : w24.cell? ⟨gb183, 1, none⟩ = some (.int .i64 t175) := (blk_cell BK183.out 1).trans rfl
         have hcz102_2 : w24.cell? ⟨gb183, 2, none⟩ = some (.int .i64 t176) := (blk_cell BK183.out 2).trans rfl
         have hcz102_3 : w24.cell? ⟨gb183, 3, none⟩ = some (.int .i64 t177) := (blk_cell BK183.out 3).trans rfl
         have hfz102_0 := blk_frozen BK183.out 0
         have hfz102_1 := blk_frozen BK183.out 1
         have hfz102_2 := blk_frozen BK183.out 2
         have hfz102_3 := blk_frozen BK183.out 3
         go_wp2_with (first | (go_at_call 13; (with_reducible refine (control_Adjust.calls t174 t175 t176 t177 (wrap64 (t174 - (wrap64 (Int.tmod a1 2000)))) t187 _ A57.out).mono ?_); rintro e w103 ⟨rfl, hb⟩; have n0_ := Aside0.mk (IsS59.below (by repeat (first | (with_reducible first | exact HI173.out | apply IsS59.alloc | apply IsS59.drewN | apply IsS59.drew | refine IsS59.far ?_ NB173_183.out _ | refine IsS59.far ?_ NB173_184.out _) | exact HI173.out)) hb); have n1_ := Aside0.mk (blk_below (g := gb183) (o := .cells #[.int .i64 t174, .int .i64 t175, .int .i64 t176, .int .i64 t177] 23 (0, 0)) (by (with_reducible repeat (first | apply blk_drewN | apply blk_drew | apply blk_alloc)); exact BK183.out) hb); have n2_ := Aside0.mk (blk_below (g := gb184) (o := .cells #[.int .i64 t178, .int .i64 t179] 27 (0, 0)) (by (with_reducible repeat (first | apply blk_drewN | apply blk_drew | apply blk_alloc)); exact BK184.out) hb); have n3_ := Aside0.mk (below_step (by repeat (first | (with_reducible first | exact HB.out | apply below_alloc | apply pw_below_drewN | apply below_drew1 | refine below_set ?_ (IsS59.ge HI173.out) | refine below_set ?_ GE183.out | refine below_set ?_ GE184.out) | exact HB.out)) hb); clear HI173; clear BK183; clear BK184; clear HB; have HI173 := n0_; have BK183 := n1_; have BK184 := n2_; have HB := n3_; clear n0_ n1_ n2_ n3_; (try clear hb); (try clear hb2); (try clear hk); (try clear hi)))
         go_meet
         case rel => exact ⟨_, (false), (by first | rfl | (simp; done) | (simp [*]; done)), H', ⟨by first | omega | exact Nat.le_refl _⟩, ⟨by (with_reducible repeat (first | apply blk_drewN | apply blk_drew | apply blk_alloc)); exact BK183.out⟩, ⟨by (with_reducible repeat (first | apply blk_drewN | apply blk_drew | apply blk_alloc)); exact BK184.out⟩, ⟨by repeat (first | (with_reducible first | exact HB.out | apply below_alloc | apply pw_below_drewN | apply below_drew1 | refine below_set ?_ (IsS59.ge HI173.out) | refine below_set ?_ GE183.out | refine below_set ?_ GE184.out) | exact HB.out)⟩⟩
      ·rw [if_neg c28] at H
       have c28b0 : decide (t186 ≤ t177) = false := decide_eq_false c28
       clear c28
       have H' := Aside0.mk H
       clear H
       have hnb104 := NB183_184.out
       have hnc104 := NB184_183.out
       have hnb105 := NB183_173.out
       have hnc105 := NB173_183.out
       have hcz106_0 : w24.cell? ⟨gb183, 0, none⟩ = some (.int .i64 t174) := (blk_cell BK183.out 0).trans rfl
       have hcz106_1 : w24.cell? ⟨gb183, 1, none⟩ = some (.int .i64 t175) := (blk_cell BK183.out 1).trans rfl
       have hcz106_2 : w24.cell? ⟨gb183, 2, none⟩ = some (.int .i64 t176) := (blk_cell BK183.out 2).trans rfl
       have hcz106_3 : w24.cell? ⟨gb183, 3, none⟩ = some (.int .i64 t177) := (blk_cell BK183.out 3).trans rfl
       have hfz106_0 := blk_frozen BK183.out 0
       have hfz106_1 := blk_frozen BK183.out 1
       have hfz106_2 := blk_frozen BK183.out 2
       have hfz106_3 := blk_frozen BK183.out 3
       go_wp2
       go_meet
       case rel => exact ⟨_, (false), (by first | rfl | (simp; done) | (simp [*]; done)), H', ⟨by first | omega | exact Nat.le_refl _⟩, ⟨by (with_reducible repeat (first | apply blk_drewN | apply blk_drew | apply blk_alloc)); exact BK183.out⟩, ⟨by (with_reducible repeat (first | apply blk_drewN | apply blk_drew | apply blk_alloc)); exact BK184.out⟩, ⟨by repeat (first | (with_reducible first | exact HB.out | apply below_alloc | apply pw_below_drewN | apply below_drew1 | refine below_set ?_ (IsS59.ge HI173.out) | refine below_set ?_ GE183.out | refine below_set ?_ GE184.out) | exact HB.out)⟩⟩
     ·rw [if_neg c27] at H
      have c27b0 : decide (0 ≤ t185) = false := decide_eq_false c27
      clear c27
      have H' := Aside0.mk H
      clear H
      go_wp2
      go_meet
      case rel => exact ⟨_, (false), (by first | rfl | (simp; done) | (simp [*]; done)), H', ⟨by first | omega | exact Nat.le_refl _⟩, ⟨by (with_reducible repeat (first | apply blk_drewN | apply blk_drew | apply blk_alloc)); exact BK183.out⟩, ⟨by (with_reducible repeat (first | apply blk_drewN | apply blk_drew | apply blk_alloc)); exact BK184.out⟩, ⟨by repeat (first | (with_reducible first | exact HB.out | apply below_alloc | apply pw_below_drewN | apply below_drew1 | refine below_set ?_ (IsS59.ge HI173.out) | refine below_set ?_ GE183.out | refine below_set ?_ GE184.out) | exact HB.out)⟩⟩
    ·rw [if_neg c26] at H
     have c26b0 : decide (t185 ≤ t186) = false := decide_eq_false c26
     clear c26
     (first | rw [c26b0] | (simp only [i64_w, i32_w]; rw [c26b0]) | skip)
     have H' := Aside0.mk H
     clear H
     go_wp2
     go_meet
     case rel => exact ⟨_, (false), (by first | rfl | (simp; done) | (simp [*]; done)), H', ⟨by first | omega | exact Nat.le_refl _⟩, ⟨by (with_reducible repeat (first | apply blk_drewN | apply blk_drew | apply blk_alloc)); exact BK183.out⟩, ⟨by (with_reducible repeat (first | apply blk_drewN | apply blk_drew | apply blk_alloc)); exact BK184.out⟩, ⟨by repeat (first | (with_reducible first | exact HB.out | apply below_alloc | apply pw_below_drewN | apply below_drew1 | refine below_set ?_ (IsS59.ge HI173.out) | refine below_set ?_ GE183.out | refine below_set ?_ GE184.out) | exact HB.out)⟩⟩
   case rest =>
    clear HC25
    try clear c1
    try clear c2
    try clear p2
    try clear c3
    try clear c4
    try clear c5
    try clear c6
    try clear p6
    try clear c7
    try clear c8
    try clear c9
    try clear c10
    try clear c13
    try clear c26
    try clear c26b0
    try clear c27
    try clear c27b0
    try clear c28
    try clear c28b0
    try clear c29
    try clear c29b0
    try clear c30
    try clear c30b0
    try clear c31
    try clear c31b0
    try clear c32
    try clear c33
    try clear c35
    try clear c35b0
    try clear c35b1
    try clear c36
    try clear c37
    try clear c39
    try clear c40
    try clear c42
    try clear c42b0
    try clear c42b1
    try clear c43
    try clear c43b0
    try clear c44
    try clear c45
    try clear c47
    try clear c47b0
    try clear c47b1
    try clear c48
    try clear c49
    try clear c51
    try clear c52
    try clear c54
    try clear c55
    try clear c58
    try clear c58b0
    try clear c58b1
    try clear c59
    try clear c59b0
    try clear c60
    try clear c60b0
    try clear c61
    try clear c62
    try clear p64
    try clear c66
    try clear c66b0
    try clear c66b1
    try clear c67
    try clear c68
    try clear c72
    try clear c73
    try clear c77
    try clear c77b0
    try clear c77b1
    try clear c78
    try clear c78b0
    try clear c79
    try clear c80
    try clear c84
    try clear c84b0
    try clear c84b1
    try clear c85
    try clear c86
    try clear c90
    try clear c91
    try clear c95
    try clear c96
    try clear c100
    try clear c101
    try clear c104
    try clear c105
    try clear hcz102_0
    try clear hcz102_1
    try clear hcz102_2
    try clear hcz102_3
    try clear hcz106_0
    try clear hcz106_1
    try clear hcz106_2
    try clear hcz106_3
    try clear hcz34_0
    try clear hcz34_1
    try clear hcz34_2
    try clear hcz34_3
    try clear hcz38_0
    try clear hcz38_1
    try clear hcz38_2
    try clear hcz38_3
    try clear hcz41_0
    try clear hcz41_1
    try clear hcz41_2
    try clear hcz41_3
    try clear hcz46_0
    try clear hcz46_1
    try clear hcz46_2
    try clear hcz46_3
    try clear hcz50_0
    try clear hcz50_1
    try clear hcz50_2
    try clear hcz50_3
    try clear hcz53_0
    try clear hcz53_1
    try clear hcz53_2
    try clear hcz53_3
    try clear hcz56_0
    try clear hcz56_1
    try clear hcz56_2
    try clear hcz56_3
    try clear hcz63_0
    try clear hcz63_1
    try clear hcz63_2
    try clear hcz63_3
    try clear hcz65_0
    try clear hcz65_1
    try clear hcz65_2
    try clear hcz65_3
    try clear hcz69_0
    try clear hcz69_1
    try clear hcz69_2
    try clear hcz69_3
    try clear hcz71_0
    try clear hcz71_1
    try clear hcz71_2
    try clear hcz71_3
    try clear hcz74_0
    try clear hcz74_1
    try clear hcz74_2
    try clear hcz74_3
    try clear hcz76_0
    try clear hcz76_1
    try clear hcz76_2
    try clear hcz76_3
    try clear hcz81_0
    try clear hcz81_1
    try clear hcz81_2
    try clear hcz81_3
    try clear hcz83_0
    try clear hcz83_1
    try clear hcz83_2
    try clear hcz83_3
    try clear hcz87_0
    try clear hcz87_1
    try clear hcz87_2
    try clear hcz87_3
    try clear hcz89_0
    try clear hcz89_1
    try clear hcz89_2
    try clear hcz89_3
    try clear hcz92_0
    try clear hcz92_1
    try clear hcz92_2
    try clear hcz92_3
    try clear hcz94_0
    try clear hcz94_1
    try clear hcz94_2
    try clear hcz94_3
    try clear hcz97_0
    try clear hcz97_1
    try clear hcz97_2
    try clear hcz97_3
    try clear hcz99_0
    try clear hcz99_1
    try clear hcz99_2
    try clear hcz99_3
    try clear hfz102_0
    try clear hfz102_1
    try clear hfz102_2
    try clear hfz102_3
    try clear hfz106_0
    try clear hfz106_1
    try clear hfz106_2
    try clear hfz106_3
    try clear hfz34_0
    try clear hfz34_1
    try clear hfz34_2
    try clear hfz34_3
    try clear hfz38_0
    try clear hfz38_1
    try clear hfz38_2
    try clear hfz38_3
    try clear hfz41_0
    try clear hfz41_1
    try clear hfz41_2
    try clear hfz41_3
    try clear hfz46_0
    try clear hfz46_1
    try clear hfz46_2
    try clear hfz46_3
    try clear hfz50_0
    try clear hfz50_1
    try clear hfz50_2
    try clear hfz50_3
    try clear hfz53_0
    try clear hfz53_1
    try clear hfz53_2
    try clear hfz53_3
    try clear hfz56_0
    try clear hfz56_1
    try clear hfz56_2
    try clear hfz56_3
    try clear hfz63_0
    try clear hfz63_1
    try clear hfz63_2
    try clear hfz63_3
    try clear hfz65_0
    try clear hfz65_1
    try clear hfz65_2
    try clear hfz65_3
    try clear hfz69_0
    try clear hfz69_1
    try clear hfz69_2
    try clear hfz69_3
    try clear hfz71_0
    try clear hfz71_1
    try clear hfz71_2
    try clear hfz71_3
    try clear hfz74_0
    try clear hfz74_1
    try clear hfz74_2
    try clear hfz74_3
    try clear hfz76_0
    try clear hfz76_1
    try clear hfz76_2
    try clear hfz76_3
    try clear hfz81_0
    try clear hfz81_1
    try clear hfz81_2
    try clear hfz81_3
    try clear hfz83_0
    try clear hfz83_1
    try clear hfz83_2
    try clear hfz83_3
    try clear hfz87_0
    try clear hfz87_1
    try clear hfz87_2
    try clear hfz87_3
    try clear hfz89_0
    try clear hfz89_1
    try clear hfz89_2
    try clear hfz89_3
    try clear hfz92_0
    try clear hfz92_1
    try clear hfz92_2
    try clear hfz92_3
    try clear hfz94_0
    try clear hfz94_1
    try clear hfz94_2
    try clear hfz94_3
    try clear hfz97_0
    try clear hfz97_1
    try clear hfz97_2
    try clear hfz97_3
    try clear hfz99_0
    try clear hfz99_1
    try clear hfz99_2
    try clear hfz99_3
    obtain ⟨kq, x6_24, rfl, HA, HJ24, BK183, BK184, HB⟩ := hcut
    cases kq with
    | zero => exact absurd HA.out (by simp [soundservicelaw18_ControlAscends.j0])
    | succ kj24 =>
     have H := HA.out
     clear HA
     simp only [soundservicelaw18_ControlAscends.j0] at H
     have H' := Aside0.mk H
     clear H
     go_wp2
     go_meet
     case rel => exact ⟨_, (x6_24), (by first | rfl | (simp; done) | (simp [*]; done)), H', ⟨by have := HJ24.out; first | omega | exact Nat.le_refl _⟩, ⟨by (with_reducible repeat (first | apply blk_drewN | apply blk_drew | apply blk_alloc)); exact BK183.out⟩, ⟨by (with_reducible repeat (first | apply blk_drewN | apply blk_drew | apply blk_alloc)); exact BK184.out⟩, ⟨by repeat (first | (with_reducible first | exact HB.out | apply below_alloc | apply pw_below_drewN | apply below_drew1 | refine below_set ?_ GE183.out | refine below_set ?_ GE184.out) | exact HB.out)⟩⟩
  case rest =>
   clear HC10
   try clear c1
   try clear c2
   try clear p2
   try clear c3
   try clear c4
   try clear c5
   try clear c6
   try clear p6
   try clear c7
   try clear c8
   try clear c9
   try clear c10
   try clear c13
   try clear c26
   try clear c26b0
   try clear c27
   try clear c27b0
   try clear c28
   try clear c28b0
   try clear c29
   try clear c29b0
   try clear c30
   try clear c30b0
   try clear c31
   try clear c31b0
   try clear c32
   try clear c33
   try clear c35
   try clear c35b0
   try clear c35b1
   try clear c36
   try clear c37
   try clear c39
   try clear c40
   try clear c42
   try clear c42b0
   try clear c42b1
   try clear c43
   try clear c43b0
   try clear c44
   try clear c45
   try clear c47
   try clear c47b0
   try clear c47b1
   try clear c48
   try clear c49
   try clear c51
   try clear c52
   try clear c54
   try clear c55
   try clear c58
   try clear c58b0
   try clear c58b1
   try clear c59
   try clear c59b0
   try clear c60
   try clear c60b0
   try clear c61
   try clear c62
   try clear p64
   try clear c66
   try clear c66b0
   try clear c66b1
   try clear c67
   try clear c68
   try clear c72
   try clear c73
   try clear c77
   try clear c77b0
   try clear c77b1
   try clear c78
   try clear c78b0
   try clear c79
   try clear c80
   try clear c84
   try clear c84b0
   try clear c84b1
   try clear c85
   try clear c86
   try clear c90
   try clear c91
   try clear c95
   try clear c96
   try clear c100
   try clear c101
   try clear c104
   try clear c105
   try clear hcz102_0
   try clear hcz102_1
   try clear hcz102_2
   try clear hcz102_3
   try clear hcz106_0
   try clear hcz106_1
   try clear hcz106_2
   try clear hcz106_3
   try clear hcz34_0
   try clear hcz34_1
   try clear hcz34_2
   try clear hcz34_3
   try clear hcz38_0
   try clear hcz38_1
   try clear hcz38_2
   try clear hcz38_3
   try clear hcz41_0
   try clear hcz41_1
   try clear hcz41_2
   try clear hcz41_3
   try clear hcz46_0
   try clear hcz46_1
   try clear hcz46_2
   try clear hcz46_3
   try clear hcz50_0
   try clear hcz50_1
   try clear hcz50_2
   try clear hcz50_3
   try clear hcz53_0
   try clear hcz53_1
   try clear hcz53_2
   try clear hcz53_3
   try clear hcz56_0
   try clear hcz56_1
   try clear hcz56_2
   try clear hcz56_3
   try clear hcz63_0
   try clear hcz63_1
   try clear hcz63_2
   try clear hcz63_3
   try clear hcz65_0
   try clear hcz65_1
   try clear hcz65_2
   try clear hcz65_3
   try clear hcz69_0
   try clear hcz69_1
   try clear hcz69_2
   try clear hcz69_3
   try clear hcz71_0
   try clear hcz71_1
   try clear hcz71_2
   try clear hcz71_3
   try clear hcz74_0
   try clear hcz74_1
   try clear hcz74_2
   try clear hcz74_3
   try clear hcz76_0
   try clear hcz76_1
   try clear hcz76_2
   try clear hcz76_3
   try clear hcz81_0
   try clear hcz81_1
   try clear hcz81_2
   try clear hcz81_3
   try clear hcz83_0
   try clear hcz83_1
   try clear hcz83_2
   try clear hcz83_3
   try clear hcz87_0
   try clear hcz87_1
   try clear hcz87_2
   try clear hcz87_3
   try clear hcz89_0
   try clear hcz89_1
   try clear hcz89_2
   try clear hcz89_3
   try clear hcz92_0
   try clear hcz92_1
   try clear hcz92_2
   try clear hcz92_3
   try clear hcz94_0
   try clear hcz94_1
   try clear hcz94_2
   try clear hcz94_3
   try clear hcz97_0
   try clear hcz97_1
   try clear hcz97_2
   try clear hcz97_3
   try clear hcz99_0
   try clear hcz99_1
   try clear hcz99_2
   try clear hcz99_3
   try clear hfz102_0
   try clear hfz102_1
   try clear hfz102_2
   try clear hfz102_3
   try clear hfz106_0
   try clear hfz106_1
   try clear hfz106_2
   try clear hfz106_3
   try clear hfz34_0
   try clear hfz34_1
   try clear hfz34_2
   try clear hfz34_3
   try clear hfz38_0
   try clear hfz38_1
   try clear hfz38_2
   try clear hfz38_3
   try clear hfz41_0
   try clear hfz41_1
   try clear hfz41_2
   try clear hfz41_3
   try clear hfz46_0
   try clear hfz46_1
   try clear hfz46_2
   try clear hfz46_3
   try clear hfz50_0
   try clear hfz50_1
   try clear hfz50_2
   try clear hfz50_3
   try clear hfz53_0
   try clear hfz53_1
   try clear hfz53_2
   try clear hfz53_3
   try clear hfz56_0
   try clear hfz56_1
   try clear hfz56_2
   try clear hfz56_3
   try clear hfz63_0
   try clear hfz63_1
   try clear hfz63_2
   try clear hfz63_3
   try clear hfz65_0
   try clear hfz65_1
   try clear hfz65_2
   try clear hfz65_3
   try clear hfz69_0
   try clear hfz69_1
   try clear hfz69_2
   try clear hfz69_3
   try clear hfz71_0
   try clear hfz71_1
   try clear hfz71_2
   try clear hfz71_3
   try clear hfz74_0
   try clear hfz74_1
   try clear hfz74_2
   try clear hfz74_3
   try clear hfz76_0
   try clear hfz76_1
   try clear hfz76_2
   try clear hfz76_3
   try clear hfz81_0
   try clear hfz81_1
   try clear hfz81_2
   try clear hfz81_3
   try clear hfz83_0
   try clear hfz83_1
   try clear hfz83_2
   try clear hfz83_3
   try clear hfz87_0
   try clear hfz87_1
   try clear hfz87_2
   try clear hfz87_3
   try clear hfz89_0
   try clear hfz89_1
   try clear hfz89_2
   try clear hfz89_3
   try clear hfz92_0
   try clear hfz92_1
   try clear hfz92_2
   try clear hfz92_3
   try clear hfz94_0
   try clear hfz94_1
   try clear hfz94_2
   try clear hfz94_3
   try clear hfz97_0
   try clear hfz97_1
   try clear hfz97_2
   try clear hfz97_3
   try clear hfz99_0
   try clear hfz99_1
   try clear hfz99_2
   try clear hfz99_3
   try clear p2
   try clear p6
   try clear p64
   obtain ⟨kq, x6_9, rfl, HA, HJ9, BK183, BK184, HB⟩ := hcut
   cases kq with
   | zero => exact absurd HA.out (by simp [soundservicelaw18_ControlAscends.j1])
   | succ kj9 =>
    have H := HA.out
    clear HA
    simp only [soundservicelaw18_ControlAscends.j1] at H
    obtain rfl := Option.some.inj H
    go_wp2
    go_ret
    exact ⟨by first | rfl | (simp [errW_none, errW_some] <;> rfl) | (simp [*, errW_none, errW_some] <;> rfl), by repeat (first | (with_reducible first | exact HB.out | apply below_alloc | apply pw_below_drewN | apply below_drew1 | refine below_set ?_ GE183.out | refine below_set ?_ GE184.out) | exact HB.out)⟩
 ·replace c5 := Bool.eq_false_iff.mpr c5
  subst c5
  have H1 : (some false) = some r := by rw [if_neg (show ¬ (false = true) by decide)] at H; exact H
  clear H
  have H := H1
  clear H1
  obtain rfl := Option.some.inj H
  go_enter Try.func4, Try.ntmps4
  go_wp2_with (first | ((with_reducible refine gate_callee (f := 10) rfl ?_); refine goesL_ (some 14) rfl rfl Try.func10 (by kernel_rfl) rfl #[] rfl (by (try simp only [List.map_toArray, List.map_cons, List.map_nil]); first | done | rfl | (simp only [List.length_drop, List.length_take]; rfl)) ?_; (with_reducible refine (soundservicelaw18_sane.calls  false _ A4.out).mono ?_); rintro e w107 ⟨rfl, hb⟩; refine ⟨_, rfl, ?_⟩; have n0_ := Aside0.mk (below_step (by repeat (first | (with_reducible first | exact HB.out | apply below_alloc | apply pw_below_drewN | apply below_drew1) | exact HB.out)) hb); clear HB; have HB := n0_; clear n0_; (try clear hb); (try clear hb2); (try clear hk); (try clear hi)))
  go_ret
  exact ⟨by first | rfl | (simp [errW_none, errW_some] <;> rfl) | (simp [*, errW_none, errW_some] <;> rfl), by repeat (first | (with_reducible first | exact HB.out | apply below_alloc | apply pw_below_drewN | apply below_drew1) | exact HB.out)⟩

/-- THE ONE PURE STATEMENT of soundservicelaw18_ControlAscends: yours. -/
def soundservicelaw18_ControlAscends.Pure : Prop := ∀ (l0 : List Int) (a1 : Int) (a2 : Int), l0.length ≤ maxLen → l0.length * 1 ≤ 140737488351232 → (∀ x ∈ l0, (Lit.int .u8 x).wf = true) → (Lit.int .u16 a1).wf = true → (Lit.int .u8 a2).wf = true → ∃ k, soundservicelaw18_ControlAscends.f k l0 a1 a2 = some true
theorem soundservicelaw18_ControlAscends.walk (P : soundservicelaw18_ControlAscends.Pure) (a0 : Option Addr) (len0 cap0 : Nat) (z0 : List Int) (a1 : Int) (a2 : Int) (w : World) (w0 : (a0 = none ∧ len0 = 0 ∧ cap0 = 0 ∧ z0 = []) ∨ ∃ x, a0 = some x ∧ len0 ≤ cap0 ∧ cap0 ≤ maxLen ∧ z0.length = cap0 ∧ (∀ i, i < z0.length → w.cell? (x.add i) = some (.int .u8 (z0.getD i 0))) ∧ ∀ n ∈ z0, (Lit.int .u8 n).wf = true) (y0 : len0 * 1 ≤ 140737488351232) (w1 : (Lit.int .u16 a1).wf = true) (w2 : (Lit.int .u8 a2).wf = true) :
  Calls Try.prog 4 #[.slice a0 len0 cap0, .int .u16 a1, .int .u8 a2] w fun e w' => e = .returned (.bool true) ∧ Below w.heap.size w w' := by
 obtain ⟨l0, rfl, hr0, hm0, hw0, hc0⟩ := ReadsInt.ofRowC w0
 obtain ⟨k, h⟩ := P l0 a1 a2 hm0 y0 hw0 w1 w2
 refine (soundservicelaw18_ControlAscends.calls k _ _ l0 a1 a2 true w (Kd.C_of_reads (d := (0 : Int)) (h1 := fun _ => rfl) hr0) hc0 h).mono ?_
 rintro e w' ⟨rfl, hd⟩
 exact ⟨rfl, hd⟩

end Go.Proofs.Ytcnheiemajghiaa.PA
