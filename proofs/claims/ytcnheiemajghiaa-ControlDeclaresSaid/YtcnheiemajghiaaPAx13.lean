/- Walks of functions of the program: each does what its Lean function says. Written by a program of this session (wip/xprint), which runs the printer of the kit with changes. -/
import Derived.Test.YtcnheiemajghiaaPAx0
import Derived.Test.YtcnheiemajghiaaPAx2
import Derived.Test.YtcnheiemajghiaaPAx4
import Derived.Test.YtcnheiemajghiaaPAx8
import Derived.Test.YtcnheiemajghiaaPAx12
namespace Go.Proofs.Ytcnheiemajghiaa.PA
open Go.RowKit Go.Proofs.YtcnheiemajghiaaW.PrintWords Go.Proofs.YtcnheiemajghiaaW.PrintLast Go.Proofs.YtcnheiemajghiaaW.PrintMore
attribute [local go_sem] max2_int min2_int max_two min_two max_three min_three max_four min_four   -- for this text's walks alone
set_option linter.unusedVariables false
set_option linter.unusedSimpArgs false

/-! ### soundservicelaw18_ControlDeclares: function 8 -/
def soundservicelaw18_ControlDeclares.l0 : Nat → List (S54) → Int → Int → List (S54) → Int → Int → Int → Int → Int → List Int → Option (Bool)
 | 0, _, _, _, _, _, _, _, _, _, _ => none
 | k + 1, x2, x4, x5, x14, x15, x231000, x231001, x232000, x232001, x235000 => if x15 > 0 then ((soundservicemade_Dice_Next.f x235000 5).bind fun bt237 => ((soundservicemade_Dice_Next.f bt237.2 5).bind fun bt239 => (if x14.length < 8796093022208 then (soundservicelaw18_ControlDeclares.l0 k x2 x4 x5 (x14 ++ [(⟨wrap64 (62 + bt237.1), wrap64 (62 + bt239.1)⟩ : S54)]) (wrap64 (x15 - 1)) x231000 x231001 x232000 x232001 bt239.2) else (none)))) else ((control_Declared.f k x231000 x231001 x232000 x232001 x4 x5 x2).bind fun t246 => ((soundserviceref18_Declared.f k x231000 x231001 x232000 x232001 x4 x5 x2).bind fun t247 => (if (t246 == t247) = true then ((control_Declared.f k 1 1 64 1 x4 x5 x14).bind fun t248 => ((soundserviceref18_Declared.f k 1 1 64 1 x4 x5 x14).bind fun t249 => (if (t248 == t249) = true then ((control_Declared.f k 1 1 64 1 (Int.tmod (wrap64 ((Int.tmod x4 3000) + 3000)) 3000) (Int.tmod (wrap64 ((Int.tmod x5 20) + 20)) 20) x14).bind fun t250 => ((soundserviceref18_Declared.f k 1 1 64 1 (Int.tmod (wrap64 ((Int.tmod x4 3000) + 3000)) 3000) (Int.tmod (wrap64 ((Int.tmod x5 20) + 20)) 20) x14).bind fun t251 => (some (t250 == t251)))) else (some false)))) else (some false))))
def soundservicelaw18_ControlDeclares.f (k : Nat) (a0_0 : Int) (a0_1 : Int) (a1_0 : Int) (a1_1 : Int) (l2 : List (S54)) (l3 : List Int) (a4 : Int) (a5 : Int) : Option (Bool) := (soundservicelaw18_sane.f).bind fun t232 => (if t232 = true then (if (l2.length : Int) > 30 then (some true) else ((soundservicemade_New.f l3).bind fun t233 => ((soundservicemade_Dice_Next.f t233 20).bind fun bt235 => (soundservicelaw18_ControlDeclares.l0 k l2 a4 a5 ([] : List (S54)) bt235.1 a0_0 a0_1 a1_0 a1_1 bt235.2)))) else (some false))
theorem soundservicelaw18_ControlDeclares.mono_l : ∀ k, (∀ y0 y1 y2 y3 y4 y5 y6 y7 y8 y9, LeO (soundservicelaw18_ControlDeclares.l0 k y0 y1 y2 y3 y4 y5 y6 y7 y8 y9) (soundservicelaw18_ControlDeclares.l0 (k + 1) y0 y1 y2 y3 y4 y5 y6 y7 y8 y9))
 | 0 => fun _ _ _ _ _ _ _ _ _ _ r h => by simp [soundservicelaw18_ControlDeclares.l0] at h
 | k + 1 => by
  have ih0 := soundservicelaw18_ControlDeclares.mono_l k
  ·intro y0 y1 y2 y3 y4 y5 y6 y7 y8 y9
   unfold soundservicelaw18_ControlDeclares.l0
   repeat' first
   | (with_reducible exact ih0 _ _ _ _ _ _ _ _ _ _)
   | (with_reducible exact control_Declared.mono _ _ _ _ _ _ _ _)
   | (with_reducible exact soundserviceref18_Declared.mono _ _ _ _ _ _ _ _)
   | (with_reducible exact LeO.refl _)
   | (with_reducible exact LeO.none _)
   | (with_reducible refine LeO.ite ?_ ?_)
   | (with_reducible refine LeO.bind ?_ (fun _ => ?_))
   | exact ih0 _ _ _ _ _ _ _ _ _ _
   | exact control_Declared.mono _ _ _ _ _ _ _ _
   | exact soundserviceref18_Declared.mono _ _ _ _ _ _ _ _
   | exact LeO.none _
   | refine LeO.ite ?_ ?_
   | refine LeO.bind ?_ (fun _ => ?_)
theorem soundservicelaw18_ControlDeclares.mono : ∀ a0 a1 a2 a3 a4 a5 a6 a7 k, LeO (soundservicelaw18_ControlDeclares.f k a0 a1 a2 a3 a4 a5 a6 a7) (soundservicelaw18_ControlDeclares.f (k + 1) a0 a1 a2 a3 a4 a5 a6 a7) := by
 intro a0 a1 a2 a3 a4 a5 a6 a7 k
 have ih0 := soundservicelaw18_ControlDeclares.mono_l k
 unfold soundservicelaw18_ControlDeclares.f
 repeat' first
   | (with_reducible exact ih0 _ _ _ _ _ _ _ _ _ _)
   | (with_reducible exact control_Declared.mono _ _ _ _ _ _ _ _)
   | (with_reducible exact soundserviceref18_Declared.mono _ _ _ _ _ _ _ _)
   | (with_reducible exact LeO.refl _)
   | (with_reducible exact LeO.none _)
   | (with_reducible refine LeO.ite ?_ ?_)
   | (with_reducible refine LeO.bind ?_ (fun _ => ?_))
   | exact ih0 _ _ _ _ _ _ _ _ _ _
   | exact control_Declared.mono _ _ _ _ _ _ _ _
   | exact soundserviceref18_Declared.mono _ _ _ _ _ _ _ _
   | exact LeO.none _
   | refine LeO.ite ?_ ?_
   | refine LeO.bind ?_ (fun _ => ?_)
def soundservicelaw18_ControlDeclares.T13 : Bool × List (List Nat × List Nat) := (true, [([], []), ([], []), ([], []), ([], []), ([], []), ([0, 1, 2, 3, 4], [0, 1, 2, 3, 4]), ([], []), ([], []), ([], []), ([], []), ([], []), ([6, 7, 8, 9, 10, 5], [6, 7, 8, 9, 10]), ([5, 11], [5, 11]), ([12, 11], [12]), ([13], [13]), ([13], [13]), ([13], [13]), ([13], [13]), ([13], [13]), ([14, 15, 16, 17, 18, 13, 13], [13, 14, 15, 16, 17, 18]), ([13], [13]), ([13], [13]), ([13], [13]), ([13], [13]), ([13], [13]), ([20, 21, 22, 23, 24, 19, 13], [13, 20, 21, 22, 23, 24]), ([19, 25, 13], [13, 19, 25]), ([13, 26], [13, 26]), ([27, 25], [27]), ([28], [28]), ([28], [28]), ([28], [28]), ([31, 28], [28, 31]), ([32, 28], [28, 32]), ([33, 28], [28, 33]), ([28], [28]), ([35, 28], [28, 35]), ([36, 28], [28, 36]), ([37, 28], [28, 37]), ([28], [28]), ([29, 30, 34, 38, 39, 28, 28], [28, 29, 30, 34, 38, 39]), ([28], [28]), ([28], [28]), ([28], [28]), ([43, 28], [28, 43]), ([44, 28], [28, 44]), ([45, 28], [28, 45]), ([28], [28]), ([47, 28], [28, 47]), ([48, 28], [28, 48]), ([49, 28], [28, 49]), ([28], [28]), ([41, 42, 46, 50, 51, 40, 28], [28, 41, 42, 46, 50, 51]), ([40, 52, 28], [28, 40, 52]), ([28, 53], [28, 53]), ([54, 52, 0, 1, 2, 3, 4, 5, 6, 7, 8, 9, 10, 11, 12, 13, 14, 15, 16, 17, 18, 19, 20, 21, 22, 23, 24, 25, 26, 27, 28, 29, 30, 31, 32, 33, 34, 35, 36, 37, 38, 39, 40, 41, 42, 43, 44, 45, 46, 47, 48, 49, 50, 51, 52, 53, 54], [54])])
def soundservicelaw18_ControlDeclares.B13 : List Nat := [0, 0, 0, 0, 0, 31, 0, 0, 0, 0, 0, 2047, 4095, 8191, 16383, 16383, 16383, 16383, 16383, 524287, 16383, 16383, 16383, 16383, 16383, 33554431, 67108863, 134217727, 268435455, 536870911, 536870911, 536870911, 2684354559, 6979321855, 15569256447, 536870911, 34896609279, 103616086015, 241055039487, 536870911, 1099511627775, 536870911, 536870911, 536870911, 8796629893119, 26388815937535, 61573188026367, 536870911, 140738025226239, 422213001936895, 985162955358207, 536870911, 4503599627370495, 9007199254740991, 18014398509481983, 36028797018963967]
theorem soundservicelaw18_ControlDeclares.tab13 : rtab .any (opsOf Try.f8 13) = soundservicelaw18_ControlDeclares.T13 := by kernel_rfl
theorem soundservicelaw18_ControlDeclares.bits13 : waitsOk soundservicelaw18_ControlDeclares.T13.2 soundservicelaw18_ControlDeclares.B13 = true := by kernel_rfl
abbrev soundservicelaw18_ControlDeclares.q0 : Array Bool := #[false, false, false, false, false, false, false, false, false, false, false, false, false, false, false, false, false, false, false, false, false, false, false, false, false, false, false, false, false, false, false, false, false, false, false, false, false, false, false, false, false, false, false, false, false, false, false, false, false, false, false, false, false, false, false, false]
abbrev soundservicelaw18_ControlDeclares.q1 : Array Bool := #[false, false, true, false, false, false, false, false, false, false, false, false, false, false, false, false, false, false, false, false, false, false, false, false, false, false, false, false, false, false, false, false, false, false, false, false, false, false, false, false, false, false, false, false, false, false, false, false, false, false, false, false, false, false, false, false]
abbrev soundservicelaw18_ControlDeclares.q2 : Array Bool := #[false, false, true, true, false, false, false, false, false, false, false, false, false, false, false, false, false, false, false, false, false, false, false, false, false, false, false, false, false, false, false, false, false, false, false, false, false, false, false, false, false, false, false, false, false, false, false, false, false, false, false, false, false, false, false, false]
abbrev soundservicelaw18_ControlDeclares.q3 : Array Bool := #[false, false, true, true, true, false, false, false, false, false, false, false, false, false, false, false, false, false, false, false, false, false, false, false, false, false, false, false, false, false, false, false, false, false, false, false, false, false, false, false, false, false, false, false, false, false, false, false, false, false, false, false, false, false, false, false]
abbrev soundservicelaw18_ControlDeclares.q4 : Array Bool := #[false, false, true, true, true, false, false, false, true, false, false, false, false, false, false, false, false, false, false, false, false, false, false, false, false, false, false, false, false, false, false, false, false, false, false, false, false, false, false, false, false, false, false, false, false, false, false, false, false, false, false, false, false, false, false, false]
abbrev soundservicelaw18_ControlDeclares.q5 : Array Bool := #[false, false, true, true, true, false, false, false, true, true, false, false, false, false, false, false, false, false, false, false, false, false, false, false, false, false, false, false, false, false, false, false, false, false, false, false, false, false, false, false, false, false, false, false, false, false, false, false, false, false, false, false, false, false, false, false]
abbrev soundservicelaw18_ControlDeclares.q6 : Array Bool := #[false, false, true, true, true, false, false, false, true, true, true, false, false, false, false, false, false, false, false, false, false, false, false, false, false, false, false, false, false, false, false, false, false, false, false, false, false, false, false, false, false, false, false, false, false, false, false, false, false, false, false, false, false, false, false, false]
abbrev soundservicelaw18_ControlDeclares.q7 : Array Bool := #[true, false, true, true, true, false, false, false, true, true, true, false, false, false, false, false, false, false, false, false, false, false, false, false, false, false, false, false, false, false, false, false, false, false, false, false, false, false, false, false, false, false, false, false, false, false, false, false, false, false, false, false, false, false, false, false]
abbrev soundservicelaw18_ControlDeclares.q8 : Array Bool := #[true, true, true, true, true, false, false, false, true, true, true, false, false, false, false, false, false, false, false, false, false, false, false, false, false, false, false, false, false, false, false, false, false, false, false, false, false, false, false, false, false, false, false, false, false, false, false, false, false, false, false, false, false, false, false, false]
abbrev soundservicelaw18_ControlDeclares.q9 : Array Bool := #[true, true, true, true, true, false, true, false, true, true, true, false, false, false, false, false, false, false, false, false, false, false, false, false, false, false, false, false, false, false, false, false, false, false, false, false, false, false, false, false, false, false, false, false, false, false, false, false, false, false, false, false, false, false, false, false]
abbrev soundservicelaw18_ControlDeclares.q10 : Array Bool := #[true, true, true, true, true, false, true, true, true, true, true, false, false, false, false, false, false, false, false, false, false, false, false, false, false, false, false, false, false, false, false, false, false, false, false, false, false, false, false, false, false, false, false, false, false, false, false, false, false, false, false, false, false, false, false, false]
abbrev soundservicelaw18_ControlDeclares.q11 : Array Bool := #[true, true, true, true, true, true, true, true, true, true, true, false, false, false, false, false, false, false, false, false, false, false, false, false, false, false, false, false, false, false, false, false, false, false, false, false, false, false, false, false, false, false, false, false, false, false, false, false, false, false, false, false, false, false, false, false]
abbrev soundservicelaw18_ControlDeclares.q12 : Array Bool := #[true, true, true, true, true, true, true, true, true, true, true, true, false, false, false, false, false, false, false, false, false, false, false, false, false, false, false, false, false, false, false, false, false, false, false, false, false, false, false, false, false, false, false, false, false, false, false, false, false, false, false, false, false, false, false, false]
abbrev soundservicelaw18_ControlDeclares.q13 : Array Bool := #[true, true, true, true, true, true, true, true, true, true, true, true, true, false, false, false, false, false, false, false, false, false, false, false, false, false, false, false, false, false, false, false, false, false, false, false, false, false, false, false, false, false, false, false, false, false, false, false, false, false, false, false, false, false, false, false]
abbrev soundservicelaw18_ControlDeclares.q14 : Array Bool := #[true, true, true, true, true, true, true, true, true, true, true, true, true, true, false, false, false, false, false, false, false, false, false, false, false, false, false, false, false, false, false, false, false, false, false, false, false, false, false, false, false, false, false, false, false, false, false, false, false, false, false, false, false, false, false, false]
abbrev soundservicelaw18_ControlDeclares.q15 : Array Bool := #[true, true, true, true, true, true, true, true, true, true, true, true, true, true, false, false, true, false, false, false, false, false, false, false, false, false, false, false, false, false, false, false, false, false, false, false, false, false, false, false, false, false, false, false, false, false, false, false, false, false, false, false, false, false, false, false]
abbrev soundservicelaw18_ControlDeclares.q16 : Array Bool := #[true, true, true, true, true, true, true, true, true, true, true, true, true, true, false, false, true, true, false, false, false, false, false, false, false, false, false, false, false, false, false, false, false, false, false, false, false, false, false, false, false, false, false, false, false, false, false, false, false, false, false, false, false, false, false, false]
abbrev soundservicelaw18_ControlDeclares.q17 : Array Bool := #[true, true, true, true, true, true, true, true, true, true, true, true, true, true, false, false, true, true, true, false, false, false, false, false, false, false, false, false, false, false, false, false, false, false, false, false, false, false, false, false, false, false, false, false, false, false, false, false, false, false, false, false, false, false, false, false]
abbrev soundservicelaw18_ControlDeclares.q18 : Array Bool := #[true, true, true, true, true, true, true, true, true, true, true, true, true, true, false, false, true, true, true, false, false, false, true, false, false, false, false, false, false, false, false, false, false, false, false, false, false, false, false, false, false, false, false, false, false, false, false, false, false, false, false, false, false, false, false, false]
abbrev soundservicelaw18_ControlDeclares.q19 : Array Bool := #[true, true, true, true, true, true, true, true, true, true, true, true, true, true, false, false, true, true, true, false, false, false, true, true, false, false, false, false, false, false, false, false, false, false, false, false, false, false, false, false, false, false, false, false, false, false, false, false, false, false, false, false, false, false, false, false]
abbrev soundservicelaw18_ControlDeclares.q20 : Array Bool := #[true, true, true, true, true, true, true, true, true, true, true, true, true, true, false, false, true, true, true, false, false, false, true, true, true, false, false, false, false, false, false, false, false, false, false, false, false, false, false, false, false, false, false, false, false, false, false, false, false, false, false, false, false, false, false, false]
abbrev soundservicelaw18_ControlDeclares.q21 : Array Bool := #[true, true, true, true, true, true, true, true, true, true, true, true, true, true, true, false, true, true, true, false, false, false, true, true, true, false, false, false, false, false, false, false, false, false, false, false, false, false, false, false, false, false, false, false, false, false, false, false, false, false, false, false, false, false, false, false]
abbrev soundservicelaw18_ControlDeclares.q22 : Array Bool := #[true, true, true, true, true, true, true, true, true, true, true, true, true, true, true, true, true, true, true, false, false, false, true, true, true, false, false, false, false, false, false, false, false, false, false, false, false, false, false, false, false, false, false, false, false, false, false, false, false, false, false, false, false, false, false, false]
abbrev soundservicelaw18_ControlDeclares.q23 : Array Bool := #[true, true, true, true, true, true, true, true, true, true, true, true, true, true, true, true, true, true, true, false, true, false, true, true, true, false, false, false, false, false, false, false, false, false, false, false, false, false, false, false, false, false, false, false, false, false, false, false, false, false, false, false, false, false, false, false]
abbrev soundservicelaw18_ControlDeclares.q24 : Array Bool := #[true, true, true, true, true, true, true, true, true, true, true, true, true, true, true, true, true, true, true, false, true, true, true, true, true, false, false, false, false, false, false, false, false, false, false, false, false, false, false, false, false, false, false, false, false, false, false, false, false, false, false, false, false, false, false, false]
abbrev soundservicelaw18_ControlDeclares.q25 : Array Bool := #[true, true, true, true, true, true, true, true, true, true, true, true, true, true, true, true, true, true, true, true, true, true, true, true, true, false, false, false, false, false, false, false, false, false, false, false, false, false, false, false, false, false, false, false, false, false, false, false, false, false, false, false, false, false, false, false]
abbrev soundservicelaw18_ControlDeclares.q26 : Array Bool := #[true, true, true, true, true, true, true, true, true, true, true, true, true, true, true, true, true, true, true, true, true, true, true, true, true, true, false, false, false, false, false, false, false, false, false, false, false, false, false, false, false, false, false, false, false, false, false, false, false, false, false, false, false, false, false, false]
abbrev soundservicelaw18_ControlDeclares.q27 : Array Bool := #[true, true, true, true, true, true, true, true, true, true, true, true, true, true, true, true, true, true, true, true, true, true, true, true, true, true, true, false, false, false, false, false, false, false, false, false, false, false, false, false, false, false, false, false, false, false, false, false, false, false, false, false, false, false, false, false]
abbrev soundservicelaw18_ControlDeclares.q28 : Array Bool := #[true, true, true, true, true, true, true, true, true, true, true, true, true, true, true, true, true, true, true, true, true, true, true, true, true, true, true, true, false, false, false, false, false, false, false, false, false, false, false, false, false, false, false, false, false, false, false, false, false, false, false, false, false, false, false, false]
abbrev soundservicelaw18_ControlDeclares.q29 : Array Bool := #[true, true, true, true, true, true, true, true, true, true, true, true, true, true, true, true, true, true, true, true, true, true, true, true, true, true, true, true, true, false, false, false, false, false, false, false, false, false, false, false, false, false, false, false, false, false, false, false, false, false, false, false, false, false, false, false]
abbrev soundservicelaw18_ControlDeclares.q30 : Array Bool := #[true, true, true, true, true, true, true, true, true, true, true, true, true, true, true, true, true, true, true, true, true, true, true, true, true, true, true, true, true, false, false, true, false, false, false, false, false, false, false, false, false, false, false, false, false, false, false, false, false, false, false, false, false, false, false, false]
abbrev soundservicelaw18_ControlDeclares.q31 : Array Bool := #[true, true, true, true, true, true, true, true, true, true, true, true, true, true, true, true, true, true, true, true, true, true, true, true, true, true, true, true, true, false, false, true, true, false, false, false, false, false, false, false, false, false, false, false, false, false, false, false, false, false, false, false, false, false, false, false]
abbrev soundservicelaw18_ControlDeclares.q32 : Array Bool := #[true, true, true, true, true, true, true, true, true, true, true, true, true, true, true, true, true, true, true, true, true, true, true, true, true, true, true, true, true, false, false, true, true, true, false, false, false, false, false, false, false, false, false, false, false, false, false, false, false, false, false, false, false, false, false, false]
abbrev soundservicelaw18_ControlDeclares.q33 : Array Bool := #[true, true, true, true, true, true, true, true, true, true, true, true, true, true, true, true, true, true, true, true, true, true, true, true, true, true, true, true, true, false, false, true, true, true, true, false, false, false, false, false, false, false, false, false, false, false, false, false, false, false, false, false, false, false, false, false]
abbrev soundservicelaw18_ControlDeclares.q34 : Array Bool := #[true, true, true, true, true, true, true, true, true, true, true, true, true, true, true, true, true, true, true, true, true, true, true, true, true, true, true, true, true, false, false, true, true, true, true, true, false, false, false, false, false, false, false, false, false, false, false, false, false, false, false, false, false, false, false, false]
abbrev soundservicelaw18_ControlDeclares.q35 : Array Bool := #[true, true, true, true, true, true, true, true, true, true, true, true, true, true, true, true, true, true, true, true, true, true, true, true, true, true, true, true, true, false, false, true, true, true, true, true, true, false, false, false, false, false, false, false, false, false, false, false, false, false, false, false, false, false, false, false]
abbrev soundservicelaw18_ControlDeclares.q36 : Array Bool := #[true, true, true, true, true, true, true, true, true, true, true, true, true, true, true, true, true, true, true, true, true, true, true, true, true, true, true, true, true, false, false, true, true, true, true, true, true, true, false, false, false, false, false, false, false, false, false, false, false, false, false, false, false, false, false, false]
abbrev soundservicelaw18_ControlDeclares.q37 : Array Bool := #[true, true, true, true, true, true, true, true, true, true, true, true, true, true, true, true, true, true, true, true, true, true, true, true, true, true, true, true, true, false, false, true, true, true, true, true, true, true, true, false, false, false, false, false, false, false, false, false, false, false, false, false, false, false, false, false]
abbrev soundservicelaw18_ControlDeclares.q38 : Array Bool := #[true, true, true, true, true, true, true, true, true, true, true, true, true, true, true, true, true, true, true, true, true, true, true, true, true, true, true, true, true, false, false, true, true, true, true, true, true, true, true, true, false, false, false, false, false, false, false, false, false, false, false, false, false, false, false, false]
abbrev soundservicelaw18_ControlDeclares.q39 : Array Bool := #[true, true, true, true, true, true, true, true, true, true, true, true, true, true, true, true, true, true, true, true, true, true, true, true, true, true, true, true, true, false, false, true, true, true, true, true, true, true, true, true, false, false, false, true, false, false, false, false, false, false, false, false, false, false, false, false]
abbrev soundservicelaw18_ControlDeclares.q40 : Array Bool := #[true, true, true, true, true, true, true, true, true, true, true, true, true, true, true, true, true, true, true, true, true, true, true, true, true, true, true, true, true, false, false, true, true, true, true, true, true, true, true, true, false, false, false, true, true, false, false, false, false, false, false, false, false, false, false, false]
abbrev soundservicelaw18_ControlDeclares.q41 : Array Bool := #[true, true, true, true, true, true, true, true, true, true, true, true, true, true, true, true, true, true, true, true, true, true, true, true, true, true, true, true, true, false, false, true, true, true, true, true, true, true, true, true, false, false, false, true, true, true, false, false, false, false, false, false, false, false, false, false]
abbrev soundservicelaw18_ControlDeclares.q42 : Array Bool := #[true, true, true, true, true, true, true, true, true, true, true, true, true, true, true, true, true, true, true, true, true, true, true, true, true, true, true, true, true, false, false, true, true, true, true, true, true, true, true, true, false, false, false, true, true, true, true, false, false, false, false, false, false, false, false, false]
abbrev soundservicelaw18_ControlDeclares.q43 : Array Bool := #[true, true, true, true, true, true, true, true, true, true, true, true, true, true, true, true, true, true, true, true, true, true, true, true, true, true, true, true, true, false, false, true, true, true, true, true, true, true, true, true, false, false, false, true, true, true, true, true, false, false, false, false, false, false, false, false]
abbrev soundservicelaw18_ControlDeclares.q44 : Array Bool := #[true, true, true, true, true, true, true, true, true, true, true, true, true, true, true, true, true, true, true, true, true, true, true, true, true, true, true, true, true, false, false, true, true, true, true, true, true, true, true, true, false, false, false, true, true, true, true, true, true, false, false, false, false, false, false, false]
abbrev soundservicelaw18_ControlDeclares.q45 : Array Bool := #[true, true, true, true, true, true, true, true, true, true, true, true, true, true, true, true, true, true, true, true, true, true, true, true, true, true, true, true, true, false, false, true, true, true, true, true, true, true, true, true, false, false, false, true, true, true, true, true, true, true, false, false, false, false, false, false]
abbrev soundservicelaw18_ControlDeclares.q46 : Array Bool := #[true, true, true, true, true, true, true, true, true, true, true, true, true, true, true, true, true, true, true, true, true, true, true, true, true, true, true, true, true, false, false, true, true, true, true, true, true, true, true, true, false, false, false, true, true, true, true, true, true, true, true, false, false, false, false, false]
abbrev soundservicelaw18_ControlDeclares.q47 : Array Bool := #[true, true, true, true, true, true, true, true, true, true, true, true, true, true, true, true, true, true, true, true, true, true, true, true, true, true, true, true, true, false, false, true, true, true, true, true, true, true, true, true, false, false, false, true, true, true, true, true, true, true, true, true, false, false, false, false]
abbrev soundservicelaw18_ControlDeclares.q48 : Array Bool := #[true, true, true, true, true, true, true, true, true, true, true, true, true, true, true, true, true, true, true, true, true, true, true, true, true, true, true, true, true, true, false, true, true, true, true, true, true, true, true, true, false, false, false, true, true, true, true, true, true, true, true, true, false, false, false, false]
abbrev soundservicelaw18_ControlDeclares.q49 : Array Bool := #[true, true, true, true, true, true, true, true, true, true, true, true, true, true, true, true, true, true, true, true, true, true, true, true, true, true, true, true, true, true, true, true, true, true, true, true, true, true, true, true, false, false, false, true, true, true, true, true, true, true, true, true, false, false, false, false]
abbrev soundservicelaw18_ControlDeclares.q50 : Array Bool := #[true, true, true, true, true, true, true, true, true, true, true, true, true, true, true, true, true, true, true, true, true, true, true, true, true, true, true, true, true, true, true, true, true, true, true, true, true, true, true, true, false, true, false, true, true, true, true, true, true, true, true, true, false, false, false, false]
abbrev soundservicelaw18_ControlDeclares.q51 : Array Bool := #[true, true, true, true, true, true, true, true, true, true, true, true, true, true, true, true, true, true, true, true, true, true, true, true, true, true, true, true, true, true, true, true, true, true, true, true, true, true, true, true, false, true, true, true, true, true, true, true, true, true, true, true, false, false, false, false]
abbrev soundservicelaw18_ControlDeclares.q52 : Array Bool := #[true, true, true, true, true, true, true, true, true, true, true, true, true, true, true, true, true, true, true, true, true, true, true, true, true, true, true, true, true, true, true, true, true, true, true, true, true, true, true, true, true, true, true, true, true, true, true, true, true, true, true, true, false, false, false, false]
abbrev soundservicelaw18_ControlDeclares.q53 : Array Bool := #[true, true, true, true, true, true, true, true, true, true, true, true, true, true, true, true, true, true, true, true, true, true, true, true, true, true, true, true, true, true, true, true, true, true, true, true, true, true, true, true, true, true, true, true, true, true, true, true, true, true, true, true, true, false, false, false]
abbrev soundservicelaw18_ControlDeclares.q54 : Array Bool := #[true, true, true, true, true, true, true, true, true, true, true, true, true, true, true, true, true, true, true, true, true, true, true, true, true, true, true, true, true, true, true, true, true, true, true, true, true, true, true, true, true, true, true, true, true, true, true, true, true, true, true, true, true, true, false, false]
abbrev soundservicelaw18_ControlDeclares.q55 : Array Bool := #[true, true, true, true, true, true, true, true, true, true, true, true, true, true, true, true, true, true, true, true, true, true, true, true, true, true, true, true, true, true, true, true, true, true, true, true, true, true, true, true, true, true, true, true, true, true, true, true, true, true, true, true, true, true, true, false]
abbrev soundservicelaw18_ControlDeclares.q56 : Array Bool := #[true, true, true, true, true, true, true, true, true, true, true, true, true, true, true, true, true, true, true, true, true, true, true, true, true, true, true, true, true, true, true, true, true, true, true, true, true, true, true, true, true, true, true, true, true, true, true, true, true, true, true, true, true, true, true, true]
abbrev soundservicelaw18_ControlDeclares.q57 : Array Bool := #[true, true, true, true, true, true, true, true, true, true, true, true, true, true, true, true, true, true, true, true, true, true, true, true, true, true, true, true, true, true, false, false, false, false, false, false, false, false, false, false, false, false, false, false, false, false, false, false, false, false, false, false, false, false, false, false]
abbrev soundservicelaw18_ControlDeclares.q58 : Array Bool := #[true, true, true, true, true, true, true, true, true, true, true, true, true, true, true, true, true, true, true, true, true, true, true, true, true, true, true, true, true, true, true, false, false, false, false, false, false, false, false, false, false, false, false, false, false, false, false, false, false, false, false, false, false, false, false, false]
abbrev soundservicelaw18_ControlDeclares.q59 : Array Bool := #[true, true, true, true, true, true, true, true, true, true, true, true, true, true, true, true, true, true, true, true, true, true, true, true, true, true, true, true, true, true, true, true, false, false, false, false, false, false, false, false, false, false, false, false, false, false, false, false, false, false, false, false, false, false, false, false]
abbrev soundservicelaw18_ControlDeclares.q60 : Array Bool := #[true, true, true, true, true, true, true, true, true, true, true, true, true, true, true, true, true, true, true, true, true, true, true, true, true, true, true, true, true, true, true, true, true, false, false, false, false, false, false, false, false, false, false, false, false, false, false, false, false, false, false, false, false, false, false, false]
abbrev soundservicelaw18_ControlDeclares.q61 : Array Bool := #[true, true, true, true, true, true, true, true, true, true, true, true, true, true, true, true, true, true, true, true, true, true, true, true, true, true, true, true, true, true, true, true, true, true, false, false, false, false, false, false, false, false, false, false, false, false, false, false, false, false, false, false, false, false, false, false]
abbrev soundservicelaw18_ControlDeclares.q62 : Array Bool := #[true, true, true, true, true, true, true, true, true, true, true, true, true, true, true, true, true, true, true, true, true, true, true, true, true, true, true, true, true, true, true, true, true, true, true, false, false, false, false, false, false, false, false, false, false, false, false, false, false, false, false, false, false, false, false, false]
abbrev soundservicelaw18_ControlDeclares.q63 : Array Bool := #[true, true, true, true, true, true, true, true, true, true, true, true, true, true, true, true, true, true, true, true, true, true, true, true, true, true, true, true, true, true, true, true, true, true, true, true, false, false, false, false, false, false, false, false, false, false, false, false, false, false, false, false, false, false, false, false]
abbrev soundservicelaw18_ControlDeclares.q64 : Array Bool := #[true, true, true, true, true, true, true, true, true, true, true, true, true, true, true, true, true, true, true, true, true, true, true, true, true, true, true, true, true, true, true, true, true, true, true, true, true, false, false, false, false, false, false, false, false, false, false, false, false, false, false, false, false, false, false, false]
abbrev soundservicelaw18_ControlDeclares.q65 : Array Bool := #[true, true, true, true, true, true, true, true, true, true, true, true, true, true, true, true, true, true, true, true, true, true, true, true, true, true, true, true, true, true, true, true, true, true, true, true, true, true, false, false, false, false, false, false, false, false, false, false, false, false, false, false, false, false, false, false]
abbrev soundservicelaw18_ControlDeclares.q66 : Array Bool := #[true, true, true, true, true, true, true, true, true, true, true, true, true, true, true, true, true, true, true, true, true, true, true, true, true, true, true, true, true, true, true, true, true, true, true, true, true, true, true, false, false, false, false, false, false, false, false, false, false, false, false, false, false, false, false, false]
abbrev soundservicelaw18_ControlDeclares.q67 : Array Bool := #[true, true, true, true, true, true, true, true, true, true, true, true, true, true, true, true, true, true, true, true, true, true, true, true, true, true, true, true, true, true, true, true, true, true, true, true, true, true, true, true, false, false, false, false, false, false, false, false, false, false, false, false, false, false, false, false]
abbrev soundservicelaw18_ControlDeclares.q68 : Array Bool := #[true, true, true, true, true, true, true, true, true, true, true, true, true, true, true, true, true, true, true, true, true, true, true, true, true, true, true, true, true, true, true, true, true, true, true, true, true, true, true, true, true, false, false, false, false, false, false, false, false, false, false, false, false, false, false, false]
abbrev soundservicelaw18_ControlDeclares.q69 : Array Bool := #[true, true, true, true, true, true, true, true, true, true, true, true, true, true, true, true, true, true, true, true, true, true, true, true, true, true, true, true, true, true, true, true, true, true, true, true, true, true, true, true, true, true, false, false, false, false, false, false, false, false, false, false, false, false, false, false]
abbrev soundservicelaw18_ControlDeclares.q70 : Array Bool := #[true, true, true, true, true, true, true, true, true, true, true, true, true, true, true, true, true, true, true, true, true, true, true, true, true, true, true, true, true, true, true, true, true, true, true, true, true, true, true, true, true, true, true, false, false, false, false, false, false, false, false, false, false, false, false, false]
abbrev soundservicelaw18_ControlDeclares.q71 : Array Bool := #[true, true, true, true, true, true, true, true, true, true, true, true, true, true, true, true, true, true, true, true, true, true, true, true, true, true, true, true, true, true, true, true, true, true, true, true, true, true, true, true, true, true, true, true, false, false, false, false, false, false, false, false, false, false, false, false]
abbrev soundservicelaw18_ControlDeclares.q72 : Array Bool := #[true, true, true, true, true, true, true, true, true, true, true, true, true, true, true, true, true, true, true, true, true, true, true, true, true, true, true, true, true, true, true, true, true, true, true, true, true, true, true, true, true, true, true, true, true, false, false, false, false, false, false, false, false, false, false, false]
abbrev soundservicelaw18_ControlDeclares.q73 : Array Bool := #[true, true, true, true, true, true, true, true, true, true, true, true, true, true, true, true, true, true, true, true, true, true, true, true, true, true, true, true, true, true, true, true, true, true, true, true, true, true, true, true, true, true, true, true, true, true, false, false, false, false, false, false, false, false, false, false]
abbrev soundservicelaw18_ControlDeclares.q74 : Array Bool := #[true, true, true, true, true, true, true, true, true, true, true, true, true, true, true, true, true, true, true, true, true, true, true, true, true, true, true, true, true, true, true, true, true, true, true, true, true, true, true, true, true, true, true, true, true, true, true, false, false, false, false, false, false, false, false, false]
abbrev soundservicelaw18_ControlDeclares.q75 : Array Bool := #[true, true, true, true, true, true, true, true, true, true, true, true, true, true, true, true, true, true, true, true, true, true, true, true, true, true, true, true, true, true, true, true, true, true, true, true, true, true, true, true, true, true, true, true, true, true, true, true, false, false, false, false, false, false, false, false]
abbrev soundservicelaw18_ControlDeclares.q76 : Array Bool := #[true, true, true, true, true, true, true, true, true, true, true, true, true, true, true, true, true, true, true, true, true, true, true, true, true, true, true, true, true, true, true, true, true, true, true, true, true, true, true, true, true, true, true, true, true, true, true, true, true, false, false, false, false, false, false, false]
abbrev soundservicelaw18_ControlDeclares.q77 : Array Bool := #[true, true, true, true, true, true, true, true, true, true, true, true, true, true, true, true, true, true, true, true, true, true, true, true, true, true, true, true, true, true, true, true, true, true, true, true, true, true, true, true, true, true, true, true, true, true, true, true, true, true, false, false, false, false, false, false]
abbrev soundservicelaw18_ControlDeclares.q78 : Array Bool := #[true, true, true, true, true, true, true, true, true, true, true, true, true, true, true, true, true, true, true, true, true, true, true, true, true, true, true, true, true, true, true, true, true, true, true, true, true, true, true, true, true, true, true, true, true, true, true, true, true, true, true, false, false, false, false, false]
abbrev soundservicelaw18_ControlDeclares.q79 : Array Bool := #[true, true, true, true, true, true, true, true, true, true, true, true, true, true, true, false, false, false, false, false, false, false, false, false, false, false, false, false, false, false, false, false, false, false, false, false, false, false, false, false, false, false, false, false, false, false, false, false, false, false, false, false, false, false, false, false]
abbrev soundservicelaw18_ControlDeclares.q80 : Array Bool := #[true, true, true, true, true, true, true, true, true, true, true, true, true, true, true, true, false, false, false, false, false, false, false, false, false, false, false, false, false, false, false, false, false, false, false, false, false, false, false, false, false, false, false, false, false, false, false, false, false, false, false, false, false, false, false, false]
abbrev soundservicelaw18_ControlDeclares.q81 : Array Bool := #[true, true, true, true, true, true, true, true, true, true, true, true, true, true, true, true, true, false, false, false, false, false, false, false, false, false, false, false, false, false, false, false, false, false, false, false, false, false, false, false, false, false, false, false, false, false, false, false, false, false, false, false, false, false, false, false]
abbrev soundservicelaw18_ControlDeclares.q82 : Array Bool := #[true, true, true, true, true, true, true, true, true, true, true, true, true, true, true, true, true, true, false, false, false, false, false, false, false, false, false, false, false, false, false, false, false, false, false, false, false, false, false, false, false, false, false, false, false, false, false, false, false, false, false, false, false, false, false, false]
abbrev soundservicelaw18_ControlDeclares.q83 : Array Bool := #[true, true, true, true, true, true, true, true, true, true, true, true, true, true, true, true, true, true, true, false, false, false, false, false, false, false, false, false, false, false, false, false, false, false, false, false, false, false, false, false, false, false, false, false, false, false, false, false, false, false, false, false, false, false, false, false]
abbrev soundservicelaw18_ControlDeclares.q84 : Array Bool := #[true, true, true, true, true, true, true, true, true, true, true, true, true, true, true, true, true, true, true, true, false, false, false, false, false, false, false, false, false, false, false, false, false, false, false, false, false, false, false, false, false, false, false, false, false, false, false, false, false, false, false, false, false, false, false, false]
abbrev soundservicelaw18_ControlDeclares.q85 : Array Bool := #[true, true, true, true, true, true, true, true, true, true, true, true, true, true, true, true, true, true, true, true, true, false, false, false, false, false, false, false, false, false, false, false, false, false, false, false, false, false, false, false, false, false, false, false, false, false, false, false, false, false, false, false, false, false, false, false]
abbrev soundservicelaw18_ControlDeclares.q86 : Array Bool := #[true, true, true, true, true, true, true, true, true, true, true, true, true, true, true, true, true, true, true, true, true, true, false, false, false, false, false, false, false, false, false, false, false, false, false, false, false, false, false, false, false, false, false, false, false, false, false, false, false, false, false, false, false, false, false, false]
abbrev soundservicelaw18_ControlDeclares.q87 : Array Bool := #[true, true, true, true, true, true, true, true, true, true, true, true, true, true, true, true, true, true, true, true, true, true, true, false, false, false, false, false, false, false, false, false, false, false, false, false, false, false, false, false, false, false, false, false, false, false, false, false, false, false, false, false, false, false, false, false]
abbrev soundservicelaw18_ControlDeclares.q88 : Array Bool := #[true, true, true, true, true, true, true, true, true, true, true, true, true, true, true, true, true, true, true, true, true, true, true, true, false, false, false, false, false, false, false, false, false, false, false, false, false, false, false, false, false, false, false, false, false, false, false, false, false, false, false, false, false, false, false, false]
set_option maxHeartbeats 8000000 in
set_option maxRecDepth 100000 in
theorem soundservicelaw18_ControlDeclares.calls (k : Nat) (a0_0 : Int) (a0_1 : Int) (a1_0 : Int) (a1_1 : Int) (A2 : Option Addr) (c2 : Nat) (l2 : List (S54)) (A3 : Option Addr) (c3 : Nat) (l3 : List Int) (a4 : Int) (a5 : Int) (r : Bool) (w : World) (hr2 : Kd.C k54 w A2 l2.length l2) (hc2 : l2.length ≤ c2) (hr3 : Kd.C (Kd.int .u8) w A3 l3.length l3) (hc3 : l3.length ≤ c3) (h : soundservicelaw18_ControlDeclares.f k a0_0 a0_1 a1_0 a1_1 l2 l3 a4 a5 = some r) :
  Calls Try.prog 8 #[.agg #[.int .i64 a0_0, .int .i64 a0_1], .agg #[.int .i64 a1_0, .int .i64 a1_1], .slice A2 l2.length c2, .slice A3 l3.length c3, .int .i64 a4, .int .i64 a5] w fun e w' => e = .returned (.bool r) ∧ Below w.heap.size w w' := by
 have hu27 := Try.underlying27
 have hu54 := Try.underlying54
 have HR2 := Am hr2
 have HC2 := Am hc2
 clear hr2 hc2
 have HR3 := Am hr3
 have HC3 := Am hc3
 clear hr3 hc3
 have HB := Am (Below.refl w.heap.size w)
 have H : ((soundservicelaw18_sane.f).bind fun t232 => (if t232 = true then (if (l2.length : Int) > 30 then (some true) else ((soundservicemade_New.f l3).bind fun t233 => ((soundservicemade_Dice_Next.f t233 20).bind fun bt235 => (soundservicelaw18_ControlDeclares.l0 k l2 a4 a5 ([] : List (S54)) bt235.1 a0_0 a0_1 a1_0 a1_1 bt235.2)))) else (some false))) = some r := h
 clear h
 replace H := Option.bind_eq_some_iff.mp H
 obtain ⟨t232, A70, H⟩ := H
 replace H : (if t232 = true then (if (l2.length : Int) > 30 then (some true) else ((soundservicemade_New.f l3).bind fun t233 => ((soundservicemade_Dice_Next.f t233 20).bind fun bt235 => (soundservicelaw18_ControlDeclares.l0 k l2 a4 a5 ([] : List (S54)) bt235.1 a0_0 a0_1 a1_0 a1_1 bt235.2)))) else (some false)) = some r := H
 have A7 := Am A70
 clear A70
 by_cases c8 : t232 = true
 ·subst c8
  have H1 : (if (l2.length : Int) > 30 then (some true) else ((soundservicemade_New.f l3).bind fun t233 => ((soundservicemade_Dice_Next.f t233 20).bind fun bt235 => (soundservicelaw18_ControlDeclares.l0 k l2 a4 a5 ([] : List (S54)) bt235.1 a0_0 a0_1 a1_0 a1_1 bt235.2)))) = some r := by rw [if_pos rfl] at H; exact H
  clear H; have H := H1; clear H1
  by_cases c9 : (l2.length : Int) > 30
  ·rw [if_pos c9] at H
   have c9b0 : decide (30 < (l2.length : Int)) = true := decide_eq_true c9
   have c9b1 : decide (30 < l2.length) = true := decide_eq_true (by omega)
   clear c9
   obtain rfl := Option.some.inj H
   go_enter Try.func8, Try.ntmps8
   go_wp2_with (first | ((with_reducible refine gate_dst (N := 6) rfl ?_); refine box_event ?hg (N := 6) ?hd (cs := #[.int .i64 a0_0, .int .i64 a0_1]) (t := 27) ?hr ?_; (case hd => rfl); (case hg => rfl); (case hr => first | (go_simp; done) | (go_simp; rfl)); intro gb230 hg w10 hbox hb; have n0_ := Am (below_step (by repeat (first | (with_reducible first | exact HB.out | apply bA | apply bN | apply bD) | exact HB.out)) hb); have n1_ := Am (hbox); have n2_ := Am ((by rw [hg]; exact (below_size (by repeat (first | (with_reducible first | exact HB.out | apply bA | apply bN | apply bD) | exact HB.out))) : w.heap.size ≤ gb230)); have n3_ := Am ((by rw [hg]; exact (below_size (by repeat (first | (with_reducible first | exact HB.out | apply bA | apply bN | apply bD) | exact HB.out))) : w.heap.size ≤ gb230)); clear HB; have HB := n0_; have BK230 := n1_; have GW230 := n2_; have GE230 := n3_; clear n0_ n1_ n2_ n3_ hb hbox hg) | ((with_reducible refine gate_dst (N := 7) rfl ?_); refine box_event ?hg (N := 7) ?hd (cs := #[.int .i64 a1_0, .int .i64 a1_1]) (t := 27) ?hr ?_; (case hd => rfl); (case hg => rfl); (case hr => first | (go_simp; done) | (go_simp; rfl)); intro gb231 hg w11 hbox hb; have n0_ := Am (blk_below (g := gb230) (o := .cells #[.int .i64 a0_0, .int .i64 a0_1] 27 (0, 0)) (by (with_reducible repeat (first | apply kN | apply kD | apply kA)); exact BK230.out) hb); have n1_ := Am (below_step (by repeat (first | (with_reducible first | exact HB.out | apply bA | apply bN | apply bD | refine bS ?_ GE230.out) | exact HB.out)) hb); have n2_ := Am (hbox); have n3_ := Am ((by rw [hg]; exact (below_size (by repeat (first | (with_reducible first | exact HB.out | apply bA | apply bN | apply bD | refine bS ?_ GE230.out) | exact HB.out))) : w.heap.size ≤ gb231)); have n4_ := Am ((by rw [hg]; exact (below_size (by repeat (first | (with_reducible first | exact HB.out | apply bA | apply bN | apply bD | refine bS ?_ GE230.out) | exact HB.out))) : w.heap.size ≤ gb231)); have n5_ := Am ((by rw [hg]; exact Nat.ne_of_lt (blk_lt (g := gb230) (o := .cells #[.int .i64 a0_0, .int .i64 a0_1] 27 (0, 0)) (by (with_reducible repeat (first | apply kN | apply kD | apply kA)); exact BK230.out)) : gb230 ≠ gb231)); have n6_ := Am ((by rw [hg]; exact Nat.ne_of_gt (blk_lt (g := gb230) (o := .cells #[.int .i64 a0_0, .int .i64 a0_1] 27 (0, 0)) (by (with_reducible repeat (first | apply kN | apply kD | apply kA)); exact BK230.out)) : gb231 ≠ gb230)); clear BK230 HB; have BK230 := n0_; have HB := n1_; have BK231 := n2_; have GW231 := n3_; have GE231 := n4_; have NB230_231 := n5_; have NB231_230 := n6_; clear n0_ n1_ n2_ n3_ n4_ n5_ n6_ hb hbox hg) | ((with_reducible refine gate_callee (f := 10) rfl ?_); refine goesL_ (some 18) rfl rfl Try.func10 (by kernel_rfl) rfl #[] rfl (by (try simp only [List.map_toArray, List.map_cons, List.map_nil]); first | done | rfl | (simp only [List.length_drop, List.length_take]; rfl)) ?_; (with_reducible refine (soundservicelaw18_sane.calls  true _ A7.out).mono ?_); rintro e w12 ⟨rfl, hb⟩; refine ⟨_, rfl, ?_⟩; have n0_ := Am (blk_below (g := gb230) (o := .cells #[.int .i64 a0_0, .int .i64 a0_1] 27 (0, 0)) (by (with_reducible repeat (first | apply kN | apply kD | apply kA)); exact BK230.out) hb); have n1_ := Am (blk_below (g := gb231) (o := .cells #[.int .i64 a1_0, .int .i64 a1_1] 27 (0, 0)) (by (with_reducible repeat (first | apply kN | apply kD | apply kA)); exact BK231.out) hb); have n2_ := Am (below_step (by repeat (first | (with_reducible first | exact HB.out | apply bA | apply bN | apply bD | refine bS ?_ GE230.out | refine bS ?_ GE231.out) | exact HB.out)) hb); clear BK230 BK231 HB; have BK230 := n0_; have BK231 := n1_; have HB := n2_; clear n0_ n1_ n2_; (try clear hb); (try clear hb2); (try clear hk); (try clear hi)))
   go_ret
   exact ⟨by first | rfl | (simp [errW_none, errW_some] <;> rfl) | (simp [*, errW_none, errW_some] <;> rfl), by repeat (first | (with_reducible first | exact HB.out | apply bA | apply bN | apply bD | refine bS ?_ GE230.out | refine bS ?_ GE231.out) | exact HB.out)⟩
  ·rw [if_neg c9] at H
   have c9b0 : decide (30 < (l2.length : Int)) = false := decide_eq_false c9
   have c9b1 : decide (30 < l2.length) = false := decide_eq_false (by omega)
   clear c9
   replace H := Option.bind_eq_some_iff.mp H
   obtain ⟨t233, A130, H⟩ := H
   replace H : ((soundservicemade_Dice_Next.f t233 20).bind fun bt235 => (soundservicelaw18_ControlDeclares.l0 k l2 a4 a5 ([] : List (S54)) bt235.1 a0_0 a0_1 a1_0 a1_1 bt235.2)) = some r := H
   have A13 := Am A130
   clear A130
   replace H := Option.bind_eq_some_iff.mp H
   obtain ⟨⟨t235, t236⟩, A140, H⟩ := H
   replace H : (soundservicelaw18_ControlDeclares.l0 k l2 a4 a5 ([] : List (S54)) t235 a0_0 a0_1 a1_0 a1_1 t236) = some r := H
   have A14 := Am A140
   clear A140
   have H' := Am H
   clear H
   go_enter Try.func8, Try.ntmps8
   go_wp2_with (first | ((with_reducible refine gate_dst (N := 6) rfl ?_); refine box_event ?hg (N := 6) ?hd (cs := #[.int .i64 a0_0, .int .i64 a0_1]) (t := 27) ?hr ?_; (case hd => rfl); (case hg => rfl); (case hr => first | (go_simp; done) | (go_simp; rfl)); intro gb230 hg w15 hbox hb; have n0_ := Am (below_step (by repeat (first | (with_reducible first | exact HB.out | apply bA | apply bN | apply bD) | exact HB.out)) hb); have n1_ := Am (hbox); have n2_ := Am ((by rw [hg]; exact (below_size (by repeat (first | (with_reducible first | exact HB.out | apply bA | apply bN | apply bD) | exact HB.out))) : w.heap.size ≤ gb230)); have n3_ := Am ((by rw [hg]; exact (below_size (by repeat (first | (with_reducible first | exact HB.out | apply bA | apply bN | apply bD) | exact HB.out))) : w.heap.size ≤ gb230)); clear HB; have HB := n0_; have BK230 := n1_; have GW230 := n2_; have GE230 := n3_; clear n0_ n1_ n2_ n3_ hb hbox hg) | ((with_reducible refine gate_dst (N := 7) rfl ?_); refine box_event ?hg (N := 7) ?hd (cs := #[.int .i64 a1_0, .int .i64 a1_1]) (t := 27) ?hr ?_; (case hd => rfl); (case hg => rfl); (case hr => first | (go_simp; done) | (go_simp; rfl)); intro gb231 hg w16 hbox hb; have n0_ := Am (blk_below (g := gb230) (o := .cells #[.int .i64 a0_0, .int .i64 a0_1] 27 (0, 0)) (by (with_reducible repeat (first | apply kN | apply kD | apply kA)); exact BK230.out) hb); have n1_ := Am (below_step (by repeat (first | (with_reducible first | exact HB.out | apply bA | apply bN | apply bD | refine bS ?_ GE230.out) | exact HB.out)) hb); have n2_ := Am (hbox); have n3_ := Am ((by rw [hg]; exact (below_size (by repeat (first | (with_reducible first | exact HB.out | apply bA | apply bN | apply bD | refine bS ?_ GE230.out) | exact HB.out))) : w.heap.size ≤ gb231)); have n4_ := Am ((by rw [hg]; exact (below_size (by repeat (first | (with_reducible first | exact HB.out | apply bA | apply bN | apply bD | refine bS ?_ GE230.out) | exact HB.out))) : w.heap.size ≤ gb231)); have n5_ := Am ((by rw [hg]; exact Nat.ne_of_lt (blk_lt (g := gb230) (o := .cells #[.int .i64 a0_0, .int .i64 a0_1] 27 (0, 0)) (by (with_reducible repeat (first | apply kN | apply kD | apply kA)); exact BK230.out)) : gb230 ≠ gb231)); have n6_ := Am ((by rw [hg]; exact Nat.ne_of_gt (blk_lt (g := gb230) (o := .cells #[.int .i64 a0_0, .int .i64 a0_1] 27 (0, 0)) (by (with_reducible repeat (first | apply kN | apply kD | apply kA)); exact BK230.out)) : gb231 ≠ gb230)); clear BK230 HB; have BK230 := n0_; have HB := n1_; have BK231 := n2_; have GW231 := n3_; have GE231 := n4_; have NB230_231 := n5_; have NB231_230 := n6_; clear n0_ n1_ n2_ n3_ n4_ n5_ n6_ hb hbox hg) | ((with_reducible refine gate_callee (f := 10) rfl ?_); refine goesL_ (some 18) rfl rfl Try.func10 (by kernel_rfl) rfl #[] rfl (by (try simp only [List.map_toArray, List.map_cons, List.map_nil]); first | done | rfl | (simp only [List.length_drop, List.length_take]; rfl)) ?_; (with_reducible refine (soundservicelaw18_sane.calls  true _ A7.out).mono ?_); rintro e w17 ⟨rfl, hb⟩; refine ⟨_, rfl, ?_⟩; have n0_ := Am (blk_below (g := gb230) (o := .cells #[.int .i64 a0_0, .int .i64 a0_1] 27 (0, 0)) (by (with_reducible repeat (first | apply kN | apply kD | apply kA)); exact BK230.out) hb); have n1_ := Am (blk_below (g := gb231) (o := .cells #[.int .i64 a1_0, .int .i64 a1_1] 27 (0, 0)) (by (with_reducible repeat (first | apply kN | apply kD | apply kA)); exact BK231.out) hb); have n2_ := Am (below_step (by repeat (first | (with_reducible first | exact HB.out | apply bA | apply bN | apply bD | refine bS ?_ GE230.out | refine bS ?_ GE231.out) | exact HB.out)) hb); clear BK230 BK231 HB; have BK230 := n0_; have BK231 := n1_; have HB := n2_; clear n0_ n1_ n2_; (try clear hb); (try clear hb2); (try clear hk); (try clear hi)) | ((with_reducible refine gate_callee (f := 12) rfl ?_); refine goesL_ (some 24) rfl rfl Try.func12 (by kernel_rfl) rfl #[.slice A3 l3.length c3] rfl (by (try simp only [List.map_toArray, List.map_cons, List.map_nil]); first | done | rfl | (simp only [List.length_drop, List.length_take]; rfl)) ?_; (with_reducible refine (soundservicemade_New.calls _ _ l3 t233 w _ ?side1 ?side2 ?side3 A13.out).mono ?_); (case side1 => repeat (first | (with_reducible first | exact HB.out | apply bA | apply bN | apply bD | refine bS ?_ GE230.out | refine bS ?_ GE231.out) | exact HB.out)); (case side2 => exact HR3.out); (case side3 => exact HC3.out); rintro e w18 ⟨g234, rfl, hi, hb, hb2⟩; refine ⟨_, rfl, ?_⟩; have n0_ := Am (blk_below (g := gb230) (o := .cells #[.int .i64 a0_0, .int .i64 a0_1] 27 (0, 0)) (by (with_reducible repeat (first | apply kN | apply kD | apply kA)); exact BK230.out) hb2); have n1_ := Am (blk_below (g := gb231) (o := .cells #[.int .i64 a1_0, .int .i64 a1_1] 27 (0, 0)) (by (with_reducible repeat (first | apply kN | apply kD | apply kA)); exact BK231.out) hb2); have n2_ := Am (hb); have n3_ := Am (hi); have n4_ := Am (IsS59.ne_blk hi (blk_below (g := gb230) (o := .cells #[.int .i64 a0_0, .int .i64 a0_1] 27 (0, 0)) (by (with_reducible repeat (first | apply kN | apply kD | apply kA)); exact BK230.out) hb2) (by decide)); have n5_ := Am (Ne.symm (IsS59.ne_blk hi (blk_below (g := gb230) (o := .cells #[.int .i64 a0_0, .int .i64 a0_1] 27 (0, 0)) (by (with_reducible repeat (first | apply kN | apply kD | apply kA)); exact BK230.out) hb2) (by decide))); have n6_ := Am (IsS59.ne_blk hi (blk_below (g := gb231) (o := .cells #[.int .i64 a1_0, .int .i64 a1_1] 27 (0, 0)) (by (with_reducible repeat (first | apply kN | apply kD | apply kA)); exact BK231.out) hb2) (by decide)); have n7_ := Am (Ne.symm (IsS59.ne_blk hi (blk_below (g := gb231) (o := .cells #[.int .i64 a1_0, .int .i64 a1_1] 27 (0, 0)) (by (with_reducible repeat (first | apply kN | apply kD | apply kA)); exact BK231.out) hb2) (by decide))); clear BK230 BK231 HB; have BK230 := n0_; have BK231 := n1_; have HB := n2_; have HI234 := n3_; have NB234_230 := n4_; have NB230_234 := n5_; have NB234_231 := n6_; have NB231_234 := n7_; clear n0_ n1_ n2_ n3_ n4_ n5_ n6_ n7_; (try clear hb); (try clear hb2); (try clear hk); (try clear hi)) | ((with_reducible refine gate_callee (f := 23) rfl ?_); refine goesL_ (some 26) rfl rfl Try.func23 (by kernel_rfl) rfl #[.pointer (some ⟨g234, 0, none⟩), .int .i64 20] rfl (by (try simp only [List.map_toArray, List.map_cons, List.map_nil]); first | done | rfl | (simp only [List.length_drop, List.length_take]; rfl)) ?_; (with_reducible refine (soundservicemade_Dice_Next.calls g234 t233 20 t235 t236 w _ ?side1 ?side2 A14.out).mono ?_); (case side1 => repeat (first | (with_reducible first | exact HI234.out | apply IsS59.alloc | apply IsS59.drewN | apply IsS59.drew | refine IsS59.far ?_ NB234_230.out _ | refine IsS59.far ?_ NB234_231.out _) | exact HI234.out)); (case side2 => repeat (first | (with_reducible first | exact HB.out | apply bA | apply bN | apply bD | refine bS ?_ (IsS59.ge HI234.out) | refine bS ?_ GE230.out | refine bS ?_ GE231.out) | exact HB.out)); rintro e w19 ⟨rfl, hi, hb, hk⟩; refine ⟨_, rfl, ?_⟩; have n0_ := Am (KeepBut.blk hk (g' := gb230) (o := .cells #[.int .i64 a0_0, .int .i64 a0_1] 27 (0, 0)) (by (with_reducible repeat (first | apply kN | apply kD | apply kA)); exact BK230.out) NB230_234.out (by simp)); have n1_ := Am (KeepBut.blk hk (g' := gb231) (o := .cells #[.int .i64 a1_0, .int .i64 a1_1] 27 (0, 0)) (by (with_reducible repeat (first | apply kN | apply kD | apply kA)); exact BK231.out) NB231_234.out (by simp)); have n2_ := Am (hb); have n3_ := Am (hi); clear BK230 BK231 HB HI234; have BK230 := n0_; have BK231 := n1_; have HB := n2_; have HI234 := n3_; clear n0_ n1_ n2_ n3_; (try clear hb); (try clear hb2); (try clear hk); (try clear hi)))
   go_loopg [14, 15] k (fun kq v14 v15 w' => ∃ (x14_1 : List (S54)) (x15_1 : Int) (x235000_1 : List Int) (u235000 : Value), v15 = .int .i64 x15_1 ∧ Aside0 (soundservicelaw18_ControlDeclares.l0 kq l2 a4 a5 x14_1 x15_1 a0_0 a0_1 a1_0 a1_1 x235000_1 = some r) ∧ Aside0 (kq ≤ k) ∧ Aside0 (Kd.R k54 54 w' w.heap.size (fun _ => True) v14 x14_1) ∧ Aside0 (w'.heap[gb230]? = some (.cells #[.int .i64 a0_0, .int .i64 a0_1] 27 (0, 0))) ∧ Aside0 (w'.heap[gb231]? = some (.cells #[.int .i64 a1_0, .int .i64 a1_1] 27 (0, 0))) ∧ Aside0 (IsS59 w w' g234 x235000_1) ∧ Aside0 (Below w.heap.size w w'))
   case atStart => exact ⟨(([] : List (S54))), (t235), (t236), (undef), (by first | rfl | (simp; done) | (simp [*]; done)), H', ⟨Nat.le_refl _⟩, ⟨by first | exact Kd.R_nil _ _ _ _ _ | exact Kd.N_nil _ _ _ _ _ | exact Kd.V_nil _ _ _ _ _ | exact Kd.Q_nil _ _ _ _ _ | exact Kd.S_nil _ _ _ _ _⟩, ⟨by (with_reducible repeat (first | apply kN | apply kD | apply kA)); exact BK230.out⟩, ⟨by (with_reducible repeat (first | apply kN | apply kD | apply kA)); exact BK231.out⟩, ⟨by repeat (first | (with_reducible first | exact HI234.out | apply IsS59.alloc | apply IsS59.drewN | apply IsS59.drew | refine IsS59.far ?_ NB234_230.out _ | refine IsS59.far ?_ NB234_231.out _) | exact HI234.out)⟩, ⟨by repeat (first | (with_reducible first | exact HB.out | apply bA | apply bN | apply bD | refine bS ?_ (IsS59.ge HI234.out) | refine bS ?_ GE230.out | refine bS ?_ GE231.out) | exact HB.out)⟩⟩
   case round =>
    clear H'
    (try clear c1); (try clear c2); (try clear p2); (try clear c3); (try clear c8); (try clear c9); (try clear c9b0); (try clear c9b1); (try clear c10); (try clear c12)
    obtain ⟨x14_1, x15_1, x235000_1, u235000, rfl, HA, HK1, HO_14, BK230, BK231, HI234, HB⟩ := hrel
    cases gk with
    | zero => exact absurd HA.out (by simp [soundservicelaw18_ControlDeclares.l0])
    | succ k1 =>
     have H := HA.out
     clear HA
     simp only [soundservicelaw18_ControlDeclares.l0] at H
     by_cases c20 : x15_1 > 0
     ·rw [if_pos c20] at H
      have c20b0 : decide (0 < x15_1) = true := decide_eq_true c20
      clear c20
      replace H := Option.bind_eq_some_iff.mp H
      obtain ⟨⟨t237, t238⟩, A210, H⟩ := H
      replace H : ((soundservicemade_Dice_Next.f t238 5).bind fun bt239 => (if x14_1.length < 8796093022208 then (soundservicelaw18_ControlDeclares.l0 k1 l2 a4 a5 (x14_1 ++ [(⟨wrap64 (62 + t237), wrap64 (62 + bt239.1)⟩ : S54)]) (wrap64 (x15_1 - 1)) a0_0 a0_1 a1_0 a1_1 bt239.2) else (none))) = some r := H
      have A21 := Am A210
      clear A210
      replace H := Option.bind_eq_some_iff.mp H
      obtain ⟨⟨t239, t240⟩, A220, H⟩ := H
      replace H : (if x14_1.length < 8796093022208 then (soundservicelaw18_ControlDeclares.l0 k1 l2 a4 a5 (x14_1 ++ [(⟨wrap64 (62 + t237), wrap64 (62 + t239)⟩ : S54)]) (wrap64 (x15_1 - 1)) a0_0 a0_1 a1_0 a1_1 t240) else (none)) = some r := H
      have A22 := Am A220
      clear A220
      by_cases c23 : x14_1.length < 8796093022208
      ·rw [if_pos c23] at H
       have LMc23 := Am c23
       clear c23
       obtain ⟨y241, hy241⟩ : ∃ y_ : List (S54), y_ = (x14_1 ++ [(⟨wrap64 (62 + t237), wrap64 (62 + t239)⟩ : S54)]) := ⟨_, rfl⟩
       replace H : (soundservicelaw18_ControlDeclares.l0 k1 l2 a4 a5 y241 (wrap64 (x15_1 - 1)) a0_0 a0_1 a1_0 a1_1 t240) = some r := by first | (rw [hy241]; with_reducible exact H) | (have H2_ := (Option.bind_some _ _).symm.trans H; rw [hy241]; with_reducible exact H2_) | (have H2_ := (Option.bind_some _ _).symm.trans H; with_reducible exact H2_) | with_reducible exact H | (rw [hy241]; exact H) | exact H
       have Ny241 := Am hy241
       clear hy241
       have H' := Am H
       clear H
       go_wp2_with (first | ((with_reducible refine gate_callee (f := 23) rfl ?_); refine goesL_ (some 33) rfl rfl Try.func23 (by kernel_rfl) rfl #[.pointer (some ⟨g234, 0, none⟩), .int .i64 5] rfl (by (try simp only [List.map_toArray, List.map_cons, List.map_nil]); first | done | rfl | (simp only [List.length_drop, List.length_take]; rfl)) ?_; (with_reducible refine (soundservicemade_Dice_Next.calls g234 x235000_1 5 t237 t238 w _ ?side1 ?side2 A21.out).mono ?_); (case side1 => repeat (first | (with_reducible first | exact HI234.out | apply IsS59.alloc | apply IsS59.drewN | apply IsS59.drew | refine IsS59.far ?_ NB234_230.out _ | refine IsS59.far ?_ NB234_231.out _) | exact HI234.out)); (case side2 => repeat (first | (with_reducible first | exact HB.out | apply bA | apply bN | apply bD | refine bS ?_ (IsS59.ge HI234.out) | refine bS ?_ GE230.out | refine bS ?_ GE231.out) | exact HB.out)); rintro e w24 ⟨rfl, hi, hb, hk⟩; refine ⟨_, rfl, ?_⟩; have n0_ := Am (Kd.R_mono (Kd.R_keep (IsS59.apart (show IsS59 w _ g234 x235000_1 from by repeat (first | (with_reducible first | exact HI234.out | apply IsS59.alloc | apply IsS59.drewN | apply IsS59.drew | refine IsS59.far ?_ NB234_230.out _ | refine IsS59.far ?_ NB234_231.out _) | exact HI234.out)) (by (with_reducible repeat (first | apply Kd.R_alloc | apply Kd.R_drewN | apply Kd.R_drew)); exact HO_14.out) (by decide)) hk (fun _ h => h.2)) (fun _ h => h.1)); have n1_ := Am (KeepBut.blk hk (g' := gb230) (o := .cells #[.int .i64 a0_0, .int .i64 a0_1] 27 (0, 0)) (by (with_reducible repeat (first | apply kN | apply kD | apply kA)); exact BK230.out) NB230_234.out (by simp)); have n2_ := Am (KeepBut.blk hk (g' := gb231) (o := .cells #[.int .i64 a1_0, .int .i64 a1_1] 27 (0, 0)) (by (with_reducible repeat (first | apply kN | apply kD | apply kA)); exact BK231.out) NB231_234.out (by simp)); have n3_ := Am (hb); have n4_ := Am (hi); clear HO_14 BK230 BK231 HB HI234; have HO_14 := n0_; have BK230 := n1_; have BK231 := n2_; have HB := n3_; have HI234 := n4_; clear n0_ n1_ n2_ n3_ n4_; (try clear hb); (try clear hb2); (try clear hk); (try clear hi)) | ((with_reducible refine gate_callee (f := 23) rfl ?_); refine goesL_ (some 36) rfl rfl Try.func23 (by kernel_rfl) rfl #[.pointer (some ⟨g234, 0, none⟩), .int .i64 5] rfl (by (try simp only [List.map_toArray, List.map_cons, List.map_nil]); first | done | rfl | (simp only [List.length_drop, List.length_take]; rfl)) ?_; (with_reducible refine (soundservicemade_Dice_Next.calls g234 t238 5 t239 t240 w _ ?side1 ?side2 A22.out).mono ?_); (case side1 => repeat (first | (with_reducible first | exact HI234.out | apply IsS59.alloc | apply IsS59.drewN | apply IsS59.drew | refine IsS59.far ?_ NB234_230.out _ | refine IsS59.far ?_ NB234_231.out _) | exact HI234.out)); (case side2 => repeat (first | (with_reducible first | exact HB.out | apply bA | apply bN | apply bD | refine bS ?_ (IsS59.ge HI234.out) | refine bS ?_ GE230.out | refine bS ?_ GE231.out) | exact HB.out)); rintro e w25 ⟨rfl, hi, hb, hk⟩; refine ⟨_, rfl, ?_⟩; have n0_ := Am (Kd.R_mono (Kd.R_keep (IsS59.apart (show IsS59 w _ g234 t238 from by repeat (first | (with_reducible first | exact HI234.out | apply IsS59.alloc | apply IsS59.drewN | apply IsS59.drew | refine IsS59.far ?_ NB234_230.out _ | refine IsS59.far ?_ NB234_231.out _) | exact HI234.out)) (by (with_reducible repeat (first | apply Kd.R_alloc | apply Kd.R_drewN | apply Kd.R_drew)); exact HO_14.out) (by decide)) hk (fun _ h => h.2)) (fun _ h => h.1)); have n1_ := Am (KeepBut.blk hk (g' := gb230) (o := .cells #[.int .i64 a0_0, .int .i64 a0_1] 27 (0, 0)) (by (with_reducible repeat (first | apply kN | apply kD | apply kA)); exact BK230.out) NB230_234.out (by simp)); have n2_ := Am (KeepBut.blk hk (g' := gb231) (o := .cells #[.int .i64 a1_0, .int .i64 a1_1] 27 (0, 0)) (by (with_reducible repeat (first | apply kN | apply kD | apply kA)); exact BK231.out) NB231_234.out (by simp)); have n3_ := Am (hb); have n4_ := Am (hi); clear HO_14 BK230 BK231 HB HI234; have HO_14 := n0_; have BK230 := n1_; have BK231 := n2_; have HB := n3_; have HI234 := n4_; clear n0_ n1_ n2_ n3_ n4_; (try clear hb); (try clear hb2); (try clear hk); (try clear hi)) | ((with_reducible refine gate_builtin (b := .append) (xs := #[.tmp 31, .tmp 39]) rfl ?_); at_builtin; refine Kd.R_append k54 (w0 := w) w.heap.size rfl (.tmp 31) (.tmp 39) 51 54 (.agg #[(.int .i64 0), (.int .i64 0)]) 16 rfl Try.underlying51 info54 rfl (by decide) (by omega) u14 x14_1 (⟨wrap64 (62 + t237), wrap64 (62 + t239)⟩ : S54) [.int .i64 (wrap64 (62 + t237)), .int .i64 (wrap64 (62 + t239))] (fun _ => True) (fun _ => False) rfl rfl ?aP (fun _ hk => hk.elim) ?aF ?aO ?aB ?aS ?aL ?_; (case aP => exact k54_mkM _ _ _ (⟨wrap64 (62 + t237), wrap64 (62 + t239)⟩ : S54)); (case aB => exact (by repeat (first | (with_reducible first | exact HB.out | apply bA | apply bN | apply bD | refine bS ?_ (IsS59.ge HI234.out) | refine bS ?_ GE230.out | refine bS ?_ GE231.out) | exact HB.out))); (case aF => exact (fun _ _ => trivial)); (case aO => exact (by (with_reducible repeat (first | apply Kd.R_alloc | apply Kd.R_drewN | apply Kd.R_drew)); exact HO_14.out)); (case aS => exact (below_size (by repeat (first | (with_reducible first | exact HB.out | apply bA | apply bN | apply bD | refine bS ?_ (IsS59.ge HI234.out) | refine bS ?_ GE230.out | refine bS ?_ GE231.out) | exact HB.out)))); (case aL => have := LMc23.out; omega); intro v242 w26 ho hb hg hat; rw [← Ny241.out] at ho; have n0_ := Am (blk_grown (g := gb230) (o := .cells #[.int .i64 a0_0, .int .i64 a0_1] 27 (0, 0)) (by (with_reducible repeat (first | apply kN | apply kD | apply kA)); exact BK230.out) hg (Kd.R_ne HO_14.out BK230.out (by decide))); have n1_ := Am (blk_grown (g := gb231) (o := .cells #[.int .i64 a1_0, .int .i64 a1_1] 27 (0, 0)) (by (with_reducible repeat (first | apply kN | apply kD | apply kA)); exact BK231.out) hg (Kd.R_ne HO_14.out BK231.out (by decide))); have n2_ := Am (IsS59.grown (by repeat (first | (with_reducible first | exact HI234.out | apply IsS59.alloc | apply IsS59.drewN | apply IsS59.drew | refine IsS59.far ?_ NB234_230.out _ | refine IsS59.far ?_ NB234_231.out _) | exact HI234.out)) hg (IsS59.own_ne HI234.out HO_14.out (by decide))); have n3_ := Am (hb); have n4_ := Am (ho); clear BK230 BK231 HI234 HB HO_14; have BK230 := n0_; have BK231 := n1_; have HI234 := n2_; have HB := n3_; have HO243 := n4_; clear n0_ n1_ n2_ n3_ n4_ ho hb hg hat))
       go_roundg k1
       case measure => have := HK1.out; omega
       case rel => exact ⟨(y241), (wrap64 (x15_1 - 1)), (t240), (undef), (by first | rfl | (simp; done) | (simp [*]; done)), H', ⟨by have := HK1.out; omega⟩, ⟨by (with_reducible repeat (first | apply Kd.R_alloc | apply Kd.R_drewN | apply Kd.R_drew)); exact HO243.out⟩, ⟨by (with_reducible repeat (first | apply kN | apply kD | apply kA)); exact BK230.out⟩, ⟨by (with_reducible repeat (first | apply kN | apply kD | apply kA)); exact BK231.out⟩, ⟨by repeat (first | (with_reducible first | exact HI234.out | apply IsS59.alloc | apply IsS59.drewN | apply IsS59.drew | refine IsS59.far ?_ NB234_230.out _ | refine IsS59.far ?_ NB234_231.out _) | exact HI234.out)⟩, ⟨by repeat (first | (with_reducible first | exact HB.out | apply bA | apply bN | apply bD | refine bS ?_ (IsS59.ge HI234.out) | refine bS ?_ GE230.out | refine bS ?_ GE231.out) | exact HB.out)⟩⟩
      ·rw [if_neg c23] at H
       exact absurd H (by simp)
     ·rw [if_neg c20] at H
      have c20b0 : decide (0 < x15_1) = false := decide_eq_false c20
      clear c20
      replace H := Option.bind_eq_some_iff.mp H
      obtain ⟨t246, A270, H⟩ := H
      replace H : ((soundserviceref18_Declared.f k1 a0_0 a0_1 a1_0 a1_1 a4 a5 l2).bind fun t247 => (if (t246 == t247) = true then ((control_Declared.f k1 1 1 64 1 a4 a5 x14_1).bind fun t248 => ((soundserviceref18_Declared.f k1 1 1 64 1 a4 a5 x14_1).bind fun t249 => (if (t248 == t249) = true then ((control_Declared.f k1 1 1 64 1 (Int.tmod (wrap64 ((Int.tmod a4 3000) + 3000)) 3000) (Int.tmod (wrap64 ((Int.tmod a5 20) + 20)) 20) x14_1).bind fun t250 => ((soundserviceref18_Declared.f k1 1 1 64 1 (Int.tmod (wrap64 ((Int.tmod a4 3000) + 3000)) 3000) (Int.tmod (wrap64 ((Int.tmod a5 20) + 20)) 20) x14_1).bind fun t251 => (some (t250 == t251)))) else (some false)))) else (some false))) = some r := H
      have A27 := Am A270
      clear A270
      replace H := Option.bind_eq_some_iff.mp H
      obtain ⟨t247, A280, H⟩ := H
      replace H : (if (t246 == t247) = true then ((control_Declared.f k1 1 1 64 1 a4 a5 x14_1).bind fun t248 => ((soundserviceref18_Declared.f k1 1 1 64 1 a4 a5 x14_1).bind fun t249 => (if (t248 == t249) = true then ((control_Declared.f k1 1 1 64 1 (Int.tmod (wrap64 ((Int.tmod a4 3000) + 3000)) 3000) (Int.tmod (wrap64 ((Int.tmod a5 20) + 20)) 20) x14_1).bind fun t250 => ((soundserviceref18_Declared.f k1 1 1 64 1 (Int.tmod (wrap64 ((Int.tmod a4 3000) + 3000)) 3000) (Int.tmod (wrap64 ((Int.tmod a5 20) + 20)) 20) x14_1).bind fun t251 => (some (t250 == t251)))) else (some false)))) else (some false)) = some r := H
      have A28 := Am A280
      clear A280
      by_cases c29 : (t246 == t247) = true
      ·rw [if_pos c29] at H
       have c29b0 : (t246 == t247) = true := c29
       (try (have c29b1 : decide (t246 = t247) = true := by simpa using c29))
       (try (have c29b2 : (t246 == t247) = true := by simpa using c29))
       clear c29
       replace H := Option.bind_eq_some_iff.mp H
       obtain ⟨t248, A300, H⟩ := H
       replace H : ((soundserviceref18_Declared.f k1 1 1 64 1 a4 a5 x14_1).bind fun t249 => (if (t248 == t249) = true then ((control_Declared.f k1 1 1 64 1 (Int.tmod (wrap64 ((Int.tmod a4 3000) + 3000)) 3000) (Int.tmod (wrap64 ((Int.tmod a5 20) + 20)) 20) x14_1).bind fun t250 => ((soundserviceref18_Declared.f k1 1 1 64 1 (Int.tmod (wrap64 ((Int.tmod a4 3000) + 3000)) 3000) (Int.tmod (wrap64 ((Int.tmod a5 20) + 20)) 20) x14_1).bind fun t251 => (some (t250 == t251)))) else (some false))) = some r := H
       have A30 := Am A300
       clear A300
       replace H := Option.bind_eq_some_iff.mp H
       obtain ⟨t249, A310, H⟩ := H
       replace H : (if (t248 == t249) = true then ((control_Declared.f k1 1 1 64 1 (Int.tmod (wrap64 ((Int.tmod a4 3000) + 3000)) 3000) (Int.tmod (wrap64 ((Int.tmod a5 20) + 20)) 20) x14_1).bind fun t250 => ((soundserviceref18_Declared.f k1 1 1 64 1 (Int.tmod (wrap64 ((Int.tmod a4 3000) + 3000)) 3000) (Int.tmod (wrap64 ((Int.tmod a5 20) + 20)) 20) x14_1).bind fun t251 => (some (t250 == t251)))) else (some false)) = some r := H
       have A31 := Am A310
       clear A310
       by_cases c32 : (t248 == t249) = true
       ·rw [if_pos c32] at H
        have c32b0 : (t248 == t249) = true := c32
        (try (have c32b1 : decide (t248 = t249) = true := by simpa using c32))
        (try (have c32b2 : (t248 == t249) = true := by simpa using c32))
        clear c32
        replace H := Option.bind_eq_some_iff.mp H
        obtain ⟨t250, A330, H⟩ := H
        replace H : ((soundserviceref18_Declared.f k1 1 1 64 1 (Int.tmod (wrap64 ((Int.tmod a4 3000) + 3000)) 3000) (Int.tmod (wrap64 ((Int.tmod a5 20) + 20)) 20) x14_1).bind fun t251 => (some (t250 == t251))) = some r := H
        have A33 := Am A330
        clear A330
        replace H := Option.bind_eq_some_iff.mp H
        obtain ⟨t251, A340, H⟩ := H
        replace H : (some (t250 == t251)) = some r := H
        have A34 := Am A340
        clear A340
        obtain rfl := Option.some.inj H
        try go_wp2_with (first | ((with_reducible refine gate_dst (N := 16) rfl ?_); refine box_event ?hg (N := 16) ?hd (cs := #[.int .i64 0, .int .i64 0]) (t := 27) ?hr ?_; (case hd => rfl); (case hg => rfl); (case hr => first | (go_simp; done) | (go_simp; rfl)); intro gb244 hg w35 hbox hb; have n0_ := Am (Kd.R_below (by (with_reducible repeat (first | apply Kd.R_alloc | apply Kd.R_drewN | apply Kd.R_drew)); exact HO_14.out) hb); have n1_ := Am (blk_below (g := gb230) (o := .cells #[.int .i64 a0_0, .int .i64 a0_1] 27 (0, 0)) (by (with_reducible repeat (first | apply kN | apply kD | apply kA)); exact BK230.out) hb); have n2_ := Am (blk_below (g := gb231) (o := .cells #[.int .i64 a1_0, .int .i64 a1_1] 27 (0, 0)) (by (with_reducible repeat (first | apply kN | apply kD | apply kA)); exact BK231.out) hb); have n3_ := Am (IsS59.below (by repeat (first | (with_reducible first | exact HI234.out | apply IsS59.alloc | apply IsS59.drewN | apply IsS59.drew | refine IsS59.far ?_ NB234_230.out _ | refine IsS59.far ?_ NB234_231.out _) | exact HI234.out)) hb); have n4_ := Am (below_step (by repeat (first | (with_reducible first | exact HB.out | apply bA | apply bN | apply bD | refine bS ?_ (IsS59.ge HI234.out) | refine bS ?_ GE230.out | refine bS ?_ GE231.out) | exact HB.out)) hb); have n5_ := Am (hbox); have n6_ := Am ((by rw [hg]; exact (below_size (by repeat (first | (with_reducible first | exact HB.out | apply bA | apply bN | apply bD | refine bS ?_ (IsS59.ge HI234.out) | refine bS ?_ GE230.out | refine bS ?_ GE231.out) | exact HB.out))) : w.heap.size ≤ gb244)); have n7_ := Am ((by rw [hg]; exact (below_size (by repeat (first | (with_reducible first | exact HB.out | apply bA | apply bN | apply bD | refine bS ?_ (IsS59.ge HI234.out) | refine bS ?_ GE230.out | refine bS ?_ GE231.out) | exact HB.out))) : w.heap.size ≤ gb244)); have n8_ := Am ((by rw [hg]; exact Nat.ne_of_lt (blk_lt (g := gb230) (o := .cells #[.int .i64 a0_0, .int .i64 a0_1] 27 (0, 0)) (by (with_reducible repeat (first | apply kN | apply kD | apply kA)); exact BK230.out)) : gb230 ≠ gb244)); have n9_ := Am ((by rw [hg]; exact Nat.ne_of_gt (blk_lt (g := gb230) (o := .cells #[.int .i64 a0_0, .int .i64 a0_1] 27 (0, 0)) (by (with_reducible repeat (first | apply kN | apply kD | apply kA)); exact BK230.out)) : gb244 ≠ gb230)); have n10_ := Am ((by rw [hg]; exact Nat.ne_of_lt (blk_lt (g := gb231) (o := .cells #[.int .i64 a1_0, .int .i64 a1_1] 27 (0, 0)) (by (with_reducible repeat (first | apply kN | apply kD | apply kA)); exact BK231.out)) : gb231 ≠ gb244)); have n11_ := Am ((by rw [hg]; exact Nat.ne_of_gt (blk_lt (g := gb231) (o := .cells #[.int .i64 a1_0, .int .i64 a1_1] 27 (0, 0)) (by (with_reducible repeat (first | apply kN | apply kD | apply kA)); exact BK231.out)) : gb244 ≠ gb231)); have n12_ := Am ((by rw [hg]; exact Nat.ne_of_lt (IsS59.lt (show IsS59 w _ g234 x235000_1 from by repeat (first | (with_reducible first | exact HI234.out | apply IsS59.alloc | apply IsS59.drewN | apply IsS59.drew | refine IsS59.far ?_ NB234_230.out _ | refine IsS59.far ?_ NB234_231.out _) | exact HI234.out))) : g234 ≠ gb244)); have n13_ := Am ((by rw [hg]; exact Nat.ne_of_gt (IsS59.lt (show IsS59 w _ g234 x235000_1 from by repeat (first | (with_reducible first | exact HI234.out | apply IsS59.alloc | apply IsS59.drewN | apply IsS59.drew | refine IsS59.far ?_ NB234_230.out _ | refine IsS59.far ?_ NB234_231.out _) | exact HI234.out))) : gb244 ≠ g234)); clear HO_14 BK230 BK231 HI234 HB; have HO_14 := n0_; have BK230 := n1_; have BK231 := n2_; have HI234 := n3_; have HB := n4_; have BK244 := n5_; have GW244 := n6_; have GE244 := n7_; have NB230_244 := n8_; have NB244_230 := n9_; have NB231_244 := n10_; have NB244_231 := n11_; have NB234_244 := n12_; have NB244_234 := n13_; clear n0_ n1_ n2_ n3_ n4_ n5_ n6_ n7_ n8_ n9_ n10_ n11_ n12_ n13_ hb hbox hg; have hnb36 := NB244_230.out; have hnc36 := NB230_244.out; have hnb37 := NB244_231.out; have hnc37 := NB231_244.out; have hnb38 := NB244_234.out; have hnc38 := NB234_244.out; have hcz39_0 : w35.cell? ⟨gb244, 0, none⟩ = some (.int .i64 0) := (blk_cell BK244.out 0).trans rfl; have hcz39_1 : w35.cell? ⟨gb244, 1, none⟩ = some (.int .i64 0) := (blk_cell BK244.out 1).trans rfl; have hfz39_0 := blk_frozen BK244.out 0; have hfz39_1 := blk_frozen BK244.out 1) | ((with_reducible refine gate_dst (N := 17) rfl ?_); refine box_event ?hg (N := 17) ?hd (cs := #[.int .i64 0, .int .i64 0]) (t := 27) ?hr ?_; (case hd => rfl); (case hg => rfl); (case hr => first | (go_simp; done) | (go_simp; rfl)); intro gb245 hg w40 hbox hb; have n0_ := Am (Kd.R_below (by (with_reducible repeat (first | apply Kd.R_alloc | apply Kd.R_drewN | apply Kd.R_drew)); exact (Kd.R_mono (Kd.R_far (p := ⟨gb244, 1, none⟩) (Kd.R_far (p := ⟨gb244, 0, none⟩) (Kd.R_types HO_14.out BK244.out (by decide)) (fun _ hk => hk.2) (.int .i64 1)) (fun _ hk => hk.2) (.int .i64 1)) (fun _ h_ => h_.1))) hb); have n1_ := Am (blk_below (g := gb230) (o := .cells #[.int .i64 a0_0, .int .i64 a0_1] 27 (0, 0)) (by (with_reducible repeat (first | apply kN | apply kD | apply kA)); refine blk_far ?_ NB230_244.out _; (with_reducible repeat (first | apply kN | apply kD | apply kA)); refine blk_far ?_ NB230_244.out _; (with_reducible repeat (first | apply kN | apply kD | apply kA)); exact BK230.out) hb); have n2_ := Am (blk_below (g := gb231) (o := .cells #[.int .i64 a1_0, .int .i64 a1_1] 27 (0, 0)) (by (with_reducible repeat (first | apply kN | apply kD | apply kA)); refine blk_far ?_ NB231_244.out _; (with_reducible repeat (first | apply kN | apply kD | apply kA)); refine blk_far ?_ NB231_244.out _; (with_reducible repeat (first | apply kN | apply kD | apply kA)); exact BK231.out) hb); have n3_ := Am (IsS59.below (show IsS59 w ((w35.setCell ⟨gb244, 0, none⟩ (.int .i64 1)).setCell ⟨gb244, 1, none⟩ (.int .i64 1)) g234 x235000_1 from by repeat (first | (with_reducible first | exact HI234.out | apply IsS59.alloc | apply IsS59.drewN | apply IsS59.drew | refine IsS59.far ?_ NB234_230.out _ | refine IsS59.far ?_ NB234_231.out _ | refine IsS59.far ?_ NB234_244.out _) | exact HI234.out)) hb); have n4_ := Am (blk_below (g := gb244) (o := .cells #[.int .i64 1, .int .i64 1] 27 (0, 0)) (by (with_reducible repeat (first | apply kN | apply kD | apply kA)); refine blk_put (cs := #[.int .i64 1, .int .i64 0]) ?_ 1 _ rfl; (with_reducible repeat (first | apply kN | apply kD | apply kA)); refine blk_put (cs := #[.int .i64 0, .int .i64 0]) ?_ 0 _ rfl; (with_reducible repeat (first | apply kN | apply kD | apply kA)); exact BK244.out) hb); have n5_ := Am (below_step (by repeat (first | (with_reducible first | exact HB.out | apply bA | apply bN | apply bD | refine bS ?_ (IsS59.ge HI234.out) | refine bS ?_ GE230.out | refine bS ?_ GE231.out | refine bS ?_ GE244.out) | exact HB.out)) hb); have n6_ := Am (hbox); have n7_ := Am ((by rw [hg]; exact (below_size (by repeat (first | (with_reducible first | exact HB.out | apply bA | apply bN | apply bD | refine bS ?_ (IsS59.ge HI234.out) | refine bS ?_ GE230.out | refine bS ?_ GE231.out | refine bS ?_ GE244.out) | exact HB.out))) : w.heap.size ≤ gb245)); have n8_ := Am ((by rw [hg]; exact (below_size (by repeat (first | (with_reducible first | exact HB.out | apply bA | apply bN | apply bD | refine bS ?_ (IsS59.ge HI234.out) | refine bS ?_ GE230.out | refine bS ?_ GE231.out | refine bS ?_ GE244.out) | exact HB.out))) : w.heap.size ≤ gb245)); have n9_ := Am ((by rw [hg]; exact Nat.ne_of_lt (blk_lt (g := gb230) (o := .cells #[.int .i64 a0_0, .int .i64 a0_1] 27 (0, 0)) (by (with_reducible repeat (first | apply kN | apply kD | apply kA)); refine blk_far ?_ NB230_244.out _; (with_reducible repeat (first | apply kN | apply kD | apply kA)); refine blk_far ?_ NB230_244.out _; (with_reducible repeat (first | apply kN | apply kD | apply kA)); exact BK230.out)) : gb230 ≠ gb245)); have n10_ := Am ((by rw [hg]; exact Nat.ne_of_gt (blk_lt (g := gb230) (o := .cells #[.int .i64 a0_0, .int .i64 a0_1] 27 (0, 0)) (by (with_reducible repeat (first | apply kN | apply kD | apply kA)); refine blk_far ?_ NB230_244.out _; (with_reducible repeat (first | apply kN | apply kD | apply kA)); refine blk_far ?_ NB230_244.out _; (with_reducible repeat (first | apply kN | apply kD | apply kA)); exact BK230.out)) : gb245 ≠ gb230)); have n11_ := Am ((by rw [hg]; exact Nat.ne_of_lt (blk_lt (g := gb231) (o := .cells #[.int .i64 a1_0, .int .i64 a1_1] 27 (0, 0)) (by (with_reducible repeat (first | apply kN | apply kD | apply kA)); refine blk_far ?_ NB231_244.out _; (with_reducible repeat (first | apply kN | apply kD | apply kA)); refine blk_far ?_ NB231_244.out _; (with_reducible repeat (first | apply kN | apply kD | apply kA)); exact BK231.out)) : gb231 ≠ gb245)); have n12_ := Am ((by rw [hg]; exact Nat.ne_of_gt (blk_lt (g := gb231) (o := .cells #[.int .i64 a1_0, .int .i64 a1_1] 27 (0, 0)) (by (with_reducible repeat (first | apply kN | apply kD | apply kA)); refine blk_far ?_ NB231_244.out _; (with_reducible repeat (first | apply kN | apply kD | apply kA)); refine blk_far ?_ NB231_244.out _; (with_reducible repeat (first | apply kN | apply kD | apply kA)); exact BK231.out)) : gb245 ≠ gb231)); have n13_ := Am ((by rw [hg]; exact Nat.ne_of_lt (blk_lt (g := gb244) (o := .cells #[.int .i64 1, .int .i64 1] 27 (0, 0)) (by (with_reducible repeat (first | apply kN | apply kD | apply kA)); refine blk_put (cs := #[.int .i64 1, .int .i64 0]) ?_ 1 _ rfl; (with_reducible repeat (first | apply kN | apply kD | apply kA)); refine blk_put (cs := #[.int .i64 0, .int .i64 0]) ?_ 0 _ rfl; (with_reducible repeat (first | apply kN | apply kD | apply kA)); exact BK244.out)) : gb244 ≠ gb245)); have n14_ := Am ((by rw [hg]; exact Nat.ne_of_gt (blk_lt (g := gb244) (o := .cells #[.int .i64 1, .int .i64 1] 27 (0, 0)) (by (with_reducible repeat (first | apply kN | apply kD | apply kA)); refine blk_put (cs := #[.int .i64 1, .int .i64 0]) ?_ 1 _ rfl; (with_reducible repeat (first | apply kN | apply kD | apply kA)); refine blk_put (cs := #[.int .i64 0, .int .i64 0]) ?_ 0 _ rfl; (with_reducible repeat (first | apply kN | apply kD | apply kA)); exact BK244.out)) : gb245 ≠ gb244)); have n15_ := Am ((by rw [hg]; exact Nat.ne_of_lt (IsS59.lt (show IsS59 w _ g234 x235000_1 from by repeat (first | (with_reducible first | exact HI234.out | apply IsS59.alloc | apply IsS59.drewN | apply IsS59.drew | refine IsS59.far ?_ NB234_230.out _ | refine IsS59.far ?_ NB234_231.out _ | refine IsS59.far ?_ NB234_244.out _) | exact HI234.out))) : g234 ≠ gb245)); have n16_ := Am ((by rw [hg]; exact Nat.ne_of_gt (IsS59.lt (show IsS59 w _ g234 x235000_1 from by repeat (first | (with_reducible first | exact HI234.out | apply IsS59.alloc | apply IsS59.drewN | apply IsS59.drew | refine IsS59.far ?_ NB234_230.out _ | refine IsS59.far ?_ NB234_231.out _ | refine IsS59.far ?_ NB234_244.out _) | exact HI234.out))) : gb245 ≠ g234)); clear HO_14 BK230 BK231 HI234 BK244 HB; have HO_14 := n0_; have BK230 := n1_; have BK231 := n2_; have HI234 := n3_; have BK244 := n4_; have HB := n5_; have BK245 := n6_; have GW245 := n7_; have GE245 := n8_; have NB230_245 := n9_; have NB245_230 := n10_; have NB231_245 := n11_; have NB245_231 := n12_; have NB244_245 := n13_; have NB245_244 := n14_; have NB234_245 := n15_; have NB245_234 := n16_; clear n0_ n1_ n2_ n3_ n4_ n5_ n6_ n7_ n8_ n9_ n10_ n11_ n12_ n13_ n14_ n15_ n16_ hb hbox hg; have hnb41 := NB245_230.out; have hnc41 := NB230_245.out; have hnb42 := NB245_231.out; have hnc42 := NB231_245.out; have hnb43 := NB245_244.out; have hnc43 := NB244_245.out; have hnb44 := NB245_234.out; have hnc44 := NB234_245.out; have hcz45_0 : w40.cell? ⟨gb245, 0, none⟩ = some (.int .i64 0) := (blk_cell BK245.out 0).trans rfl; have hcz45_1 : w40.cell? ⟨gb245, 1, none⟩ = some (.int .i64 0) := (blk_cell BK245.out 1).trans rfl; have hfz45_0 := blk_frozen BK245.out 0; have hfz45_1 := blk_frozen BK245.out 1))
        have n0_ : Aside0 (Kd.R k54 54 ((w40.setCell ⟨gb245, 0, none⟩ (.int .i64 64)).setCell ⟨gb245, 1, none⟩ (.int .i64 1)) w.heap.size (fun _ => True) u14 x14_1) := ⟨by (with_reducible repeat (first | apply Kd.R_alloc | apply Kd.R_drewN | apply Kd.R_drew)); exact Kd.R_mono (Kd.R_far (p := ⟨gb245, 1, none⟩) (Kd.R_far (p := ⟨gb245, 0, none⟩) (Kd.R_types HO_14.out BK245.out (by decide)) (fun _ hk => hk.2) (.int .i64 64)) (fun _ hk => hk.2) (.int .i64 1)) (fun _ hk => trivial)⟩
        have n1_ : Aside0 (((w40.setCell ⟨gb245, 0, none⟩ (.int .i64 64)).setCell ⟨gb245, 1, none⟩ (.int .i64 1)).heap[gb230]? = some (.cells #[.int .i64 a0_0, .int .i64 a0_1] 27 (0, 0))) := ⟨by (with_reducible repeat (first | apply kN | apply kD | apply kA)); refine blk_far ?_ NB230_245.out _; (with_reducible repeat (first | apply kN | apply kD | apply kA)); refine blk_far ?_ NB230_245.out _; (with_reducible repeat (first | apply kN | apply kD | apply kA)); exact BK230.out⟩
        have n2_ : Aside0 (((w40.setCell ⟨gb245, 0, none⟩ (.int .i64 64)).setCell ⟨gb245, 1, none⟩ (.int .i64 1)).heap[gb231]? = some (.cells #[.int .i64 a1_0, .int .i64 a1_1] 27 (0, 0))) := ⟨by (with_reducible repeat (first | apply kN | apply kD | apply kA)); refine blk_far ?_ NB231_245.out _; (with_reducible repeat (first | apply kN | apply kD | apply kA)); refine blk_far ?_ NB231_245.out _; (with_reducible repeat (first | apply kN | apply kD | apply kA)); exact BK231.out⟩
        have n3_ : Aside0 (((w40.setCell ⟨gb245, 0, none⟩ (.int .i64 64)).setCell ⟨gb245, 1, none⟩ (.int .i64 1)).heap[gb244]? = some (.cells #[.int .i64 1, .int .i64 1] 27 (0, 0))) := ⟨by (with_reducible repeat (first | apply kN | apply kD | apply kA)); refine blk_far ?_ NB244_245.out _; (with_reducible repeat (first | apply kN | apply kD | apply kA)); refine blk_far ?_ NB244_245.out _; (with_reducible repeat (first | apply kN | apply kD | apply kA)); exact BK244.out⟩
        have n4_ : Aside0 (((w40.setCell ⟨gb245, 0, none⟩ (.int .i64 64)).setCell ⟨gb245, 1, none⟩ (.int .i64 1)).heap[gb245]? = some (.cells #[.int .i64 64, .int .i64 1] 27 (0, 0))) := ⟨by (with_reducible repeat (first | apply kN | apply kD | apply kA)); refine blk_put (cs := #[.int .i64 64, .int .i64 0]) ?_ 1 _ rfl; (with_reducible repeat (first | apply kN | apply kD | apply kA)); refine blk_put (cs := #[.int .i64 0, .int .i64 0]) ?_ 0 _ rfl; (with_reducible repeat (first | apply kN | apply kD | apply kA)); exact BK245.out⟩
        have n5_ : Aside0 (IsS59 w ((w40.setCell ⟨gb245, 0, none⟩ (.int .i64 64)).setCell ⟨gb245, 1, none⟩ (.int .i64 1)) g234 x235000_1) := ⟨by repeat (first | (with_reducible first | exact HI234.out | apply IsS59.alloc | apply IsS59.drewN | apply IsS59.drew | refine IsS59.far ?_ NB234_230.out _ | refine IsS59.far ?_ NB234_231.out _ | refine IsS59.far ?_ NB234_244.out _ | refine IsS59.far ?_ NB234_245.out _) | exact HI234.out)⟩
        have n6_ : Aside0 (Below w.heap.size w ((w40.setCell ⟨gb245, 0, none⟩ (.int .i64 64)).setCell ⟨gb245, 1, none⟩ (.int .i64 1))) := ⟨by repeat (first | (with_reducible first | exact HB.out | apply bA | apply bN | apply bD | refine bS ?_ (IsS59.ge HI234.out) | refine bS ?_ GE230.out | refine bS ?_ GE231.out | refine bS ?_ GE244.out | refine bS ?_ GE245.out) | exact HB.out)⟩
        (try clear HO_14); (try clear BK230); (try clear BK231); (try clear BK244); (try clear BK245); (try clear HI234); (try clear HB)
        generalize ((w40.setCell ⟨gb245, 0, none⟩ (.int .i64 64)).setCell ⟨gb245, 1, none⟩ (.int .i64 1)) = w46 at n0_ n1_ n2_ n3_ n4_ n5_ n6_ ⊢
        have HO_14 := n0_; have BK230 := n1_; have BK231 := n2_; have BK244 := n3_; have BK245 := n4_; have HI234 := n5_; have HB := n6_; clear n0_ n1_ n2_ n3_ n4_ n5_ n6_
        have n0_ := Am (Kd.R_drew HO_14.out)
        have n1_ := Am (kD BK230.out)
        have n2_ := Am (kD BK231.out)
        have n3_ := Am (kD BK244.out)
        have n4_ := Am (kD BK245.out)
        have n5_ := Am (IsS59.drew HI234.out)
        have n6_ := Am (bD HB.out)
        clear HO_14 BK230 BK231 BK244 BK245 HI234 HB; have HO_14 := n0_; have BK230 := n1_; have BK231 := n2_; have BK244 := n3_; have BK245 := n4_; have HI234 := n5_; have HB := n6_; clear n0_ n1_ n2_ n3_ n4_ n5_ n6_
        refine start_ (n := 56) (S := fun w' => w'.cell? ⟨gb230, 0, none⟩ = some (.int .i64 a0_0) ∧ w'.cell? ⟨gb230, 1, none⟩ = some (.int .i64 a0_1) ∧ w'.cell? ⟨gb231, 0, none⟩ = some (.int .i64 a1_0) ∧ w'.cell? ⟨gb231, 1, none⟩ = some (.int .i64 a1_1) ∧ w'.cell? ⟨gb244, 0, none⟩ = some (.int .i64 1) ∧ w'.cell? ⟨gb244, 1, none⟩ = some (.int .i64 1) ∧ w'.cell? ⟨gb245, 0, none⟩ = some (.int .i64 64) ∧ w'.cell? ⟨gb245, 1, none⟩ = some (.int .i64 1)) (ds := []) soundservicelaw18_ControlDeclares.q0 (by kernel_rfl) rfl rfl ⟨(blk_cell BK230.out 0).trans rfl, (blk_cell BK230.out 1).trans rfl, (blk_cell BK231.out 0).trans rfl, (blk_cell BK231.out 1).trans rfl, (blk_cell BK244.out 0).trans rfl, (blk_cell BK244.out 1).trans rfl, (blk_cell BK245.out 0).trans rfl, (blk_cell BK245.out 1).trans rfl⟩ (fun hHeld => ?_); refine with_tabW soundservicelaw18_ControlDeclares.tab13 soundservicelaw18_ControlDeclares.bits13 (fun HT_ HW_ => ?_)
        generalize w46.drew = w47 at HO_14 BK230 BK231 BK244 BK245 HI234 HB hHeld ⊢
        refine pure_ (i := 2) (N := some 45) (v := ?_) (a' := ?_) soundservicelaw18_ControlDeclares.q1 rfl rfl (any_of HT_.out (by kernel_rfl)) (fun _ _ _ h => h) (Or.inl ⟨by rfl, ?_⟩) ?_ ?_
        rotate_left; (· intro w'; go_simp; with_reducible rfl); rotate_left; (· simp only [pL, i64_w, i32_w]; rfl)
        refine pure_ (i := 3) (N := some 46) (v := ?_) (a' := ?_) soundservicelaw18_ControlDeclares.q2 rfl rfl (any_of HT_.out (by kernel_rfl)) (fun _ _ _ h => h) (Or.inl ⟨by rfl, ?_⟩) ?_ ?_
        rotate_left; (· intro w'; go_simp; with_reducible rfl); rotate_left; (· simp only [pL, i64_w, i32_w]; rfl)
        refine pure_ (i := 4) (N := some 47) (v := ?_) (a' := ?_) soundservicelaw18_ControlDeclares.q3 rfl rfl (any_of HT_.out (by kernel_rfl)) (fun _ _ _ h => h) (Or.inl ⟨by rfl, ?_⟩) ?_ ?_
        rotate_left; (· intro w'; go_simp; with_reducible rfl); rotate_left; (· simp only [pL, i64_w, i32_w]; rfl)
        refine pure_ (i := 8) (N := some 51) (v := ?_) (a' := ?_) soundservicelaw18_ControlDeclares.q4 rfl rfl (any_of HT_.out (by kernel_rfl)) (fun _ _ _ h => h) (Or.inl ⟨by rfl, ?_⟩) ?_ ?_
        rotate_left; (· intro w'; go_simp; with_reducible rfl); rotate_left; (· simp only [pL, i64_w, i32_w]; rfl)
        refine pure_ (i := 9) (N := some 52) (v := ?_) (a' := ?_) soundservicelaw18_ControlDeclares.q5 rfl rfl (any_of HT_.out (by kernel_rfl)) (fun _ _ _ h => h) (Or.inl ⟨by rfl, ?_⟩) ?_ ?_
        rotate_left; (· intro w'; go_simp; with_reducible rfl); rotate_left; (· simp only [pL, i64_w, i32_w]; rfl)
        refine pure_ (i := 10) (N := some 53) (v := ?_) (a' := ?_) soundservicelaw18_ControlDeclares.q6 rfl rfl (any_of HT_.out (by kernel_rfl)) (fun _ _ _ h => h) (Or.inl ⟨by rfl, ?_⟩) ?_ ?_
        rotate_left; (· intro w'; go_simp; with_reducible rfl); rotate_left; (· simp only [pL, i64_w, i32_w]; rfl)
        refine take_ (i := 0) (N := some 43) (v := ?_) (a' := ?_) soundservicelaw18_ControlDeclares.q7 rfl rfl (take_ofW HT_.out HW_.out (by kernel_rfl)) (fun _ _ _ h => h) (Or.inl ⟨by rfl, ?_⟩) hHeld ?_ ?_
        rotate_left; (· rintro w' ⟨s0, s1, s2, s3, s4, s5, s6, s7⟩; go_simp; with_reducible rfl); rotate_left; (· simp only [pL, i64_w, i32_w]; rfl)
        refine take_ (i := 1) (N := some 44) (v := ?_) (a' := ?_) soundservicelaw18_ControlDeclares.q8 rfl rfl (take_ofW HT_.out HW_.out (by kernel_rfl)) (fun _ _ _ h => h) (Or.inl ⟨by rfl, ?_⟩) hHeld ?_ ?_
        rotate_left; (· rintro w' ⟨s0, s1, s2, s3, s4, s5, s6, s7⟩; go_simp; with_reducible rfl); rotate_left; (· simp only [pL, i64_w, i32_w]; rfl)
        refine take_ (i := 6) (N := some 49) (v := ?_) (a' := ?_) soundservicelaw18_ControlDeclares.q9 rfl rfl (take_ofW HT_.out HW_.out (by kernel_rfl)) (fun _ _ _ h => h) (Or.inl ⟨by rfl, ?_⟩) hHeld ?_ ?_
        rotate_left; (· rintro w' ⟨s0, s1, s2, s3, s4, s5, s6, s7⟩; go_simp; with_reducible rfl); rotate_left; (· simp only [pL, i64_w, i32_w]; rfl)
        refine take_ (i := 7) (N := some 50) (v := ?_) (a' := ?_) soundservicelaw18_ControlDeclares.q10 rfl rfl (take_ofW HT_.out HW_.out (by kernel_rfl)) (fun _ _ _ h => h) (Or.inl ⟨by rfl, ?_⟩) hHeld ?_ ?_
        rotate_left; (· rintro w' ⟨s0, s1, s2, s3, s4, s5, s6, s7⟩; go_simp; with_reducible rfl); rotate_left; (· simp only [pL, i64_w, i32_w]; rfl)
        refine one_ (i := 5) (N := some 48) soundservicelaw18_ControlDeclares.q11 rfl rfl (one_of HT_.out (by kernel_rfl)) (by decide) (fun K hK => ?_)
        refine goes_ Try.func24 (by kernel_rfl) rfl #[.agg #[.int .i64 a0_0, .int .i64 a0_1], .agg #[.int .i64 a1_0, .int .i64 a1_1], .int .i64 a4, .int .i64 a5, .slice A2 l2.length c2] (by rfl) rfl rfl (by (try simp only [List.map_toArray, List.map_cons, List.map_nil]); first | done | rfl | (simp only [List.length_drop, List.length_take]; rfl)) ?_
        with_reducible refine (control_Declared.calls k1 a0_0 a0_1 a1_0 a1_1 a4 a5 _ _ l2 t246 _ ?side1 ?side2 A27.out).mono ?_
        (case side1 => repeat (first | exact (Kd.C_below HR2.out HB.out) | (with_reducible refine Kd.C_alloc ?_ _) | (with_reducible refine Kd.C_drewN ?_ _) | (with_reducible refine Kd.C_drew ?_)))
        (case side2 => exact HC2.out)
        rintro e w48 ⟨rfl, hb⟩
        refine ⟨_, rfl, ?_⟩
        have n0_ := Am (Kd.R_below (by (with_reducible repeat (first | apply Kd.R_alloc | apply Kd.R_drewN | apply Kd.R_drew)); exact HO_14.out) hb)
        have n1_ := Am (blk_below (g := gb230) (o := .cells #[.int .i64 a0_0, .int .i64 a0_1] 27 (0, 0)) (by (with_reducible repeat (first | apply kN | apply kD | apply kA)); exact BK230.out) hb)
        have n2_ := Am (blk_below (g := gb231) (o := .cells #[.int .i64 a1_0, .int .i64 a1_1] 27 (0, 0)) (by (with_reducible repeat (first | apply kN | apply kD | apply kA)); exact BK231.out) hb)
        have n3_ := Am (IsS59.below (by repeat (first | (with_reducible first | exact HI234.out | apply IsS59.alloc | apply IsS59.drewN | apply IsS59.drew | refine IsS59.far ?_ NB234_230.out _ | refine IsS59.far ?_ NB234_231.out _ | refine IsS59.far ?_ NB234_244.out _ | refine IsS59.far ?_ NB234_245.out _) | exact HI234.out)) hb)
        have n4_ := Am (blk_below (g := gb244) (o := .cells #[.int .i64 1, .int .i64 1] 27 (0, 0)) (by (with_reducible repeat (first | apply kN | apply kD | apply kA)); exact BK244.out) hb)
        have n5_ := Am (blk_below (g := gb245) (o := .cells #[.int .i64 64, .int .i64 1] 27 (0, 0)) (by (with_reducible repeat (first | apply kN | apply kD | apply kA)); exact BK245.out) hb)
        have n6_ := Am (below_step (by repeat (first | (with_reducible first | exact HB.out | apply bA | apply bN | apply bD | refine bS ?_ (IsS59.ge HI234.out) | refine bS ?_ GE230.out | refine bS ?_ GE231.out | refine bS ?_ GE244.out | refine bS ?_ GE245.out) | exact HB.out)) hb)
        clear HO_14 BK230 BK231 HI234 BK244 BK245 HB; have HO_14 := n0_; have BK230 := n1_; have BK231 := n2_; have HI234 := n3_; have BK244 := n4_; have BK245 := n5_; have HB := n6_; clear n0_ n1_ n2_ n3_ n4_ n5_ n6_; (try clear hb); (try clear hb2); (try clear hk); (try clear hi)
        refine hK.out _ _ ⟨(blk_cell BK230.out 0).trans rfl, (blk_cell BK230.out 1).trans rfl, (blk_cell BK231.out 0).trans rfl, (blk_cell BK231.out 1).trans rfl, (blk_cell BK244.out 0).trans rfl, (blk_cell BK244.out 1).trans rfl, (blk_cell BK245.out 0).trans rfl, (blk_cell BK245.out 1).trans rfl⟩ (fun hHeld => ?_)
        clear hK K
        refine norm_ (a' := ?_) ?_ ?_
        rotate_left
        ·show Act.put _ (some 48) _ = _
         simp only [pL, i64_w, i32_w]
         rfl
        refine one_ (i := 11) (N := some 54) soundservicelaw18_ControlDeclares.q12 rfl rfl (one_of HT_.out (by kernel_rfl)) (by decide) (fun K hK => ?_)
        refine goes_ Try.func25 (by kernel_rfl) rfl #[.agg #[.int .i64 a0_0, .int .i64 a0_1], .agg #[.int .i64 a1_0, .int .i64 a1_1], .int .i64 a4, .int .i64 a5, .slice A2 l2.length c2] (by rfl) rfl rfl (by (try simp only [List.map_toArray, List.map_cons, List.map_nil]); first | done | rfl | (simp only [List.length_drop, List.length_take]; rfl)) ?_
        with_reducible refine (soundserviceref18_Declared.calls k1 a0_0 a0_1 a1_0 a1_1 a4 a5 _ _ l2 t247 _ ?side1 ?side2 A28.out).mono ?_
        (case side1 => repeat (first | exact (Kd.C_below HR2.out HB.out) | (with_reducible refine Kd.C_alloc ?_ _) | (with_reducible refine Kd.C_drewN ?_ _) | (with_reducible refine Kd.C_drew ?_)))
        (case side2 => exact HC2.out)
        rintro e w49 ⟨rfl, hb⟩
        refine ⟨_, rfl, ?_⟩
        have n0_ := Am (Kd.R_below (by (with_reducible repeat (first | apply Kd.R_alloc | apply Kd.R_drewN | apply Kd.R_drew)); exact HO_14.out) hb)
        have n1_ := Am (blk_below (g := gb230) (o := .cells #[.int .i64 a0_0, .int .i64 a0_1] 27 (0, 0)) (by (with_reducible repeat (first | apply kN | apply kD | apply kA)); exact BK230.out) hb)
        have n2_ := Am (blk_below (g := gb231) (o := .cells #[.int .i64 a1_0, .int .i64 a1_1] 27 (0, 0)) (by (with_reducible repeat (first | apply kN | apply kD | apply kA)); exact BK231.out) hb)
        have n3_ := Am (IsS59.below (by repeat (first | (with_reducible first | exact HI234.out | apply IsS59.alloc | apply IsS59.drewN | apply IsS59.drew | refine IsS59.far ?_ NB234_230.out _ | refine IsS59.far ?_ NB234_231.out _ | refine IsS59.far ?_ NB234_244.out _ | refine IsS59.far ?_ NB234_245.out _) | exact HI234.out)) hb)
        have n4_ := Am (blk_below (g := gb244) (o := .cells #[.int .i64 1, .int .i64 1] 27 (0, 0)) (by (with_reducible repeat (first | apply kN | apply kD | apply kA)); exact BK244.out) hb)
        have n5_ := Am (blk_below (g := gb245) (o := .cells #[.int .i64 64, .int .i64 1] 27 (0, 0)) (by (with_reducible repeat (first | apply kN | apply kD | apply kA)); exact BK245.out) hb)
        have n6_ := Am (below_step (by repeat (first | (with_reducible first | exact HB.out | apply bA | apply bN | apply bD | refine bS ?_ (IsS59.ge HI234.out) | refine bS ?_ GE230.out | refine bS ?_ GE231.out | refine bS ?_ GE244.out | refine bS ?_ GE245.out) | exact HB.out)) hb)
        clear HO_14 BK230 BK231 HI234 BK244 BK245 HB; have HO_14 := n0_; have BK230 := n1_; have BK231 := n2_; have HI234 := n3_; have BK244 := n4_; have BK245 := n5_; have HB := n6_; clear n0_ n1_ n2_ n3_ n4_ n5_ n6_; (try clear hb); (try clear hb2); (try clear hk); (try clear hi)
        obtain ⟨Ao50, co50, eo50⟩ := Kd.R_slice HO_14.out
        (first | subst eo50 | (injection eo50 with f1_ f2_ f3_; have f4_ := f1_.symm; have f5_ := f3_.symm; clear f1_ f2_ f3_; subst f4_; subst f5_))
        refine hK.out _ _ ⟨(blk_cell BK230.out 0).trans rfl, (blk_cell BK230.out 1).trans rfl, (blk_cell BK231.out 0).trans rfl, (blk_cell BK231.out 1).trans rfl, (blk_cell BK244.out 0).trans rfl, (blk_cell BK244.out 1).trans rfl, (blk_cell BK245.out 0).trans rfl, (blk_cell BK245.out 1).trans rfl⟩ (fun hHeld => ?_)
        clear hK K
        refine norm_ (a' := ?_) ?_ ?_
        rotate_left
        ·show Act.put _ (some 54) _ = _
         simp only [pL, i64_w, i32_w]
         rfl
        refine pure_ (i := 12) (N := some 55) (v := ?_) (a' := ?_) soundservicelaw18_ControlDeclares.q13 rfl rfl (any_of HT_.out (by kernel_rfl)) (fun _ _ _ h => h) (Or.inl ⟨by rfl, ?_⟩) ?_ ?_
        rotate_left; (· intro w'; go_simp; with_reducible rfl); rotate_left; (· simp only [pL, i64_w, i32_w]; rfl)
        refine pure_ (i := 13) (N := some 56) (v := ?_) (a' := ?_) soundservicelaw18_ControlDeclares.q14 rfl rfl (any_of HT_.out (by kernel_rfl)) (fun _ _ _ h => h) (Or.inl ⟨by rfl, ?_⟩) ?_ ?_
        rotate_left; (· intro w'; go_simp; with_reducible rfl); rotate_left; (· simp only [pL, i64_w, i32_w]; rfl)
        refine pure_ (i := 16) (N := some 59) (v := ?_) (a' := ?_) soundservicelaw18_ControlDeclares.q15 rfl rfl (any_of HT_.out (by kernel_rfl)) (fun _ _ _ h => h) (Or.inl ⟨by rfl, ?_⟩) ?_ ?_
        rotate_left; (· intro w'; go_simp; with_reducible rfl); rotate_left; (· simp only [pL, i64_w, i32_w]; rfl)
        refine pure_ (i := 17) (N := some 60) (v := ?_) (a' := ?_) soundservicelaw18_ControlDeclares.q16 rfl rfl (any_of HT_.out (by kernel_rfl)) (fun _ _ _ h => h) (Or.inl ⟨by rfl, ?_⟩) ?_ ?_
        rotate_left; (· intro w'; go_simp; with_reducible rfl); rotate_left; (· simp only [pL, i64_w, i32_w]; rfl)
        refine pure_ (i := 18) (N := some 61) (v := ?_) (a' := ?_) soundservicelaw18_ControlDeclares.q17 rfl rfl (any_of HT_.out (by kernel_rfl)) (fun _ _ _ h => h) (Or.inl ⟨by rfl, ?_⟩) ?_ ?_
        rotate_left; (· intro w'; go_simp; with_reducible rfl); rotate_left; (· simp only [pL, i64_w, i32_w]; rfl)
        refine pure_ (i := 22) (N := some 65) (v := ?_) (a' := ?_) soundservicelaw18_ControlDeclares.q18 rfl rfl (any_of HT_.out (by kernel_rfl)) (fun _ _ _ h => h) (Or.inl ⟨by rfl, ?_⟩) ?_ ?_
        rotate_left; (· intro w'; go_simp; with_reducible rfl); rotate_left; (· simp only [pL, i64_w, i32_w]; rfl)
        refine pure_ (i := 23) (N := some 66) (v := ?_) (a' := ?_) soundservicelaw18_ControlDeclares.q19 rfl rfl (any_of HT_.out (by kernel_rfl)) (fun _ _ _ h => h) (Or.inl ⟨by rfl, ?_⟩) ?_ ?_
        rotate_left; (· intro w'; go_simp; with_reducible rfl); rotate_left; (· simp only [pL, i64_w, i32_w]; rfl)
        refine pure_ (i := 24) (N := some 67) (v := ?_) (a' := ?_) soundservicelaw18_ControlDeclares.q20 rfl rfl (any_of HT_.out (by kernel_rfl)) (fun _ _ _ h => h) (Or.inl ⟨by rfl, ?_⟩) ?_ ?_
        rotate_left; (· intro w'; go_simp; with_reducible rfl); rotate_left; (· simp only [pL, i64_w, i32_w]; rfl)
        refine take_ (i := 14) (N := some 57) (v := ?_) (a' := ?_) soundservicelaw18_ControlDeclares.q21 rfl rfl (take_ofW HT_.out HW_.out (by kernel_rfl)) (fun _ _ _ h => h) (Or.inl ⟨by rfl, ?_⟩) hHeld ?_ ?_
        rotate_left; (· rintro w' ⟨s0, s1, s2, s3, s4, s5, s6, s7⟩; go_simp; with_reducible rfl); rotate_left; (· simp only [pL, i64_w, i32_w]; rfl)
        refine take_ (i := 15) (N := some 58) (v := ?_) (a' := ?_) soundservicelaw18_ControlDeclares.q22 rfl rfl (take_ofW HT_.out HW_.out (by kernel_rfl)) (fun _ _ _ h => h) (Or.inl ⟨by rfl, ?_⟩) hHeld ?_ ?_
        rotate_left; (· rintro w' ⟨s0, s1, s2, s3, s4, s5, s6, s7⟩; go_simp; with_reducible rfl); rotate_left; (· simp only [pL, i64_w, i32_w]; rfl)
        refine take_ (i := 20) (N := some 63) (v := ?_) (a' := ?_) soundservicelaw18_ControlDeclares.q23 rfl rfl (take_ofW HT_.out HW_.out (by kernel_rfl)) (fun _ _ _ h => h) (Or.inl ⟨by rfl, ?_⟩) hHeld ?_ ?_
        rotate_left; (· rintro w' ⟨s0, s1, s2, s3, s4, s5, s6, s7⟩; go_simp; with_reducible rfl); rotate_left; (· simp only [pL, i64_w, i32_w]; rfl)
        refine take_ (i := 21) (N := some 64) (v := ?_) (a' := ?_) soundservicelaw18_ControlDeclares.q24 rfl rfl (take_ofW HT_.out HW_.out (by kernel_rfl)) (fun _ _ _ h => h) (Or.inl ⟨by rfl, ?_⟩) hHeld ?_ ?_
        rotate_left; (· rintro w' ⟨s0, s1, s2, s3, s4, s5, s6, s7⟩; go_simp; with_reducible rfl); rotate_left; (· simp only [pL, i64_w, i32_w]; rfl)
        refine one_ (i := 19) (N := some 62) soundservicelaw18_ControlDeclares.q25 rfl rfl (one_of HT_.out (by kernel_rfl)) (by decide) (fun K hK => ?_)
        refine goes_ Try.func24 (by kernel_rfl) rfl #[.agg #[.int .i64 1, .int .i64 1], .agg #[.int .i64 64, .int .i64 1], .int .i64 a4, .int .i64 a5, .slice Ao50 x14_1.length co50] (by rfl) rfl rfl (by (try simp only [List.map_toArray, List.map_cons, List.map_nil]); first | done | rfl | (simp only [List.length_drop, List.length_take]; rfl)) ?_
        with_reducible refine (control_Declared.calls k1 1 1 64 1 a4 a5 _ _ x14_1 t248 _ ?side1 ?side2 A30.out).mono ?_
        (case side1 => repeat (first | exact (Kd.R_reads' HO_14.out).2.2 | (with_reducible refine Kd.C_alloc ?_ _) | (with_reducible refine Kd.C_drewN ?_ _) | (with_reducible refine Kd.C_drew ?_)))
        (case side2 => exact (Kd.R_reads' HO_14.out).2.1)
        rintro e w51 ⟨rfl, hb⟩
        refine ⟨_, rfl, ?_⟩
        have n0_ := Am (Kd.R_below (by (with_reducible repeat (first | apply Kd.R_alloc | apply Kd.R_drewN | apply Kd.R_drew)); exact HO_14.out) hb)
        have n1_ := Am (blk_below (g := gb230) (o := .cells #[.int .i64 a0_0, .int .i64 a0_1] 27 (0, 0)) (by (with_reducible repeat (first | apply kN | apply kD | apply kA)); exact BK230.out) hb)
        have n2_ := Am (blk_below (g := gb231) (o := .cells #[.int .i64 a1_0, .int .i64 a1_1] 27 (0, 0)) (by (with_reducible repeat (first | apply kN | apply kD | apply kA)); exact BK231.out) hb)
        have n3_ := Am (IsS59.below (by repeat (first | (with_reducible first | exact HI234.out | apply IsS59.alloc | apply IsS59.drewN | apply IsS59.drew | refine IsS59.far ?_ NB234_230.out _ | refine IsS59.far ?_ NB234_231.out _ | refine IsS59.far ?_ NB234_244.out _ | refine IsS59.far ?_ NB234_245.out _) | exact HI234.out)) hb)
        have n4_ := Am (blk_below (g := gb244) (o := .cells #[.int .i64 1, .int .i64 1] 27 (0, 0)) (by (with_reducible repeat (first | apply kN | apply kD | apply kA)); exact BK244.out) hb)
        have n5_ := Am (blk_below (g := gb245) (o := .cells #[.int .i64 64, .int .i64 1] 27 (0, 0)) (by (with_reducible repeat (first | apply kN | apply kD | apply kA)); exact BK245.out) hb)
        have n6_ := Am (below_step (by repeat (first | (with_reducible first | exact HB.out | apply bA | apply bN | apply bD | refine bS ?_ (IsS59.ge HI234.out) | refine bS ?_ GE230.out | refine bS ?_ GE231.out | refine bS ?_ GE244.out | refine bS ?_ GE245.out) | exact HB.out)) hb)
        clear HO_14 BK230 BK231 HI234 BK244 BK245 HB; have HO_14 := n0_; have BK230 := n1_; have BK231 := n2_; have HI234 := n3_; have BK244 := n4_; have BK245 := n5_; have HB := n6_; clear n0_ n1_ n2_ n3_ n4_ n5_ n6_; (try clear hb); (try clear hb2); (try clear hk); (try clear hi)
        refine hK.out _ _ ⟨(blk_cell BK230.out 0).trans rfl, (blk_cell BK230.out 1).trans rfl, (blk_cell BK231.out 0).trans rfl, (blk_cell BK231.out 1).trans rfl, (blk_cell BK244.out 0).trans rfl, (blk_cell BK244.out 1).trans rfl, (blk_cell BK245.out 0).trans rfl, (blk_cell BK245.out 1).trans rfl⟩ (fun hHeld => ?_)
        clear hK K
        refine norm_ (a' := ?_) ?_ ?_
        rotate_left
        ·show Act.put _ (some 62) _ = _
         simp only [pL, i64_w, i32_w]
         rfl
        refine one_ (i := 25) (N := some 68) soundservicelaw18_ControlDeclares.q26 rfl rfl (one_of HT_.out (by kernel_rfl)) (by decide) (fun K hK => ?_)
        refine goes_ Try.func25 (by kernel_rfl) rfl #[.agg #[.int .i64 1, .int .i64 1], .agg #[.int .i64 64, .int .i64 1], .int .i64 a4, .int .i64 a5, .slice Ao50 x14_1.length co50] (by rfl) rfl rfl (by (try simp only [List.map_toArray, List.map_cons, List.map_nil]); first | done | rfl | (simp only [List.length_drop, List.length_take]; rfl)) ?_
        with_reducible refine (soundserviceref18_Declared.calls k1 1 1 64 1 a4 a5 _ _ x14_1 t249 _ ?side1 ?side2 A31.out).mono ?_
        (case side1 => repeat (first | exact (Kd.R_reads' HO_14.out).2.2 | (with_reducible refine Kd.C_alloc ?_ _) | (with_reducible refine Kd.C_drewN ?_ _) | (with_reducible refine Kd.C_drew ?_)))
        (case side2 => exact (Kd.R_reads' HO_14.out).2.1)
        rintro e w52 ⟨rfl, hb⟩
        refine ⟨_, rfl, ?_⟩
        have n0_ := Am (Kd.R_below (by (with_reducible repeat (first | apply Kd.R_alloc | apply Kd.R_drewN | apply Kd.R_drew)); exact HO_14.out) hb)
        have n1_ := Am (blk_below (g := gb230) (o := .cells #[.int .i64 a0_0, .int .i64 a0_1] 27 (0, 0)) (by (with_reducible repeat (first | apply kN | apply kD | apply kA)); exact BK230.out) hb)
        have n2_ := Am (blk_below (g := gb231) (o := .cells #[.int .i64 a1_0, .int .i64 a1_1] 27 (0, 0)) (by (with_reducible repeat (first | apply kN | apply kD | apply kA)); exact BK231.out) hb)
        have n3_ := Am (IsS59.below (by repeat (first | (with_reducible first | exact HI234.out | apply IsS59.alloc | apply IsS59.drewN | apply IsS59.drew | refine IsS59.far ?_ NB234_230.out _ | refine IsS59.far ?_ NB234_231.out _ | refine IsS59.far ?_ NB234_244.out _ | refine IsS59.far ?_ NB234_245.out _) | exact HI234.out)) hb)
        have n4_ := Am (blk_below (g := gb244) (o := .cells #[.int .i64 1, .int .i64 1] 27 (0, 0)) (by (with_reducible repeat (first | apply kN | apply kD | apply kA)); exact BK244.out) hb)
        have n5_ := Am (blk_below (g := gb245) (o := .cells #[.int .i64 64, .int .i64 1] 27 (0, 0)) (by (with_reducible repeat (first | apply kN | apply kD | apply kA)); exact BK245.out) hb)
        have n6_ := Am (below_step (by repeat (first | (with_reducible first | exact HB.out | apply bA | apply bN | apply bD | refine bS ?_ (IsS59.ge HI234.out) | refine bS ?_ GE230.out | refine bS ?_ GE231.out | refine bS ?_ GE244.out | refine bS ?_ GE245.out) | exact HB.out)) hb)
        clear HO_14 BK230 BK231 HI234 BK244 BK245 HB; have HO_14 := n0_; have BK230 := n1_; have BK231 := n2_; have HI234 := n3_; have BK244 := n4_; have BK245 := n5_; have HB := n6_; clear n0_ n1_ n2_ n3_ n4_ n5_ n6_; (try clear hb); (try clear hb2); (try clear hk); (try clear hi)
        refine hK.out _ _ ⟨(blk_cell BK230.out 0).trans rfl, (blk_cell BK230.out 1).trans rfl, (blk_cell BK231.out 0).trans rfl, (blk_cell BK231.out 1).trans rfl, (blk_cell BK244.out 0).trans rfl, (blk_cell BK244.out 1).trans rfl, (blk_cell BK245.out 0).trans rfl, (blk_cell BK245.out 1).trans rfl⟩ (fun hHeld => ?_)
        clear hK K
        refine norm_ (a' := ?_) ?_ ?_
        rotate_left
        ·show Act.put _ (some 68) _ = _
         simp only [pL, i64_w, i32_w]
         rfl
        refine pure_ (i := 26) (N := some 69) (v := ?_) (a' := ?_) soundservicelaw18_ControlDeclares.q27 rfl rfl (any_of HT_.out (by kernel_rfl)) (fun _ _ _ h => h) (Or.inl ⟨by rfl, ?_⟩) ?_ ?_
        rotate_left; (· intro w'; go_simp; with_reducible rfl); rotate_left; (· simp only [pL, i64_w, i32_w]; rfl)
        refine pure_ (i := 27) (N := some 70) (v := ?_) (a' := ?_) soundservicelaw18_ControlDeclares.q28 rfl rfl (any_of HT_.out (by kernel_rfl)) (fun _ _ _ h => h) (Or.inl ⟨by rfl, ?_⟩) ?_ ?_
        rotate_left; (· intro w'; go_simp; with_reducible rfl); rotate_left; (· simp only [pL, i64_w, i32_w]; rfl)
        refine pure_ (i := 28) (N := some 71) (v := ?_) (a' := ?_) soundservicelaw18_ControlDeclares.q29 rfl rfl (any_of HT_.out (by kernel_rfl)) (fun _ _ _ h => h) (Or.inl ⟨by rfl, ?_⟩) ?_ ?_
        rotate_left; (· intro w'; go_simp; with_reducible rfl); rotate_left; (· simp only [pL, i64_w, i32_w]; rfl)
        refine pure_ (i := 31) (N := some 74) (v := ?_) (a' := ?_) soundservicelaw18_ControlDeclares.q30 rfl rfl (any_of HT_.out (by kernel_rfl)) (fun _ _ _ h => h) (Or.inl ⟨by rfl, ?_⟩) ?_ ?_
        rotate_left; (· intro w'; go_simp; with_reducible rfl); rotate_left; (· simp only [pL, i64_w, i32_w]; rfl)
        refine pure_ (i := 32) (N := some 75) (v := ?_) (a' := ?_) soundservicelaw18_ControlDeclares.q31 rfl rfl (any_of HT_.out (by kernel_rfl)) (fun _ _ _ h => h) (Or.inl ⟨by rfl, ?_⟩) ?_ ?_
        rotate_left; (· intro w'; go_simp; with_reducible rfl); rotate_left; (· simp only [pL, i64_w, i32_w]; rfl)
        refine pure_ (i := 33) (N := some 76) (v := ?_) (a' := ?_) soundservicelaw18_ControlDeclares.q32 rfl rfl (any_of HT_.out (by kernel_rfl)) (fun _ _ _ h => h) (Or.inl ⟨by rfl, ?_⟩) ?_ ?_
        rotate_left; (· intro w'; go_simp; with_reducible rfl); rotate_left; (· simp only [pL, i64_w, i32_w]; rfl)
        refine pure_ (i := 34) (N := some 77) (v := ?_) (a' := ?_) soundservicelaw18_ControlDeclares.q33 rfl rfl (any_of HT_.out (by kernel_rfl)) (fun _ _ _ h => h) (Or.inl ⟨by rfl, ?_⟩) ?_ ?_
        rotate_left; (· intro w'; go_simp; with_reducible rfl); rotate_left; (· simp only [pL, i64_w, i32_w]; rfl)
        refine pure_ (i := 35) (N := some 78) (v := ?_) (a' := ?_) soundservicelaw18_ControlDeclares.q34 rfl rfl (any_of HT_.out (by kernel_rfl)) (fun _ _ _ h => h) (Or.inl ⟨by rfl, ?_⟩) ?_ ?_
        rotate_left; (· intro w'; go_simp; with_reducible rfl); rotate_left; (· simp only [pL, i64_w, i32_w]; rfl)
        refine pure_ (i := 36) (N := some 79) (v := ?_) (a' := ?_) soundservicelaw18_ControlDeclares.q35 rfl rfl (any_of HT_.out (by kernel_rfl)) (fun _ _ _ h => h) (Or.inl ⟨by rfl, ?_⟩) ?_ ?_
        rotate_left; (· intro w'; go_simp; with_reducible rfl); rotate_left; (· simp only [pL, i64_w, i32_w]; rfl)
        refine pure_ (i := 37) (N := some 80) (v := ?_) (a' := ?_) soundservicelaw18_ControlDeclares.q36 rfl rfl (any_of HT_.out (by kernel_rfl)) (fun _ _ _ h => h) (Or.inl ⟨by rfl, ?_⟩) ?_ ?_
        rotate_left; (· intro w'; go_simp; with_reducible rfl); rotate_left; (· simp only [pL, i64_w, i32_w]; rfl)
        refine pure_ (i := 38) (N := some 81) (v := ?_) (a' := ?_) soundservicelaw18_ControlDeclares.q37 rfl rfl (any_of HT_.out (by kernel_rfl)) (fun _ _ _ h => h) (Or.inl ⟨by rfl, ?_⟩) ?_ ?_
        rotate_left; (· intro w'; go_simp; with_reducible rfl); rotate_left; (· simp only [pL, i64_w, i32_w]; rfl)
        refine pure_ (i := 39) (N := some 82) (v := ?_) (a' := ?_) soundservicelaw18_ControlDeclares.q38 rfl rfl (any_of HT_.out (by kernel_rfl)) (fun _ _ _ h => h) (Or.inl ⟨by rfl, ?_⟩) ?_ ?_
        rotate_left; (· intro w'; go_simp; with_reducible rfl); rotate_left; (· simp only [pL, i64_w, i32_w]; rfl)
        refine pure_ (i := 43) (N := some 86) (v := ?_) (a' := ?_) soundservicelaw18_ControlDeclares.q39 rfl rfl (any_of HT_.out (by kernel_rfl)) (fun _ _ _ h => h) (Or.inl ⟨by rfl, ?_⟩) ?_ ?_
        rotate_left; (· intro w'; go_simp; with_reducible rfl); rotate_left; (· simp only [pL, i64_w, i32_w]; rfl)
        refine pure_ (i := 44) (N := some 87) (v := ?_) (a' := ?_) soundservicelaw18_ControlDeclares.q40 rfl rfl (any_of HT_.out (by kernel_rfl)) (fun _ _ _ h => h) (Or.inl ⟨by rfl, ?_⟩) ?_ ?_
        rotate_left; (· intro w'; go_simp; with_reducible rfl); rotate_left; (· simp only [pL, i64_w, i32_w]; rfl)
        refine pure_ (i := 45) (N := some 88) (v := ?_) (a' := ?_) soundservicelaw18_ControlDeclares.q41 rfl rfl (any_of HT_.out (by kernel_rfl)) (fun _ _ _ h => h) (Or.inl ⟨by rfl, ?_⟩) ?_ ?_
        rotate_left; (· intro w'; go_simp; with_reducible rfl); rotate_left; (· simp only [pL, i64_w, i32_w]; rfl)
        refine pure_ (i := 46) (N := some 89) (v := ?_) (a' := ?_) soundservicelaw18_ControlDeclares.q42 rfl rfl (any_of HT_.out (by kernel_rfl)) (fun _ _ _ h => h) (Or.inl ⟨by rfl, ?_⟩) ?_ ?_
        rotate_left; (· intro w'; go_simp; with_reducible rfl); rotate_left; (· simp only [pL, i64_w, i32_w]; rfl)
        refine pure_ (i := 47) (N := some 90) (v := ?_) (a' := ?_) soundservicelaw18_ControlDeclares.q43 rfl rfl (any_of HT_.out (by kernel_rfl)) (fun _ _ _ h => h) (Or.inl ⟨by rfl, ?_⟩) ?_ ?_
        rotate_left; (· intro w'; go_simp; with_reducible rfl); rotate_left; (· simp only [pL, i64_w, i32_w]; rfl)
        refine pure_ (i := 48) (N := some 91) (v := ?_) (a' := ?_) soundservicelaw18_ControlDeclares.q44 rfl rfl (any_of HT_.out (by kernel_rfl)) (fun _ _ _ h => h) (Or.inl ⟨by rfl, ?_⟩) ?_ ?_
        rotate_left; (· intro w'; go_simp; with_reducible rfl); rotate_left; (· simp only [pL, i64_w, i32_w]; rfl)
        refine pure_ (i := 49) (N := some 92) (v := ?_) (a' := ?_) soundservicelaw18_ControlDeclares.q45 rfl rfl (any_of HT_.out (by kernel_rfl)) (fun _ _ _ h => h) (Or.inl ⟨by rfl, ?_⟩) ?_ ?_
        rotate_left; (· intro w'; go_simp; with_reducible rfl); rotate_left; (· simp only [pL, i64_w, i32_w]; rfl)
        refine pure_ (i := 50) (N := some 93) (v := ?_) (a' := ?_) soundservicelaw18_ControlDeclares.q46 rfl rfl (any_of HT_.out (by kernel_rfl)) (fun _ _ _ h => h) (Or.inl ⟨by rfl, ?_⟩) ?_ ?_
        rotate_left; (· intro w'; go_simp; with_reducible rfl); rotate_left; (· simp only [pL, i64_w, i32_w]; rfl)
        refine pure_ (i := 51) (N := some 94) (v := ?_) (a' := ?_) soundservicelaw18_ControlDeclares.q47 rfl rfl (any_of HT_.out (by kernel_rfl)) (fun _ _ _ h => h) (Or.inl ⟨by rfl, ?_⟩) ?_ ?_
        rotate_left; (· intro w'; go_simp; with_reducible rfl); rotate_left; (· simp only [pL, i64_w, i32_w]; rfl)
        refine take_ (i := 29) (N := some 72) (v := ?_) (a' := ?_) soundservicelaw18_ControlDeclares.q48 rfl rfl (take_ofW HT_.out HW_.out (by kernel_rfl)) (fun _ _ _ h => h) (Or.inl ⟨by rfl, ?_⟩) hHeld ?_ ?_
        rotate_left; (· rintro w' ⟨s0, s1, s2, s3, s4, s5, s6, s7⟩; go_simp; with_reducible rfl); rotate_left; (· simp only [pL, i64_w, i32_w]; rfl)
        refine take_ (i := 30) (N := some 73) (v := ?_) (a' := ?_) soundservicelaw18_ControlDeclares.q49 rfl rfl (take_ofW HT_.out HW_.out (by kernel_rfl)) (fun _ _ _ h => h) (Or.inl ⟨by rfl, ?_⟩) hHeld ?_ ?_
        rotate_left; (· rintro w' ⟨s0, s1, s2, s3, s4, s5, s6, s7⟩; go_simp; with_reducible rfl); rotate_left; (· simp only [pL, i64_w, i32_w]; rfl)
        refine take_ (i := 41) (N := some 84) (v := ?_) (a' := ?_) soundservicelaw18_ControlDeclares.q50 rfl rfl (take_ofW HT_.out HW_.out (by kernel_rfl)) (fun _ _ _ h => h) (Or.inl ⟨by rfl, ?_⟩) hHeld ?_ ?_
        rotate_left; (· rintro w' ⟨s0, s1, s2, s3, s4, s5, s6, s7⟩; go_simp; with_reducible rfl); rotate_left; (· simp only [pL, i64_w, i32_w]; rfl)
        refine take_ (i := 42) (N := some 85) (v := ?_) (a' := ?_) soundservicelaw18_ControlDeclares.q51 rfl rfl (take_ofW HT_.out HW_.out (by kernel_rfl)) (fun _ _ _ h => h) (Or.inl ⟨by rfl, ?_⟩) hHeld ?_ ?_
        rotate_left; (· rintro w' ⟨s0, s1, s2, s3, s4, s5, s6, s7⟩; go_simp; with_reducible rfl); rotate_left; (· simp only [pL, i64_w, i32_w]; rfl)
        refine one_ (i := 40) (N := some 83) soundservicelaw18_ControlDeclares.q52 rfl rfl (one_of HT_.out (by kernel_rfl)) (by decide) (fun K hK => ?_)
        refine goes_ Try.func24 (by kernel_rfl) rfl #[.agg #[.int .i64 1, .int .i64 1], .agg #[.int .i64 64, .int .i64 1], .int .i64 (Int.tmod (wrap64 ((Int.tmod a4 3000) + 3000)) 3000), .int .i64 (Int.tmod (wrap64 ((Int.tmod a5 20) + 20)) 20), .slice Ao50 x14_1.length co50] (by rfl) rfl rfl (by (try simp only [List.map_toArray, List.map_cons, List.map_nil]); first | done | rfl | (simp only [List.length_drop, List.length_take]; rfl)) ?_
        with_reducible refine (control_Declared.calls k1 1 1 64 1 (Int.tmod (wrap64 ((Int.tmod a4 3000) + 3000)) 3000) (Int.tmod (wrap64 ((Int.tmod a5 20) + 20)) 20) _ _ x14_1 t250 _ ?side1 ?side2 A33.out).mono ?_
        (case side1 => repeat (first | exact (Kd.R_reads' HO_14.out).2.2 | (with_reducible refine Kd.C_alloc ?_ _) | (with_reducible refine Kd.C_drewN ?_ _) | (with_reducible refine Kd.C_drew ?_)))
        (case side2 => exact (Kd.R_reads' HO_14.out).2.1)
        rintro e w53 ⟨rfl, hb⟩
        refine ⟨_, rfl, ?_⟩
        have n0_ := Am (Kd.R_below (by (with_reducible repeat (first | apply Kd.R_alloc | apply Kd.R_drewN | apply Kd.R_drew)); exact HO_14.out) hb)
        have n1_ := Am (blk_below (g := gb230) (o := .cells #[.int .i64 a0_0, .int .i64 a0_1] 27 (0, 0)) (by (with_reducible repeat (first | apply kN | apply kD | apply kA)); exact BK230.out) hb)
        have n2_ := Am (blk_below (g := gb231) (o := .cells #[.int .i64 a1_0, .int .i64 a1_1] 27 (0, 0)) (by (with_reducible repeat (first | apply kN | apply kD | apply kA)); exact BK231.out) hb)
        have n3_ := Am (IsS59.below (by repeat (first | (with_reducible first | exact HI234.out | apply IsS59.alloc | apply IsS59.drewN | apply IsS59.drew | refine IsS59.far ?_ NB234_230.out _ | refine IsS59.far ?_ NB234_231.out _ | refine IsS59.far ?_ NB234_244.out _ | refine IsS59.far ?_ NB234_245.out _) | exact HI234.out)) hb)
        have n4_ := Am (blk_below (g := gb244) (o := .cells #[.int .i64 1, .int .i64 1] 27 (0, 0)) (by (with_reducible repeat (first | apply kN | apply kD | apply kA)); exact BK244.out) hb)
        have n5_ := Am (blk_below (g := gb245) (o := .cells #[.int .i64 64, .int .i64 1] 27 (0, 0)) (by (with_reducible repeat (first | apply kN | apply kD | apply kA)); exact BK245.out) hb)
        have n6_ := Am (below_step (by repeat (first | (with_reducible first | exact HB.out | apply bA | apply bN | apply bD | refine bS ?_ (IsS59.ge HI234.out) | refine bS ?_ GE230.out | refine bS ?_ GE231.out | refine bS ?_ GE244.out | refine bS ?_ GE245.out) | exact HB.out)) hb)
        clear HO_14 BK230 BK231 HI234 BK244 BK245 HB; have HO_14 := n0_; have BK230 := n1_; have BK231 := n2_; have HI234 := n3_; have BK244 := n4_; have BK245 := n5_; have HB := n6_; clear n0_ n1_ n2_ n3_ n4_ n5_ n6_; (try clear hb); (try clear hb2); (try clear hk); (try clear hi)
        refine hK.out _ _ ⟨(blk_cell BK230.out 0).trans rfl, (blk_cell BK230.out 1).trans rfl, (blk_cell BK231.out 0).trans rfl, (blk_cell BK231.out 1).trans rfl, (blk_cell BK244.out 0).trans rfl, (blk_cell BK244.out 1).trans rfl, (blk_cell BK245.out 0).trans rfl, (blk_cell BK245.out 1).trans rfl⟩ (fun hHeld => ?_)
        clear hK K
        refine norm_ (a' := ?_) ?_ ?_
        rotate_left
        ·show Act.put _ (some 83) _ = _
         simp only [pL, i64_w, i32_w]
         rfl
        refine one_ (i := 52) (N := some 95) soundservicelaw18_ControlDeclares.q53 rfl rfl (one_of HT_.out (by kernel_rfl)) (by decide) (fun K hK => ?_)
        refine goes_ Try.func25 (by kernel_rfl) rfl #[.agg #[.int .i64 1, .int .i64 1], .agg #[.int .i64 64, .int .i64 1], .int .i64 (Int.tmod (wrap64 ((Int.tmod a4 3000) + 3000)) 3000), .int .i64 (Int.tmod (wrap64 ((Int.tmod a5 20) + 20)) 20), .slice Ao50 x14_1.length co50] (by rfl) rfl rfl (by (try simp only [List.map_toArray, List.map_cons, List.map_nil]); first | done | rfl | (simp only [List.length_drop, List.length_take]; rfl)) ?_
        with_reducible refine (soundserviceref18_Declared.calls k1 1 1 64 1 (Int.tmod (wrap64 ((Int.tmod a4 3000) + 3000)) 3000) (Int.tmod (wrap64 ((Int.tmod a5 20) + 20)) 20) _ _ x14_1 t251 _ ?side1 ?side2 A34.out).mono ?_
        (case side1 => repeat (first | exact (Kd.R_reads' HO_14.out).2.2 | (with_reducible refine Kd.C_alloc ?_ _) | (with_reducible refine Kd.C_drewN ?_ _) | (with_reducible refine Kd.C_drew ?_)))
        (case side2 => exact (Kd.R_reads' HO_14.out).2.1)
        rintro e w54 ⟨rfl, hb⟩
        refine ⟨_, rfl, ?_⟩
        have n0_ := Am (Kd.R_below (by (with_reducible repeat (first | apply Kd.R_alloc | apply Kd.R_drewN | apply Kd.R_drew)); exact HO_14.out) hb)
        have n1_ := Am (blk_below (g := gb230) (o := .cells #[.int .i64 a0_0, .int .i64 a0_1] 27 (0, 0)) (by (with_reducible repeat (first | apply kN | apply kD | apply kA)); exact BK230.out) hb)
        have n2_ := Am (blk_below (g := gb231) (o := .cells #[.int .i64 a1_0, .int .i64 a1_1] 27 (0, 0)) (by (with_reducible repeat (first | apply kN | apply kD | apply kA)); exact BK231.out) hb)
        have n3_ := Am (IsS59.below (by repeat (first | (with_reducible first | exact HI234.out | apply IsS59.alloc | apply IsS59.drewN | apply IsS59.drew | refine IsS59.far ?_ NB234_230.out _ | refine IsS59.far ?_ NB234_231.out _ | refine IsS59.far ?_ NB234_244.out _ | refine IsS59.far ?_ NB234_245.out _) | exact HI234.out)) hb)
        have n4_ := Am (blk_below (g := gb244) (o := .cells #[.int .i64 1, .int .i64 1] 27 (0, 0)) (by (with_reducible repeat (first | apply kN | apply kD | apply kA)); exact BK244.out) hb)
        have n5_ := Am (blk_below (g := gb245) (o := .cells #[.int .i64 64, .int .i64 1] 27 (0, 0)) (by (with_reducible repeat (first | apply kN | apply kD | apply kA)); exact BK245.out) hb)
        have n6_ := Am (below_step (by repeat (first | (with_reducible first | exact HB.out | apply bA | apply bN | apply bD | refine bS ?_ (IsS59.ge HI234.out) | refine bS ?_ GE230.out | refine bS ?_ GE231.out | refine bS ?_ GE244.out | refine bS ?_ GE245.out) | exact HB.out)) hb)
        clear HO_14 BK230 BK231 HI234 BK244 BK245 HB; have HO_14 := n0_; have BK230 := n1_; have BK231 := n2_; have HI234 := n3_; have BK244 := n4_; have BK245 := n5_; have HB := n6_; clear n0_ n1_ n2_ n3_ n4_ n5_ n6_; (try clear hb); (try clear hb2); (try clear hk); (try clear hi)
        refine hK.out _ _ ⟨(blk_cell BK230.out 0).trans rfl, (blk_cell BK230.out 1).trans rfl, (blk_cell BK231.out 0).trans rfl, (blk_cell BK231.out 1).trans rfl, (blk_cell BK244.out 0).trans rfl, (blk_cell BK244.out 1).trans rfl, (blk_cell BK245.out 0).trans rfl, (blk_cell BK245.out 1).trans rfl⟩ (fun hHeld => ?_)
        clear hK K
        refine norm_ (a' := ?_) ?_ ?_
        rotate_left
        ·show Act.put _ (some 95) _ = _
         simp only [pL, i64_w, i32_w]
         rfl
        refine pure_ (i := 53) (N := some 96) (v := ?_) (a' := ?_) soundservicelaw18_ControlDeclares.q54 rfl rfl (any_of HT_.out (by kernel_rfl)) (fun _ _ _ h => h) (Or.inl ⟨by rfl, ?_⟩) ?_ ?_
        rotate_left; (· intro w'; go_simp; with_reducible rfl); rotate_left; (· simp only [pL, i64_w, i32_w]; rfl)
        refine pure_ (i := 54) (N := some 97) (v := ?_) (a' := ?_) soundservicelaw18_ControlDeclares.q55 rfl rfl (any_of HT_.out (by kernel_rfl)) (fun _ _ _ h => h) (Or.inl ⟨by rfl, ?_⟩) ?_ ?_
        rotate_left; (· intro w'; go_simp; with_reducible rfl); rotate_left; (· simp only [pL, i64_w, i32_w]; rfl)
        refine pure_ (i := 55) (N := some 12) (v := ?_) (a' := ?_) soundservicelaw18_ControlDeclares.q56 rfl rfl (any_of HT_.out (by kernel_rfl)) (fun _ _ _ h => h) (Or.inl ⟨by rfl, ?_⟩) ?_ ?_
        rotate_left; (· intro w'; go_simp; with_reducible rfl); rotate_left; (· simp only [pL, i64_w, i32_w]; rfl)
        refine done_ (done_of HT_.out (by kernel_rfl)) ?_
        try go_wp2
        go_ret
        exact ⟨by first | rfl | (simp [errW_none, errW_some] <;> rfl) | (simp [*, errW_none, errW_some] <;> rfl), by repeat (first | (with_reducible first | exact HB.out | apply bA | apply bN | apply bD | refine bS ?_ (IsS59.ge HI234.out) | refine bS ?_ GE230.out | refine bS ?_ GE231.out | refine bS ?_ GE244.out | refine bS ?_ GE245.out) | exact HB.out)⟩
       ·rw [if_neg c32] at H
        have c32b0 : (t248 == t249) = false := by simpa using c32
        (try (have c32b1 : decide (t248 = t249) = false := by simpa using c32))
        (try (have c32b2 : (t248 == t249) = false := by simpa using c32))
        (try (have c32b3 : ¬ (t248 = t249) := by simpa using c32))
        clear c32
        obtain rfl := Option.some.inj H
        try go_wp2_with (first | ((with_reducible refine gate_dst (N := 16) rfl ?_); refine box_event ?hg (N := 16) ?hd (cs := #[.int .i64 0, .int .i64 0]) (t := 27) ?hr ?_; (case hd => rfl); (case hg => rfl); (case hr => first | (go_simp; done) | (go_simp; rfl)); intro gb244 hg w55 hbox hb; have n0_ := Am (Kd.R_below (by (with_reducible repeat (first | apply Kd.R_alloc | apply Kd.R_drewN | apply Kd.R_drew)); exact HO_14.out) hb); have n1_ := Am (blk_below (g := gb230) (o := .cells #[.int .i64 a0_0, .int .i64 a0_1] 27 (0, 0)) (by (with_reducible repeat (first | apply kN | apply kD | apply kA)); exact BK230.out) hb); have n2_ := Am (blk_below (g := gb231) (o := .cells #[.int .i64 a1_0, .int .i64 a1_1] 27 (0, 0)) (by (with_reducible repeat (first | apply kN | apply kD | apply kA)); exact BK231.out) hb); have n3_ := Am (IsS59.below (by repeat (first | (with_reducible first | exact HI234.out | apply IsS59.alloc | apply IsS59.drewN | apply IsS59.drew | refine IsS59.far ?_ NB234_230.out _ | refine IsS59.far ?_ NB234_231.out _) | exact HI234.out)) hb); have n4_ := Am (below_step (by repeat (first | (with_reducible first | exact HB.out | apply bA | apply bN | apply bD | refine bS ?_ (IsS59.ge HI234.out) | refine bS ?_ GE230.out | refine bS ?_ GE231.out) | exact HB.out)) hb); have n5_ := Am (hbox); have n6_ := Am ((by rw [hg]; exact (below_size (by repeat (first | (with_reducible first | exact HB.out | apply bA | apply bN | apply bD | refine bS ?_ (IsS59.ge HI234.out) | refine bS ?_ GE230.out | refine bS ?_ GE231.out) | exact HB.out))) : w.heap.size ≤ gb244)); have n7_ := Am ((by rw [hg]; exact (below_size (by repeat (first | (with_reducible first | exact HB.out | apply bA | apply bN | apply bD | refine bS ?_ (IsS59.ge HI234.out) | refine bS ?_ GE230.out | refine bS ?_ GE231.out) | exact HB.out))) : w.heap.size ≤ gb244)); have n8_ := Am ((by rw [hg]; exact Nat.ne_of_lt (blk_lt (g := gb230) (o := .cells #[.int .i64 a0_0, .int .i64 a0_1] 27 (0, 0)) (by (with_reducible repeat (first | apply kN | apply kD | apply kA)); exact BK230.out)) : gb230 ≠ gb244)); have n9_ := Am ((by rw [hg]; exact Nat.ne_of_gt (blk_lt (g := gb230) (o := .cells #[.int .i64 a0_0, .int .i64 a0_1] 27 (0, 0)) (by (with_reducible repeat (first | apply kN | apply kD | apply kA)); exact BK230.out)) : gb244 ≠ gb230)); have n10_ := Am ((by rw [hg]; exact Nat.ne_of_lt (blk_lt (g := gb231) (o := .cells #[.int .i64 a1_0, .int .i64 a1_1] 27 (0, 0)) (by (with_reducible repeat (first | apply kN | apply kD | apply kA)); exact BK231.out)) : gb231 ≠ gb244)); have n11_ := Am ((by rw [hg]; exact Nat.ne_of_gt (blk_lt (g := gb231) (o := .cells #[.int .i64 a1_0, .int .i64 a1_1] 27 (0, 0)) (by (with_reducible repeat (first | apply kN | apply kD | apply kA)); exact BK231.out)) : gb244 ≠ gb231)); have n12_ := Am ((by rw [hg]; exact Nat.ne_of_lt (IsS59.lt (show IsS59 w _ g234 x235000_1 from by repeat (first | (with_reducible first | exact HI234.out | apply IsS59.alloc | apply IsS59.drewN | apply IsS59.drew | refine IsS59.far ?_ NB234_230.out _ | refine IsS59.far ?_ NB234_231.out _) | exact HI234.out))) : g234 ≠ gb244)); have n13_ := Am ((by rw [hg]; exact Nat.ne_of_gt (IsS59.lt (show IsS59 w _ g234 x235000_1 from by repeat (first | (with_reducible first | exact HI234.out | apply IsS59.alloc | apply IsS59.drewN | apply IsS59.drew | refine IsS59.far ?_ NB234_230.out _ | refine IsS59.far ?_ NB234_231.out _) | exact HI234.out))) : gb244 ≠ g234)); clear HO_14 BK230 BK231 HI234 HB; have HO_14 := n0_; have BK230 := n1_; have BK231 := n2_; have HI234 := n3_; have HB := n4_; have BK244 := n5_; have GW244 := n6_; have GE244 := n7_; have NB230_244 := n8_; have NB244_230 := n9_; have NB231_244 := n10_; have NB244_231 := n11_; have NB234_244 := n12_; have NB244_234 := n13_; clear n0_ n1_ n2_ n3_ n4_ n5_ n6_ n7_ n8_ n9_ n10_ n11_ n12_ n13_ hb hbox hg; have hnb56 := NB244_230.out; have hnc56 := NB230_244.out; have hnb57 := NB244_231.out; have hnc57 := NB231_244.out; have hnb58 := NB244_234.out; have hnc58 := NB234_244.out; have hcz59_0 : w55.cell? ⟨gb244, 0, none⟩ = some (.int .i64 0) := (blk_cell BK244.out 0).trans rfl; have hcz59_1 : w55.cell? ⟨gb244, 1, none⟩ = some (.int .i64 0) := (blk_cell BK244.out 1).trans rfl; have hfz59_0 := blk_frozen BK244.out 0; have hfz59_1 := blk_frozen BK244.out 1) | ((with_reducible refine gate_dst (N := 17) rfl ?_); refine box_event ?hg (N := 17) ?hd (cs := #[.int .i64 0, .int .i64 0]) (t := 27) ?hr ?_; (case hd => rfl); (case hg => rfl); (case hr => first | (go_simp; done) | (go_simp; rfl)); intro gb245 hg w60 hbox hb; have n0_ := Am (Kd.R_below (by (with_reducible repeat (first | apply Kd.R_alloc | apply Kd.R_drewN | apply Kd.R_drew)); exact (Kd.R_mono (Kd.R_far (p := ⟨gb244, 1, none⟩) (Kd.R_far (p := ⟨gb244, 0, none⟩) (Kd.R_types HO_14.out BK244.out (by decide)) (fun _ hk => hk.2) (.int .i64 1)) (fun _ hk => hk.2) (.int .i64 1)) (fun _ h_ => h_.1))) hb); have n1_ := Am (blk_below (g := gb230) (o := .cells #[.int .i64 a0_0, .int .i64 a0_1] 27 (0, 0)) (by (with_reducible repeat (first | apply kN | apply kD | apply kA)); refine blk_far ?_ NB230_244.out _; (with_reducible repeat (first | apply kN | apply kD | apply kA)); refine blk_far ?_ NB230_244.out _; (with_reducible repeat (first | apply kN | apply kD | apply kA)); exact BK230.out) hb); have n2_ := Am (blk_below (g := gb231) (o := .cells #[.int .i64 a1_0, .int .i64 a1_1] 27 (0, 0)) (by (with_reducible repeat (first | apply kN | apply kD | apply kA)); refine blk_far ?_ NB231_244.out _; (with_reducible repeat (first | apply kN | apply kD | apply kA)); refine blk_far ?_ NB231_244.out _; (with_reducible repeat (first | apply kN | apply kD | apply kA)); exact BK231.out) hb); have n3_ := Am (IsS59.below (show IsS59 w ((w55.setCell ⟨gb244, 0, none⟩ (.int .i64 1)).setCell ⟨gb244, 1, none⟩ (.int .i64 1)) g234 x235000_1 from by repeat (first | (with_reducible first | exact HI234.out | apply IsS59.alloc | apply IsS59.drewN | apply IsS59.drew | refine IsS59.far ?_ NB234_230.out _ | refine IsS59.far ?_ NB234_231.out _ | refine IsS59.far ?_ NB234_244.out _) | exact HI234.out)) hb); have n4_ := Am (blk_below (g := gb244) (o := .cells #[.int .i64 1, .int .i64 1] 27 (0, 0)) (by (with_reducible repeat (first | apply kN | apply kD | apply kA)); refine blk_put (cs := #[.int .i64 1, .int .i64 0]) ?_ 1 _ rfl; (with_reducible repeat (first | apply kN | apply kD | apply kA)); refine blk_put (cs := #[.int .i64 0, .int .i64 0]) ?_ 0 _ rfl; (with_reducible repeat (first | apply kN | apply kD | apply kA)); exact BK244.out) hb); have n5_ := Am (below_step (by repeat (first | (with_reducible first | exact HB.out | apply bA | apply bN | apply bD | refine bS ?_ (IsS59.ge HI234.out) | refine bS ?_ GE230.out | refine bS ?_ GE231.out | refine bS ?_ GE244.out) | exact HB.out)) hb); have n6_ := Am (hbox); have n7_ := Am ((by rw [hg]; exact (below_size (by repeat (first | (with_reducible first | exact HB.out | apply bA | apply bN | apply bD | refine bS ?_ (IsS59.ge HI234.out) | refine bS ?_ GE230.out | refine bS ?_ GE231.out | refine bS ?_ GE244.out) | exact HB.out))) : w.heap.size ≤ gb245)); have n8_ := Am ((by rw [hg]; exact (below_size (by repeat (first | (with_reducible first | exact HB.out | apply bA | apply bN | apply bD | refine bS ?_ (IsS59.ge HI234.out) | refine bS ?_ GE230.out | refine bS ?_ GE231.out | refine bS ?_ GE244.out) | exact HB.out))) : w.heap.size ≤ gb245)); have n9_ := Am ((by rw [hg]; exact Nat.ne_of_lt (blk_lt (g := gb230) (o := .cells #[.int .i64 a0_0, .int .i64 a0_1] 27 (0, 0)) (by (with_reducible repeat (first | apply kN | apply kD | apply kA)); refine blk_far ?_ NB230_244.out _; (with_reducible repeat (first | apply kN | apply kD | apply kA)); refine blk_far ?_ NB230_244.out _; (with_reducible repeat (first | apply kN | apply kD | apply kA)); exact BK230.out)) : gb230 ≠ gb245)); have n10_ := Am ((by rw [hg]; exact Nat.ne_of_gt (blk_lt (g := gb230) (o := .cells #[.int .i64 a0_0, .int .i64 a0_1] 27 (0, 0)) (by (with_reducible repeat (first | apply kN | apply kD | apply kA)); refine blk_far ?_ NB230_244.out _; (with_reducible repeat (first | apply kN | apply kD | apply kA)); refine blk_far ?_ NB230_244.out _; (with_reducible repeat (first | apply kN | apply kD | apply kA)); exact BK230.out)) : gb245 ≠ gb230)); have n11_ := Am ((by rw [hg]; exact Nat.ne_of_lt (blk_lt (g := gb231) (o := .cells #[.int .i64 a1_0, .int .i64 a1_1] 27 (0, 0)) (by (with_reducible repeat (first | apply kN | apply kD | apply kA)); refine blk_far ?_ NB231_244.out _; (with_reducible repeat (first | apply kN | apply kD | apply kA)); refine blk_far ?_ NB231_244.out _; (with_reducible repeat (first | apply kN | apply kD | apply kA)); exact BK231.out)) : gb231 ≠ gb245)); have n12_ := Am ((by rw [hg]; exact Nat.ne_of_gt (blk_lt (g := gb231) (o := .cells #[.int .i64 a1_0, .int .i64 a1_1] 27 (0, 0)) (by (with_reducible repeat (first | apply kN | apply kD | apply kA)); refine blk_far ?_ NB231_244.out _; (with_reducible repeat (first | apply kN | apply kD | apply kA)); refine blk_far ?_ NB231_244.out _; (with_reducible repeat (first | apply kN | apply kD | apply kA)); exact BK231.out)) : gb245 ≠ gb231)); have n13_ := Am ((by rw [hg]; exact Nat.ne_of_lt (blk_lt (g := gb244) (o := .cells #[.int .i64 1, .int .i64 1] 27 (0, 0)) (by (with_reducible repeat (first | apply kN | apply kD | apply kA)); refine blk_put (cs := #[.int .i64 1, .int .i64 0]) ?_ 1 _ rfl; (with_reducible repeat (first | apply kN | apply kD | apply kA)); refine blk_put (cs := #[.int .i64 0, .int .i64 0]) ?_ 0 _ rfl; (with_reducible repeat (first | apply kN | apply kD | apply kA)); exact BK244.out)) : gb244 ≠ gb245)); have n14_ := Am ((by rw [hg]; exact Nat.ne_of_gt (blk_lt (g := gb244) (o := .cells #[.int .i64 1, .int .i64 1] 27 (0, 0)) (by (with_reducible repeat (first | apply kN | apply kD | apply kA)); refine blk_put (cs := #[.int .i64 1, .int .i64 0]) ?_ 1 _ rfl; (with_reducible repeat (first | apply kN | apply kD | apply kA)); refine blk_put (cs := #[.int .i64 0, .int .i64 0]) ?_ 0 _ rfl; (with_reducible repeat (first | apply kN | apply kD | apply kA)); exact BK244.out)) : gb245 ≠ gb244)); have n15_ := Am ((by rw [hg]; exact Nat.ne_of_lt (IsS59.lt (show IsS59 w _ g234 x235000_1 from by repeat (first | (with_reducible first | exact HI234.out | apply IsS59.alloc | apply IsS59.drewN | apply IsS59.drew | refine IsS59.far ?_ NB234_230.out _ | refine IsS59.far ?_ NB234_231.out _ | refine IsS59.far ?_ NB234_244.out _) | exact HI234.out))) : g234 ≠ gb245)); have n16_ := Am ((by rw [hg]; exact Nat.ne_of_gt (IsS59.lt (show IsS59 w _ g234 x235000_1 from by repeat (first | (with_reducible first | exact HI234.out | apply IsS59.alloc | apply IsS59.drewN | apply IsS59.drew | refine IsS59.far ?_ NB234_230.out _ | refine IsS59.far ?_ NB234_231.out _ | refine IsS59.far ?_ NB234_244.out _) | exact HI234.out))) : gb245 ≠ g234)); clear HO_14 BK230 BK231 HI234 BK244 HB; have HO_14 := n0_; have BK230 := n1_; have BK231 := n2_; have HI234 := n3_; have BK244 := n4_; have HB := n5_; have BK245 := n6_; have GW245 := n7_; have GE245 := n8_; have NB230_245 := n9_; have NB245_230 := n10_; have NB231_245 := n11_; have NB245_231 := n12_; have NB244_245 := n13_; have NB245_244 := n14_; have NB234_245 := n15_; have NB245_234 := n16_; clear n0_ n1_ n2_ n3_ n4_ n5_ n6_ n7_ n8_ n9_ n10_ n11_ n12_ n13_ n14_ n15_ n16_ hb hbox hg; have hnb61 := NB245_230.out; have hnc61 := NB230_245.out; have hnb62 := NB245_231.out; have hnc62 := NB231_245.out; have hnb63 := NB245_244.out; have hnc63 := NB244_245.out; have hnb64 := NB245_234.out; have hnc64 := NB234_245.out; have hcz65_0 : w60.cell? ⟨gb245, 0, none⟩ = some (.int .i64 0) := (blk_cell BK245.out 0).trans rfl; have hcz65_1 : w60.cell? ⟨gb245, 1, none⟩ = some (.int .i64 0) := (blk_cell BK245.out 1).trans rfl; have hfz65_0 := blk_frozen BK245.out 0; have hfz65_1 := blk_frozen BK245.out 1))
        have n0_ : Aside0 (Kd.R k54 54 ((w60.setCell ⟨gb245, 0, none⟩ (.int .i64 64)).setCell ⟨gb245, 1, none⟩ (.int .i64 1)) w.heap.size (fun _ => True) u14 x14_1) := ⟨by (with_reducible repeat (first | apply Kd.R_alloc | apply Kd.R_drewN | apply Kd.R_drew)); exact Kd.R_mono (Kd.R_far (p := ⟨gb245, 1, none⟩) (Kd.R_far (p := ⟨gb245, 0, none⟩) (Kd.R_types HO_14.out BK245.out (by decide)) (fun _ hk => hk.2) (.int .i64 64)) (fun _ hk => hk.2) (.int .i64 1)) (fun _ hk => trivial)⟩
        have n1_ : Aside0 (((w60.setCell ⟨gb245, 0, none⟩ (.int .i64 64)).setCell ⟨gb245, 1, none⟩ (.int .i64 1)).heap[gb230]? = some (.cells #[.int .i64 a0_0, .int .i64 a0_1] 27 (0, 0))) := ⟨by (with_reducible repeat (first | apply kN | apply kD | apply kA)); refine blk_far ?_ NB230_245.out _; (with_reducible repeat (first | apply kN | apply kD | apply kA)); refine blk_far ?_ NB230_245.out _; (with_reducible repeat (first | apply kN | apply kD | apply kA)); exact BK230.out⟩
        have n2_ : Aside0 (((w60.setCell ⟨gb245, 0, none⟩ (.int .i64 64)).setCell ⟨gb245, 1, none⟩ (.int .i64 1)).heap[gb231]? = some (.cells #[.int .i64 a1_0, .int .i64 a1_1] 27 (0, 0))) := ⟨by (with_reducible repeat (first | apply kN | apply kD | apply kA)); refine blk_far ?_ NB231_245.out _; (with_reducible repeat (first | apply kN | apply kD | apply kA)); refine blk_far ?_ NB231_245.out _; (with_reducible repeat (first | apply kN | apply kD | apply kA)); exact BK231.out⟩
        have n3_ : Aside0 (((w60.setCell ⟨gb245, 0, none⟩ (.int .i64 64)).setCell ⟨gb245, 1, none⟩ (.int .i64 1)).heap[gb244]? = some (.cells #[.int .i64 1, .int .i64 1] 27 (0, 0))) := ⟨by (with_reducible repeat (first | apply kN | apply kD | apply kA)); refine blk_far ?_ NB244_245.out _; (with_reducible repeat (first | apply kN | apply kD | apply kA)); refine blk_far ?_ NB244_245.out _; (with_reducible repeat (first | apply kN | apply kD | apply kA)); exact BK244.out⟩
        have n4_ : Aside0 (((w60.setCell ⟨gb245, 0, none⟩ (.int .i64 64)).setCell ⟨gb245, 1, none⟩ (.int .i64 1)).heap[gb245]? = some (.cells #[.int .i64 64, .int .i64 1] 27 (0, 0))) := ⟨by (with_reducible repeat (first | apply kN | apply kD | apply kA)); refine blk_put (cs := #[.int .i64 64, .int .i64 0]) ?_ 1 _ rfl; (with_reducible repeat (first | apply kN | apply kD | apply kA)); refine blk_put (cs := #[.int .i64 0, .int .i64 0]) ?_ 0 _ rfl; (with_reducible repeat (first | apply kN | apply kD | apply kA)); exact BK245.out⟩
        have n5_ : Aside0 (IsS59 w ((w60.setCell ⟨gb245, 0, none⟩ (.int .i64 64)).setCell ⟨gb245, 1, none⟩ (.int .i64 1)) g234 x235000_1) := ⟨by repeat (first | (with_reducible first | exact HI234.out | apply IsS59.alloc | apply IsS59.drewN | apply IsS59.drew | refine IsS59.far ?_ NB234_230.out _ | refine IsS59.far ?_ NB234_231.out _ | refine IsS59.far ?_ NB234_244.out _ | refine IsS59.far ?_ NB234_245.out _) | exact HI234.out)⟩
        have n6_ : Aside0 (Below w.heap.size w ((w60.setCell ⟨gb245, 0, none⟩ (.int .i64 64)).setCell ⟨gb245, 1, none⟩ (.int .i64 1))) := ⟨by repeat (first | (with_reducible first | exact HB.out | apply bA | apply bN | apply bD | refine bS ?_ (IsS59.ge HI234.out) | refine bS ?_ GE230.out | refine bS ?_ GE231.out | refine bS ?_ GE244.out | refine bS ?_ GE245.out) | exact HB.out)⟩
        (try clear HO_14); (try clear BK230); (try clear BK231); (try clear BK244); (try clear BK245); (try clear HI234); (try clear HB)
        generalize ((w60.setCell ⟨gb245, 0, none⟩ (.int .i64 64)).setCell ⟨gb245, 1, none⟩ (.int .i64 1)) = w66 at n0_ n1_ n2_ n3_ n4_ n5_ n6_ ⊢
        have HO_14 := n0_; have BK230 := n1_; have BK231 := n2_; have BK244 := n3_; have BK245 := n4_; have HI234 := n5_; have HB := n6_; clear n0_ n1_ n2_ n3_ n4_ n5_ n6_
        have n0_ := Am (Kd.R_drew HO_14.out)
        have n1_ := Am (kD BK230.out)
        have n2_ := Am (kD BK231.out)
        have n3_ := Am (kD BK244.out)
        have n4_ := Am (kD BK245.out)
        have n5_ := Am (IsS59.drew HI234.out)
        have n6_ := Am (bD HB.out)
        clear HO_14 BK230 BK231 BK244 BK245 HI234 HB; have HO_14 := n0_; have BK230 := n1_; have BK231 := n2_; have BK244 := n3_; have BK245 := n4_; have HI234 := n5_; have HB := n6_; clear n0_ n1_ n2_ n3_ n4_ n5_ n6_
        refine start_ (n := 56) (S := fun w' => w'.cell? ⟨gb230, 0, none⟩ = some (.int .i64 a0_0) ∧ w'.cell? ⟨gb230, 1, none⟩ = some (.int .i64 a0_1) ∧ w'.cell? ⟨gb231, 0, none⟩ = some (.int .i64 a1_0) ∧ w'.cell? ⟨gb231, 1, none⟩ = some (.int .i64 a1_1) ∧ w'.cell? ⟨gb244, 0, none⟩ = some (.int .i64 1) ∧ w'.cell? ⟨gb244, 1, none⟩ = some (.int .i64 1) ∧ w'.cell? ⟨gb245, 0, none⟩ = some (.int .i64 64) ∧ w'.cell? ⟨gb245, 1, none⟩ = some (.int .i64 1)) (ds := []) soundservicelaw18_ControlDeclares.q0 (by kernel_rfl) rfl rfl ⟨(blk_cell BK230.out 0).trans rfl, (blk_cell BK230.out 1).trans rfl, (blk_cell BK231.out 0).trans rfl, (blk_cell BK231.out 1).trans rfl, (blk_cell BK244.out 0).trans rfl, (blk_cell BK244.out 1).trans rfl, (blk_cell BK245.out 0).trans rfl, (blk_cell BK245.out 1).trans rfl⟩ (fun hHeld => ?_); refine with_tabW soundservicelaw18_ControlDeclares.tab13 soundservicelaw18_ControlDeclares.bits13 (fun HT_ HW_ => ?_)
        generalize w66.drew = w67 at HO_14 BK230 BK231 BK244 BK245 HI234 HB hHeld ⊢
        refine pure_ (i := 2) (N := some 45) (v := ?_) (a' := ?_) soundservicelaw18_ControlDeclares.q1 rfl rfl (any_of HT_.out (by kernel_rfl)) (fun _ _ _ h => h) (Or.inl ⟨by rfl, ?_⟩) ?_ ?_
        rotate_left; (· intro w'; go_simp; with_reducible rfl); rotate_left; (· simp only [pL, i64_w, i32_w]; rfl)
        refine pure_ (i := 3) (N := some 46) (v := ?_) (a' := ?_) soundservicelaw18_ControlDeclares.q2 rfl rfl (any_of HT_.out (by kernel_rfl)) (fun _ _ _ h => h) (Or.inl ⟨by rfl, ?_⟩) ?_ ?_
        rotate_left; (· intro w'; go_simp; with_reducible rfl); rotate_left; (· simp only [pL, i64_w, i32_w]; rfl)
        refine pure_ (i := 4) (N := some 47) (v := ?_) (a' := ?_) soundservicelaw18_ControlDeclares.q3 rfl rfl (any_of HT_.out (by kernel_rfl)) (fun _ _ _ h => h) (Or.inl ⟨by rfl, ?_⟩) ?_ ?_
        rotate_left; (· intro w'; go_simp; with_reducible rfl); rotate_left; (· simp only [pL, i64_w, i32_w]; rfl)
        refine pure_ (i := 8) (N := some 51) (v := ?_) (a' := ?_) soundservicelaw18_ControlDeclares.q4 rfl rfl (any_of HT_.out (by kernel_rfl)) (fun _ _ _ h => h) (Or.inl ⟨by rfl, ?_⟩) ?_ ?_
        rotate_left; (· intro w'; go_simp; with_reducible rfl); rotate_left; (· simp only [pL, i64_w, i32_w]; rfl)
        refine pure_ (i := 9) (N := some 52) (v := ?_) (a' := ?_) soundservicelaw18_ControlDeclares.q5 rfl rfl (any_of HT_.out (by kernel_rfl)) (fun _ _ _ h => h) (Or.inl ⟨by rfl, ?_⟩) ?_ ?_
        rotate_left; (· intro w'; go_simp; with_reducible rfl); rotate_left; (· simp only [pL, i64_w, i32_w]; rfl)
        refine pure_ (i := 10) (N := some 53) (v := ?_) (a' := ?_) soundservicelaw18_ControlDeclares.q6 rfl rfl (any_of HT_.out (by kernel_rfl)) (fun _ _ _ h => h) (Or.inl ⟨by rfl, ?_⟩) ?_ ?_
        rotate_left; (· intro w'; go_simp; with_reducible rfl); rotate_left; (· simp only [pL, i64_w, i32_w]; rfl)
        refine take_ (i := 0) (N := some 43) (v := ?_) (a' := ?_) soundservicelaw18_ControlDeclares.q7 rfl rfl (take_ofW HT_.out HW_.out (by kernel_rfl)) (fun _ _ _ h => h) (Or.inl ⟨by rfl, ?_⟩) hHeld ?_ ?_
        rotate_left; (· rintro w' ⟨s0, s1, s2, s3, s4, s5, s6, s7⟩; go_simp; with_reducible rfl); rotate_left; (· simp only [pL, i64_w, i32_w]; rfl)
        refine take_ (i := 1) (N := some 44) (v := ?_) (a' := ?_) soundservicelaw18_ControlDeclares.q8 rfl rfl (take_ofW HT_.out HW_.out (by kernel_rfl)) (fun _ _ _ h => h) (Or.inl ⟨by rfl, ?_⟩) hHeld ?_ ?_
        rotate_left; (· rintro w' ⟨s0, s1, s2, s3, s4, s5, s6, s7⟩; go_simp; with_reducible rfl); rotate_left; (· simp only [pL, i64_w, i32_w]; rfl)
        refine take_ (i := 6) (N := some 49) (v := ?_) (a' := ?_) soundservicelaw18_ControlDeclares.q9 rfl rfl (take_ofW HT_.out HW_.out (by kernel_rfl)) (fun _ _ _ h => h) (Or.inl ⟨by rfl, ?_⟩) hHeld ?_ ?_
        rotate_left; (· rintro w' ⟨s0, s1, s2, s3, s4, s5, s6, s7⟩; go_simp; with_reducible rfl); rotate_left; (· simp only [pL, i64_w, i32_w]; rfl)
        refine take_ (i := 7) (N := some 50) (v := ?_) (a' := ?_) soundservicelaw18_ControlDeclares.q10 rfl rfl (take_ofW HT_.out HW_.out (by kernel_rfl)) (fun _ _ _ h => h) (Or.inl ⟨by rfl, ?_⟩) hHeld ?_ ?_
        rotate_left; (· rintro w' ⟨s0, s1, s2, s3, s4, s5, s6, s7⟩; go_simp; with_reducible rfl); rotate_left; (· simp only [pL, i64_w, i32_w]; rfl)
        refine one_ (i := 5) (N := some 48) soundservicelaw18_ControlDeclares.q11 rfl rfl (one_of HT_.out (by kernel_rfl)) (by decide) (fun K hK => ?_)
        refine goes_ Try.func24 (by kernel_rfl) rfl #[.agg #[.int .i64 a0_0, .int .i64 a0_1], .agg #[.int .i64 a1_0, .int .i64 a1_1], .int .i64 a4, .int .i64 a5, .slice A2 l2.length c2] (by rfl) rfl rfl (by (try simp only [List.map_toArray, List.map_cons, List.map_nil]); first | done | rfl | (simp only [List.length_drop, List.length_take]; rfl)) ?_
        with_reducible refine (control_Declared.calls k1 a0_0 a0_1 a1_0 a1_1 a4 a5 _ _ l2 t246 _ ?side1 ?side2 A27.out).mono ?_
        (case side1 => repeat (first | exact (Kd.C_below HR2.out HB.out) | (with_reducible refine Kd.C_alloc ?_ _) | (with_reducible refine Kd.C_drewN ?_ _) | (with_reducible refine Kd.C_drew ?_)))
        (case side2 => exact HC2.out)
        rintro e w68 ⟨rfl, hb⟩
        refine ⟨_, rfl, ?_⟩
        have n0_ := Am (Kd.R_below (by (with_reducible repeat (first | apply Kd.R_alloc | apply Kd.R_drewN | apply Kd.R_drew)); exact HO_14.out) hb)
        have n1_ := Am (blk_below (g := gb230) (o := .cells #[.int .i64 a0_0, .int .i64 a0_1] 27 (0, 0)) (by (with_reducible repeat (first | apply kN | apply kD | apply kA)); exact BK230.out) hb)
        have n2_ := Am (blk_below (g := gb231) (o := .cells #[.int .i64 a1_0, .int .i64 a1_1] 27 (0, 0)) (by (with_reducible repeat (first | apply kN | apply kD | apply kA)); exact BK231.out) hb)
        have n3_ := Am (IsS59.below (by repeat (first | (with_reducible first | exact HI234.out | apply IsS59.alloc | apply IsS59.drewN | apply IsS59.drew | refine IsS59.far ?_ NB234_230.out _ | refine IsS59.far ?_ NB234_231.out _ | refine IsS59.far ?_ NB234_244.out _ | refine IsS59.far ?_ NB234_245.out _) | exact HI234.out)) hb)
        have n4_ := Am (blk_below (g := gb244) (o := .cells #[.int .i64 1, .int .i64 1] 27 (0, 0)) (by (with_reducible repeat (first | apply kN | apply kD | apply kA)); exact BK244.out) hb)
        have n5_ := Am (blk_below (g := gb245) (o := .cells #[.int .i64 64, .int .i64 1] 27 (0, 0)) (by (with_reducible repeat (first | apply kN | apply kD | apply kA)); exact BK245.out) hb)
        have n6_ := Am (below_step (by repeat (first | (with_reducible first | exact HB.out | apply bA | apply bN | apply bD | refine bS ?_ (IsS59.ge HI234.out) | refine bS ?_ GE230.out | refine bS ?_ GE231.out | refine bS ?_ GE244.out | refine bS ?_ GE245.out) | exact HB.out)) hb)
        clear HO_14 BK230 BK231 HI234 BK244 BK245 HB; have HO_14 := n0_; have BK230 := n1_; have BK231 := n2_; have HI234 := n3_; have BK244 := n4_; have BK245 := n5_; have HB := n6_; clear n0_ n1_ n2_ n3_ n4_ n5_ n6_; (try clear hb); (try clear hb2); (try clear hk); (try clear hi)
        refine hK.out _ _ ⟨(blk_cell BK230.out 0).trans rfl, (blk_cell BK230.out 1).trans rfl, (blk_cell BK231.out 0).trans rfl, (blk_cell BK231.out 1).trans rfl, (blk_cell BK244.out 0).trans rfl, (blk_cell BK244.out 1).trans rfl, (blk_cell BK245.out 0).trans rfl, (blk_cell BK245.out 1).trans rfl⟩ (fun hHeld => ?_)
        clear hK K
        refine norm_ (a' := ?_) ?_ ?_
        rotate_left
        ·show Act.put _ (some 48) _ = _
         simp only [pL, i64_w, i32_w]
         rfl
        refine one_ (i := 11) (N := some 54) soundservicelaw18_ControlDeclares.q12 rfl rfl (one_of HT_.out (by kernel_rfl)) (by decide) (fun K hK => ?_)
        refine goes_ Try.func25 (by kernel_rfl) rfl #[.agg #[.int .i64 a0_0, .int .i64 a0_1], .agg #[.int .i64 a1_0, .int .i64 a1_1], .int .i64 a4, .int .i64 a5, .slice A2 l2.length c2] (by rfl) rfl rfl (by (try simp only [List.map_toArray, List.map_cons, List.map_nil]); first | done | rfl | (simp only [List.length_drop, List.length_take]; rfl)) ?_
        with_reducible refine (soundserviceref18_Declared.calls k1 a0_0 a0_1 a1_0 a1_1 a4 a5 _ _ l2 t247 _ ?side1 ?side2 A28.out).mono ?_
        (case side1 => repeat (first | exact (Kd.C_below HR2.out HB.out) | (with_reducible refine Kd.C_alloc ?_ _) | (with_reducible refine Kd.C_drewN ?_ _) | (with_reducible refine Kd.C_drew ?_)))
        (case side2 => exact HC2.out)
        rintro e w69 ⟨rfl, hb⟩
        refine ⟨_, rfl, ?_⟩
        have n0_ := Am (Kd.R_below (by (with_reducible repeat (first | apply Kd.R_alloc | apply Kd.R_drewN | apply Kd.R_drew)); exact HO_14.out) hb)
        have n1_ := Am (blk_below (g := gb230) (o := .cells #[.int .i64 a0_0, .int .i64 a0_1] 27 (0, 0)) (by (with_reducible repeat (first | apply kN | apply kD | apply kA)); exact BK230.out) hb)
        have n2_ := Am (blk_below (g := gb231) (o := .cells #[.int .i64 a1_0, .int .i64 a1_1] 27 (0, 0)) (by (with_reducible repeat (first | apply kN | apply kD | apply kA)); exact BK231.out) hb)
        have n3_ := Am (IsS59.below (by repeat (first | (with_reducible first | exact HI234.out | apply IsS59.alloc | apply IsS59.drewN | apply IsS59.drew | refine IsS59.far ?_ NB234_230.out _ | refine IsS59.far ?_ NB234_231.out _ | refine IsS59.far ?_ NB234_244.out _ | refine IsS59.far ?_ NB234_245.out _) | exact HI234.out)) hb)
        have n4_ := Am (blk_below (g := gb244) (o := .cells #[.int .i64 1, .int .i64 1] 27 (0, 0)) (by (with_reducible repeat (first | apply kN | apply kD | apply kA)); exact BK244.out) hb)
        have n5_ := Am (blk_below (g := gb245) (o := .cells #[.int .i64 64, .int .i64 1] 27 (0, 0)) (by (with_reducible repeat (first | apply kN | apply kD | apply kA)); exact BK245.out) hb)
        have n6_ := Am (below_step (by repeat (first | (with_reducible first | exact HB.out | apply bA | apply bN | apply bD | refine bS ?_ (IsS59.ge HI234.out) | refine bS ?_ GE230.out | refine bS ?_ GE231.out | refine bS ?_ GE244.out | refine bS ?_ GE245.out) | exact HB.out)) hb)
        clear HO_14 BK230 BK231 HI234 BK244 BK245 HB; have HO_14 := n0_; have BK230 := n1_; have BK231 := n2_; have HI234 := n3_; have BK244 := n4_; have BK245 := n5_; have HB := n6_; clear n0_ n1_ n2_ n3_ n4_ n5_ n6_; (try clear hb); (try clear hb2); (try clear hk); (try clear hi)
        obtain ⟨Ao70, co70, eo70⟩ := Kd.R_slice HO_14.out
        (first | subst eo70 | (injection eo70 with f1_ f2_ f3_; have f4_ := f1_.symm; have f5_ := f3_.symm; clear f1_ f2_ f3_; subst f4_; subst f5_))
        refine hK.out _ _ ⟨(blk_cell BK230.out 0).trans rfl, (blk_cell BK230.out 1).trans rfl, (blk_cell BK231.out 0).trans rfl, (blk_cell BK231.out 1).trans rfl, (blk_cell BK244.out 0).trans rfl, (blk_cell BK244.out 1).trans rfl, (blk_cell BK245.out 0).trans rfl, (blk_cell BK245.out 1).trans rfl⟩ (fun hHeld => ?_)
        clear hK K
        refine norm_ (a' := ?_) ?_ ?_
        rotate_left
        ·show Act.put _ (some 54) _ = _
         simp only [pL, i64_w, i32_w]
         rfl
        refine pure_ (i := 12) (N := some 55) (v := ?_) (a' := ?_) soundservicelaw18_ControlDeclares.q13 rfl rfl (any_of HT_.out (by kernel_rfl)) (fun _ _ _ h => h) (Or.inl ⟨by rfl, ?_⟩) ?_ ?_
        rotate_left; (· intro w'; go_simp; with_reducible rfl); rotate_left; (· simp only [pL, i64_w, i32_w]; rfl)
        refine pure_ (i := 13) (N := some 56) (v := ?_) (a' := ?_) soundservicelaw18_ControlDeclares.q14 rfl rfl (any_of HT_.out (by kernel_rfl)) (fun _ _ _ h => h) (Or.inl ⟨by rfl, ?_⟩) ?_ ?_
        rotate_left; (· intro w'; go_simp; with_reducible rfl); rotate_left; (· simp only [pL, i64_w, i32_w]; rfl)
        refine pure_ (i := 16) (N := some 59) (v := ?_) (a' := ?_) soundservicelaw18_ControlDeclares.q15 rfl rfl (any_of HT_.out (by kernel_rfl)) (fun _ _ _ h => h) (Or.inl ⟨by rfl, ?_⟩) ?_ ?_
        rotate_left; (· intro w'; go_simp; with_reducible rfl); rotate_left; (· simp only [pL, i64_w, i32_w]; rfl)
        refine pure_ (i := 17) (N := some 60) (v := ?_) (a' := ?_) soundservicelaw18_ControlDeclares.q16 rfl rfl (any_of HT_.out (by kernel_rfl)) (fun _ _ _ h => h) (Or.inl ⟨by rfl, ?_⟩) ?_ ?_
        rotate_left; (· intro w'; go_simp; with_reducible rfl); rotate_left; (· simp only [pL, i64_w, i32_w]; rfl)
        refine pure_ (i := 18) (N := some 61) (v := ?_) (a' := ?_) soundservicelaw18_ControlDeclares.q17 rfl rfl (any_of HT_.out (by kernel_rfl)) (fun _ _ _ h => h) (Or.inl ⟨by rfl, ?_⟩) ?_ ?_
        rotate_left; (· intro w'; go_simp; with_reducible rfl); rotate_left; (· simp only [pL, i64_w, i32_w]; rfl)
        refine pure_ (i := 22) (N := some 65) (v := ?_) (a' := ?_) soundservicelaw18_ControlDeclares.q18 rfl rfl (any_of HT_.out (by kernel_rfl)) (fun _ _ _ h => h) (Or.inl ⟨by rfl, ?_⟩) ?_ ?_
        rotate_left; (· intro w'; go_simp; with_reducible rfl); rotate_left; (· simp only [pL, i64_w, i32_w]; rfl)
        refine pure_ (i := 23) (N := some 66) (v := ?_) (a' := ?_) soundservicelaw18_ControlDeclares.q19 rfl rfl (any_of HT_.out (by kernel_rfl)) (fun _ _ _ h => h) (Or.inl ⟨by rfl, ?_⟩) ?_ ?_
        rotate_left; (· intro w'; go_simp; with_reducible rfl); rotate_left; (· simp only [pL, i64_w, i32_w]; rfl)
        refine pure_ (i := 24) (N := some 67) (v := ?_) (a' := ?_) soundservicelaw18_ControlDeclares.q20 rfl rfl (any_of HT_.out (by kernel_rfl)) (fun _ _ _ h => h) (Or.inl ⟨by rfl, ?_⟩) ?_ ?_
        rotate_left; (· intro w'; go_simp; with_reducible rfl); rotate_left; (· simp only [pL, i64_w, i32_w]; rfl)
        refine take_ (i := 14) (N := some 57) (v := ?_) (a' := ?_) soundservicelaw18_ControlDeclares.q21 rfl rfl (take_ofW HT_.out HW_.out (by kernel_rfl)) (fun _ _ _ h => h) (Or.inl ⟨by rfl, ?_⟩) hHeld ?_ ?_
        rotate_left; (· rintro w' ⟨s0, s1, s2, s3, s4, s5, s6, s7⟩; go_simp; with_reducible rfl); rotate_left; (· simp only [pL, i64_w, i32_w]; rfl)
        refine take_ (i := 15) (N := some 58) (v := ?_) (a' := ?_) soundservicelaw18_ControlDeclares.q22 rfl rfl (take_ofW HT_.out HW_.out (by kernel_rfl)) (fun _ _ _ h => h) (Or.inl ⟨by rfl, ?_⟩) hHeld ?_ ?_
        rotate_left; (· rintro w' ⟨s0, s1, s2, s3, s4, s5, s6, s7⟩; go_simp; with_reducible rfl); rotate_left; (· simp only [pL, i64_w, i32_w]; rfl)
        refine take_ (i := 20) (N := some 63) (v := ?_) (a' := ?_) soundservicelaw18_ControlDeclares.q23 rfl rfl (take_ofW HT_.out HW_.out (by kernel_rfl)) (fun _ _ _ h => h) (Or.inl ⟨by rfl, ?_⟩) hHeld ?_ ?_
        rotate_left; (· rintro w' ⟨s0, s1, s2, s3, s4, s5, s6, s7⟩; go_simp; with_reducible rfl); rotate_left; (· simp only [pL, i64_w, i32_w]; rfl)
        refine take_ (i := 21) (N := some 64) (v := ?_) (a' := ?_) soundservicelaw18_ControlDeclares.q24 rfl rfl (take_ofW HT_.out HW_.out (by kernel_rfl)) (fun _ _ _ h => h) (Or.inl ⟨by rfl, ?_⟩) hHeld ?_ ?_
        rotate_left; (· rintro w' ⟨s0, s1, s2, s3, s4, s5, s6, s7⟩; go_simp; with_reducible rfl); rotate_left; (· simp only [pL, i64_w, i32_w]; rfl)
        refine one_ (i := 19) (N := some 62) soundservicelaw18_ControlDeclares.q25 rfl rfl (one_of HT_.out (by kernel_rfl)) (by decide) (fun K hK => ?_)
        refine goes_ Try.func24 (by kernel_rfl) rfl #[.agg #[.int .i64 1, .int .i64 1], .agg #[.int .i64 64, .int .i64 1], .int .i64 a4, .int .i64 a5, .slice Ao70 x14_1.length co70] (by rfl) rfl rfl (by (try simp only [List.map_toArray, List.map_cons, List.map_nil]); first | done | rfl | (simp only [List.length_drop, List.length_take]; rfl)) ?_
        with_reducible refine (control_Declared.calls k1 1 1 64 1 a4 a5 _ _ x14_1 t248 _ ?side1 ?side2 A30.out).mono ?_
        (case side1 => repeat (first | exact (Kd.R_reads' HO_14.out).2.2 | (with_reducible refine Kd.C_alloc ?_ _) | (with_reducible refine Kd.C_drewN ?_ _) | (with_reducible refine Kd.C_drew ?_)))
        (case side2 => exact (Kd.R_reads' HO_14.out).2.1)
        rintro e w71 ⟨rfl, hb⟩
        refine ⟨_, rfl, ?_⟩
        have n0_ := Am (Kd.R_below (by (with_reducible repeat (first | apply Kd.R_alloc | apply Kd.R_drewN | apply Kd.R_drew)); exact HO_14.out) hb)
        have n1_ := Am (blk_below (g := gb230) (o := .cells #[.int .i64 a0_0, .int .i64 a0_1] 27 (0, 0)) (by (with_reducible repeat (first | apply kN | apply kD | apply kA)); exact BK230.out) hb)
        have n2_ := Am (blk_below (g := gb231) (o := .cells #[.int .i64 a1_0, .int .i64 a1_1] 27 (0, 0)) (by (with_reducible repeat (first | apply kN | apply kD | apply kA)); exact BK231.out) hb)
        have n3_ := Am (IsS59.below (by repeat (first | (with_reducible first | exact HI234.out | apply IsS59.alloc | apply IsS59.drewN | apply IsS59.drew | refine IsS59.far ?_ NB234_230.out _ | refine IsS59.far ?_ NB234_231.out _ | refine IsS59.far ?_ NB234_244.out _ | refine IsS59.far ?_ NB234_245.out _) | exact HI234.out)) hb)
        have n4_ := Am (blk_below (g := gb244) (o := .cells #[.int .i64 1, .int .i64 1] 27 (0, 0)) (by (with_reducible repeat (first | apply kN | apply kD | apply kA)); exact BK244.out) hb)
        have n5_ := Am (blk_below (g := gb245) (o := .cells #[.int .i64 64, .int .i64 1] 27 (0, 0)) (by (with_reducible repeat (first | apply kN | apply kD | apply kA)); exact BK245.out) hb)
        have n6_ := Am (below_step (by repeat (first | (with_reducible first | exact HB.out | apply bA | apply bN | apply bD | refine bS ?_ (IsS59.ge HI234.out) | refine bS ?_ GE230.out | refine bS ?_ GE231.out | refine bS ?_ GE244.out | refine bS ?_ GE245.out) | exact HB.out)) hb)
        clear HO_14 BK230 BK231 HI234 BK244 BK245 HB; have HO_14 := n0_; have BK230 := n1_; have BK231 := n2_; have HI234 := n3_; have BK244 := n4_; have BK245 := n5_; have HB := n6_; clear n0_ n1_ n2_ n3_ n4_ n5_ n6_; (try clear hb); (try clear hb2); (try clear hk); (try clear hi)
        refine hK.out _ _ ⟨(blk_cell BK230.out 0).trans rfl, (blk_cell BK230.out 1).trans rfl, (blk_cell BK231.out 0).trans rfl, (blk_cell BK231.out 1).trans rfl, (blk_cell BK244.out 0).trans rfl, (blk_cell BK244.out 1).trans rfl, (blk_cell BK245.out 0).trans rfl, (blk_cell BK245.out 1).trans rfl⟩ (fun hHeld => ?_)
        clear hK K
        refine norm_ (a' := ?_) ?_ ?_
        rotate_left
        ·show Act.put _ (some 62) _ = _
         simp only [pL, i64_w, i32_w]
         rfl
        refine one_ (i := 25) (N := some 68) soundservicelaw18_ControlDeclares.q26 rfl rfl (one_of HT_.out (by kernel_rfl)) (by decide) (fun K hK => ?_)
        refine goes_ Try.func25 (by kernel_rfl) rfl #[.agg #[.int .i64 1, .int .i64 1], .agg #[.int .i64 64, .int .i64 1], .int .i64 a4, .int .i64 a5, .slice Ao70 x14_1.length co70] (by rfl) rfl rfl (by (try simp only [List.map_toArray, List.map_cons, List.map_nil]); first | done | rfl | (simp only [List.length_drop, List.length_take]; rfl)) ?_
        with_reducible refine (soundserviceref18_Declared.calls k1 1 1 64 1 a4 a5 _ _ x14_1 t249 _ ?side1 ?side2 A31.out).mono ?_
        (case side1 => repeat (first | exact (Kd.R_reads' HO_14.out).2.2 | (with_reducible refine Kd.C_alloc ?_ _) | (with_reducible refine Kd.C_drewN ?_ _) | (with_reducible refine Kd.C_drew ?_)))
        (case side2 => exact (Kd.R_reads' HO_14.out).2.1)
        rintro e w72 ⟨rfl, hb⟩
        refine ⟨_, rfl, ?_⟩
        have n0_ := Am (Kd.R_below (by (with_reducible repeat (first | apply Kd.R_alloc | apply Kd.R_drewN | apply Kd.R_drew)); exact HO_14.out) hb)
        have n1_ := Am (blk_below (g := gb230) (o := .cells #[.int .i64 a0_0, .int .i64 a0_1] 27 (0, 0)) (by (with_reducible repeat (first | apply kN | apply kD | apply kA)); exact BK230.out) hb)
        have n2_ := Am (blk_below (g := gb231) (o := .cells #[.int .i64 a1_0, .int .i64 a1_1] 27 (0, 0)) (by (with_reducible repeat (first | apply kN | apply kD | apply kA)); exact BK231.out) hb)
        have n3_ := Am (IsS59.below (by repeat (first | (with_reducible first | exact HI234.out | apply IsS59.alloc | apply IsS59.drewN | apply IsS59.drew | refine IsS59.far ?_ NB234_230.out _ | refine IsS59.far ?_ NB234_231.out _ | refine IsS59.far ?_ NB234_244.out _ | refine IsS59.far ?_ NB234_245.out _) | exact HI234.out)) hb)
        have n4_ := Am (blk_below (g := gb244) (o := .cells #[.int .i64 1, .int .i64 1] 27 (0, 0)) (by (with_reducible repeat (first | apply kN | apply kD | apply kA)); exact BK244.out) hb)
        have n5_ := Am (blk_below (g := gb245) (o := .cells #[.int .i64 64, .int .i64 1] 27 (0, 0)) (by (with_reducible repeat (first | apply kN | apply kD | apply kA)); exact BK245.out) hb)
        have n6_ := Am (below_step (by repeat (first | (with_reducible first | exact HB.out | apply bA | apply bN | apply bD | refine bS ?_ (IsS59.ge HI234.out) | refine bS ?_ GE230.out | refine bS ?_ GE231.out | refine bS ?_ GE244.out | refine bS ?_ GE245.out) | exact HB.out)) hb)
        clear HO_14 BK230 BK231 HI234 BK244 BK245 HB; have HO_14 := n0_; have BK230 := n1_; have BK231 := n2_; have HI234 := n3_; have BK244 := n4_; have BK245 := n5_; have HB := n6_; clear n0_ n1_ n2_ n3_ n4_ n5_ n6_; (try clear hb); (try clear hb2); (try clear hk); (try clear hi)
        refine hK.out _ _ ⟨(blk_cell BK230.out 0).trans rfl, (blk_cell BK230.out 1).trans rfl, (blk_cell BK231.out 0).trans rfl, (blk_cell BK231.out 1).trans rfl, (blk_cell BK244.out 0).trans rfl, (blk_cell BK244.out 1).trans rfl, (blk_cell BK245.out 0).trans rfl, (blk_cell BK245.out 1).trans rfl⟩ (fun hHeld => ?_)
        clear hK K
        refine norm_ (a' := ?_) ?_ ?_
        rotate_left
        ·show Act.put _ (some 68) _ = _
         simp only [pL, i64_w, i32_w]
         rfl
        refine pure_ (i := 26) (N := some 69) (v := ?_) (a' := ?_) soundservicelaw18_ControlDeclares.q27 rfl rfl (any_of HT_.out (by kernel_rfl)) (fun _ _ _ h => h) (Or.inl ⟨by rfl, ?_⟩) ?_ ?_
        rotate_left; (· intro w'; go_simp; with_reducible rfl); rotate_left; (· simp only [pL, i64_w, i32_w]; rfl)
        refine pure_ (i := 27) (N := some 70) (v := ?_) (a' := ?_) soundservicelaw18_ControlDeclares.q28 rfl rfl (any_of HT_.out (by kernel_rfl)) (fun _ _ _ h => h) (Or.inl ⟨by rfl, ?_⟩) ?_ ?_
        rotate_left; (· intro w'; go_simp; with_reducible rfl); rotate_left; (· simp only [pL, i64_w, i32_w]; rfl)
        refine pure_ (i := 28) (N := some 71) (v := ?_) (a' := ?_) soundservicelaw18_ControlDeclares.q29 rfl rfl (any_of HT_.out (by kernel_rfl)) (fun _ _ _ h => h) (Or.inl ⟨by rfl, ?_⟩) ?_ ?_
        rotate_left; (· intro w'; go_simp; with_reducible rfl); rotate_left; (· simp only [pL, i64_w, i32_w]; rfl)
        refine pure_ (i := 29) (N := some 72) (v := undef) (a' := ?_) soundservicelaw18_ControlDeclares.q57 rfl rfl (any_of HT_.out (by kernel_rfl)) (fun _ _ _ h => h) (Or.inr ⟨by rfl, rfl⟩) ?_ ?_
        rotate_left
        ·simp only [pL, i64_w, i32_w]
         rfl
        refine pure_ (i := 30) (N := some 73) (v := undef) (a' := ?_) soundservicelaw18_ControlDeclares.q58 rfl rfl (any_of HT_.out (by kernel_rfl)) (fun _ _ _ h => h) (Or.inr ⟨by rfl, rfl⟩) ?_ ?_
        rotate_left
        ·simp only [pL, i64_w, i32_w]
         rfl
        refine pure_ (i := 31) (N := some 74) (v := undef) (a' := ?_) soundservicelaw18_ControlDeclares.q59 rfl rfl (any_of HT_.out (by kernel_rfl)) (fun _ _ _ h => h) (Or.inr ⟨by rfl, rfl⟩) ?_ ?_
        rotate_left
        ·simp only [pL, i64_w, i32_w]
         rfl
        refine pure_ (i := 32) (N := some 75) (v := undef) (a' := ?_) soundservicelaw18_ControlDeclares.q60 rfl rfl (any_of HT_.out (by kernel_rfl)) (fun _ _ _ h => h) (Or.inr ⟨by rfl, rfl⟩) ?_ ?_
        rotate_left
        ·simp only [pL, i64_w, i32_w]
         rfl
        refine pure_ (i := 33) (N := some 76) (v := undef) (a' := ?_) soundservicelaw18_ControlDeclares.q61 rfl rfl (any_of HT_.out (by kernel_rfl)) (fun _ _ _ h => h) (Or.inr ⟨by rfl, rfl⟩) ?_ ?_
        rotate_left
        ·simp only [pL, i64_w, i32_w]
         rfl
        refine pure_ (i := 34) (N := some 77) (v := undef) (a' := ?_) soundservicelaw18_ControlDeclares.q62 rfl rfl (any_of HT_.out (by kernel_rfl)) (fun _ _ _ h => h) (Or.inr ⟨by rfl, rfl⟩) ?_ ?_
        rotate_left
        ·simp only [pL, i64_w, i32_w]
         rfl
        refine pure_ (i := 35) (N := some 78) (v := undef) (a' := ?_) soundservicelaw18_ControlDeclares.q63 rfl rfl (any_of HT_.out (by kernel_rfl)) (fun _ _ _ h => h) (Or.inr ⟨by rfl, rfl⟩) ?_ ?_
        rotate_left
        ·simp only [pL, i64_w, i32_w]
         rfl
        refine pure_ (i := 36) (N := some 79) (v := undef) (a' := ?_) soundservicelaw18_ControlDeclares.q64 rfl rfl (any_of HT_.out (by kernel_rfl)) (fun _ _ _ h => h) (Or.inr ⟨by rfl, rfl⟩) ?_ ?_
        rotate_left
        ·simp only [pL, i64_w, i32_w]
         rfl
        refine pure_ (i := 37) (N := some 80) (v := undef) (a' := ?_) soundservicelaw18_ControlDeclares.q65 rfl rfl (any_of HT_.out (by kernel_rfl)) (fun _ _ _ h => h) (Or.inr ⟨by rfl, rfl⟩) ?_ ?_
        rotate_left
        ·simp only [pL, i64_w, i32_w]
         rfl
        refine pure_ (i := 38) (N := some 81) (v := undef) (a' := ?_) soundservicelaw18_ControlDeclares.q66 rfl rfl (any_of HT_.out (by kernel_rfl)) (fun _ _ _ h => h) (Or.inr ⟨by rfl, rfl⟩) ?_ ?_
        rotate_left
        ·simp only [pL, i64_w, i32_w]
         rfl
        refine pure_ (i := 39) (N := some 82) (v := undef) (a' := ?_) soundservicelaw18_ControlDeclares.q67 rfl rfl (any_of HT_.out (by kernel_rfl)) (fun _ _ _ h => h) (Or.inr ⟨by rfl, rfl⟩) ?_ ?_
        rotate_left
        ·simp only [pL, i64_w, i32_w]
         rfl
        refine pure_ (i := 40) (N := some 83) (v := undef) (a' := ?_) soundservicelaw18_ControlDeclares.q68 rfl rfl (any_of HT_.out (by kernel_rfl)) (fun _ _ _ h => h) (Or.inr ⟨by rfl, rfl⟩) ?_ ?_
        rotate_left
        ·simp only [pL, i64_w, i32_w]
         rfl
        refine pure_ (i := 41) (N := some 84) (v := undef) (a' := ?_) soundservicelaw18_ControlDeclares.q69 rfl rfl (any_of HT_.out (by kernel_rfl)) (fun _ _ _ h => h) (Or.inr ⟨by rfl, rfl⟩) ?_ ?_
        rotate_left
        ·simp only [pL, i64_w, i32_w]
         rfl
        refine pure_ (i := 42) (N := some 85) (v := undef) (a' := ?_) soundservicelaw18_ControlDeclares.q70 rfl rfl (any_of HT_.out (by kernel_rfl)) (fun _ _ _ h => h) (Or.inr ⟨by rfl, rfl⟩) ?_ ?_
        rotate_left
        ·simp only [pL, i64_w, i32_w]
         rfl
        refine pure_ (i := 43) (N := some 86) (v := undef) (a' := ?_) soundservicelaw18_ControlDeclares.q71 rfl rfl (any_of HT_.out (by kernel_rfl)) (fun _ _ _ h => h) (Or.inr ⟨by rfl, rfl⟩) ?_ ?_
        rotate_left
        ·simp only [pL, i64_w, i32_w]
         rfl
        refine pure_ (i := 44) (N := some 87) (v := undef) (a' := ?_) soundservicelaw18_ControlDeclares.q72 rfl rfl (any_of HT_.out (by kernel_rfl)) (fun _ _ _ h => h) (Or.inr ⟨by rfl, rfl⟩) ?_ ?_
        rotate_left
        ·simp only [pL, i64_w, i32_w]
         rfl
        refine pure_ (i := 45) (N := some 88) (v := undef) (a' := ?_) soundservicelaw18_ControlDeclares.q73 rfl rfl (any_of HT_.out (by kernel_rfl)) (fun _ _ _ h => h) (Or.inr ⟨by rfl, rfl⟩) ?_ ?_
        rotate_left
        ·simp only [pL, i64_w, i32_w]
         rfl
        refine pure_ (i := 46) (N := some 89) (v := undef) (a' := ?_) soundservicelaw18_ControlDeclares.q74 rfl rfl (any_of HT_.out (by kernel_rfl)) (fun _ _ _ h => h) (Or.inr ⟨by rfl, rfl⟩) ?_ ?_
        rotate_left
        ·simp only [pL, i64_w, i32_w]
         rfl
        refine pure_ (i := 47) (N := some 90) (v := undef) (a' := ?_) soundservicelaw18_ControlDeclares.q75 rfl rfl (any_of HT_.out (by kernel_rfl)) (fun _ _ _ h => h) (Or.inr ⟨by rfl, rfl⟩) ?_ ?_
        rotate_left
        ·simp only [pL, i64_w, i32_w]
         rfl
        refine pure_ (i := 48) (N := some 91) (v := undef) (a' := ?_) soundservicelaw18_ControlDeclares.q76 rfl rfl (any_of HT_.out (by kernel_rfl)) (fun _ _ _ h => h) (Or.inr ⟨by rfl, rfl⟩) ?_ ?_
        rotate_left
        ·simp only [pL, i64_w, i32_w]
         rfl
        refine pure_ (i := 49) (N := some 92) (v := undef) (a' := ?_) soundservicelaw18_ControlDeclares.q77 rfl rfl (any_of HT_.out (by kernel_rfl)) (fun _ _ _ h => h) (Or.inr ⟨by rfl, rfl⟩) ?_ ?_
        rotate_left
        ·simp only [pL, i64_w, i32_w]
         rfl
        refine pure_ (i := 50) (N := some 93) (v := undef) (a' := ?_) soundservicelaw18_ControlDeclares.q78 rfl rfl (any_of HT_.out (by kernel_rfl)) (fun _ _ _ h => h) (Or.inr ⟨by rfl, rfl⟩) ?_ ?_
        rotate_left
        ·simp only [pL, i64_w, i32_w]
         rfl
        refine pure_ (i := 51) (N := some 94) (v := undef) (a' := ?_) soundservicelaw18_ControlDeclares.q52 rfl rfl (any_of HT_.out (by kernel_rfl)) (fun _ _ _ h => h) (Or.inr ⟨by rfl, rfl⟩) ?_ ?_
        rotate_left
        ·simp only [pL, i64_w, i32_w]
         rfl
        refine pure_ (i := 52) (N := some 95) (v := undef) (a' := ?_) soundservicelaw18_ControlDeclares.q53 rfl rfl (any_of HT_.out (by kernel_rfl)) (fun _ _ _ h => h) (Or.inr ⟨by rfl, rfl⟩) ?_ ?_
        rotate_left
        ·simp only [pL, i64_w, i32_w]
         rfl
        refine pure_ (i := 53) (N := some 96) (v := undef) (a' := ?_) soundservicelaw18_ControlDeclares.q54 rfl rfl (any_of HT_.out (by kernel_rfl)) (fun _ _ _ h => h) (Or.inr ⟨by rfl, rfl⟩) ?_ ?_
        rotate_left
        ·simp only [pL, i64_w, i32_w]
         rfl
        refine pure_ (i := 54) (N := some 97) (v := ?_) (a' := ?_) soundservicelaw18_ControlDeclares.q55 rfl rfl (any_of HT_.out (by kernel_rfl)) (fun _ _ _ h => h) (Or.inl ⟨by rfl, ?_⟩) ?_ ?_
        rotate_left; (· intro w'; go_simp; with_reducible rfl); rotate_left; (· simp only [pL, i64_w, i32_w]; rfl)
        refine pure_ (i := 55) (N := some 12) (v := ?_) (a' := ?_) soundservicelaw18_ControlDeclares.q56 rfl rfl (any_of HT_.out (by kernel_rfl)) (fun _ _ _ h => h) (Or.inl ⟨by rfl, ?_⟩) ?_ ?_
        rotate_left; (· intro w'; go_simp; with_reducible rfl); rotate_left; (· simp only [pL, i64_w, i32_w]; rfl)
        refine done_ (done_of HT_.out (by kernel_rfl)) ?_
        try go_wp2
        go_ret
        exact ⟨by first | rfl | (simp [errW_none, errW_some] <;> rfl) | (simp [*, errW_none, errW_some] <;> rfl), by repeat (first | (with_reducible first | exact HB.out | apply bA | apply bN | apply bD | refine bS ?_ (IsS59.ge HI234.out) | refine bS ?_ GE230.out | refine bS ?_ GE231.out | refine bS ?_ GE244.out | refine bS ?_ GE245.out) | exact HB.out)⟩
      ·rw [if_neg c29] at H
       have c29b0 : (t246 == t247) = false := by simpa using c29
       (try (have c29b1 : decide (t246 = t247) = false := by simpa using c29))
       (try (have c29b2 : (t246 == t247) = false := by simpa using c29))
       (try (have c29b3 : ¬ (t246 = t247) := by simpa using c29))
       clear c29
       obtain rfl := Option.some.inj H
       try go_wp2_with (first | ((with_reducible refine gate_dst (N := 16) rfl ?_); refine box_event ?hg (N := 16) ?hd (cs := #[.int .i64 0, .int .i64 0]) (t := 27) ?hr ?_; (case hd => rfl); (case hg => rfl); (case hr => first | (go_simp; done) | (go_simp; rfl)); intro gb244 hg w73 hbox hb; have n0_ := Am (Kd.R_below (by (with_reducible repeat (first | apply Kd.R_alloc | apply Kd.R_drewN | apply Kd.R_drew)); exact HO_14.out) hb); have n1_ := Am (blk_below (g := gb230) (o := .cells #[.int .i64 a0_0, .int .i64 a0_1] 27 (0, 0)) (by (with_reducible repeat (first | apply kN | apply kD | apply kA)); exact BK230.out) hb); have n2_ := Am (blk_below (g := gb231) (o := .cells #[.int .i64 a1_0, .int .i64 a1_1] 27 (0, 0)) (by (with_reducible repeat (first | apply kN | apply kD | apply kA)); exact BK231.out) hb); have n3_ := Am (IsS59.below (by repeat (first | (with_reducible first | exact HI234.out | apply IsS59.alloc | apply IsS59.drewN | apply IsS59.drew | refine IsS59.far ?_ NB234_230.out _ | refine IsS59.far ?_ NB234_231.out _) | exact HI234.out)) hb); have n4_ := Am (below_step (by repeat (first | (with_reducible first | exact HB.out | apply bA | apply bN | apply bD | refine bS ?_ (IsS59.ge HI234.out) | refine bS ?_ GE230.out | refine bS ?_ GE231.out) | exact HB.out)) hb); have n5_ := Am (hbox); have n6_ := Am ((by rw [hg]; exact (below_size (by repeat (first | (with_reducible first | exact HB.out | apply bA | apply bN | apply bD | refine bS ?_ (IsS59.ge HI234.out) | refine bS ?_ GE230.out | refine bS ?_ GE231.out) | exact HB.out))) : w.heap.size ≤ gb244)); have n7_ := Am ((by rw [hg]; exact (below_size (by repeat (first | (with_reducible first | exact HB.out | apply bA | apply bN | apply bD | refine bS ?_ (IsS59.ge HI234.out) | refine bS ?_ GE230.out | refine bS ?_ GE231.out) | exact HB.out))) : w.heap.size ≤ gb244)); have n8_ := Am ((by rw [hg]; exact Nat.ne_of_lt (blk_lt (g := gb230) (o := .cells #[.int .i64 a0_0, .int .i64 a0_1] 27 (0, 0)) (by (with_reducible repeat (first | apply kN | apply kD | apply kA)); exact BK230.out)) : gb230 ≠ gb244)); have n9_ := Am ((by rw [hg]; exact Nat.ne_of_gt (blk_lt (g := gb230) (o := .cells #[.int .i64 a0_0, .int .i64 a0_1] 27 (0, 0)) (by (with_reducible repeat (first | apply kN | apply kD | apply kA)); exact BK230.out)) : gb244 ≠ gb230)); have n10_ := Am ((by rw [hg]; exact Nat.ne_of_lt (blk_lt (g := gb231) (o := .cells #[.int .i64 a1_0, .int .i64 a1_1] 27 (0, 0)) (by (with_reducible repeat (first | apply kN | apply kD | apply kA)); exact BK231.out)) : gb231 ≠ gb244)); have n11_ := Am ((by rw [hg]; exact Nat.ne_of_gt (blk_lt (g := gb231) (o := .cells #[.int .i64 a1_0, .int .i64 a1_1] 27 (0, 0)) (by (with_reducible repeat (first | apply kN | apply kD | apply kA)); exact BK231.out)) : gb244 ≠ gb231)); have n12_ := Am ((by rw [hg]; exact Nat.ne_of_lt (IsS59.lt (show IsS59 w _ g234 x235000_1 from by repeat (first | (with_reducible first | exact HI234.out | apply IsS59.alloc | apply IsS59.drewN | apply IsS59.drew | refine IsS59.far ?_ NB234_230.out _ | refine IsS59.far ?_ NB234_231.out _) | exact HI234.out))) : g234 ≠ gb244)); have n13_ := Am ((by rw [hg]; exact Nat.ne_of_gt (IsS59.lt (show IsS59 w _ g234 x235000_1 from by repeat (first | (with_reducible first | exact HI234.out | apply IsS59.alloc | apply IsS59.drewN | apply IsS59.drew | refine IsS59.far ?_ NB234_230.out _ | refine IsS59.far ?_ NB234_231.out _) | exact HI234.out))) : gb244 ≠ g234)); clear HO_14 BK230 BK231 HI234 HB; have HO_14 := n0_; have BK230 := n1_; have BK231 := n2_; have HI234 := n3_; have HB := n4_; have BK244 := n5_; have GW244 := n6_; have GE244 := n7_; have NB230_244 := n8_; have NB244_230 := n9_; have NB231_244 := n10_; have NB244_231 := n11_; have NB234_244 := n12_; have NB244_234 := n13_; clear n0_ n1_ n2_ n3_ n4_ n5_ n6_ n7_ n8_ n9_ n10_ n11_ n12_ n13_ hb hbox hg; have hnb74 := NB244_230.out; have hnc74 := NB230_244.out; have hnb75 := NB244_231.out; have hnc75 := NB231_244.out; have hnb76 := NB244_234.out; have hnc76 := NB234_244.out; have hcz77_0 : w73.cell? ⟨gb244, 0, none⟩ = some (.int .i64 0) := (blk_cell BK244.out 0).trans rfl; have hcz77_1 : w73.cell? ⟨gb244, 1, none⟩ = some (.int .i64 0) := (blk_cell BK244.out 1).trans rfl; have hfz77_0 := blk_frozen BK244.out 0; have hfz77_1 := blk_frozen BK244.out 1) | ((with_reducible refine gate_dst (N := 17) rfl ?_); refine box_event ?hg (N := 17) ?hd (cs := #[.int .i64 0, .int .i64 0]) (t := 27) ?hr ?_; (case hd => rfl); (case hg => rfl); (case hr => first | (go_simp; done) | (go_simp; rfl)); intro gb245 hg w78 hbox hb; have n0_ := Am (Kd.R_below (by (with_reducible repeat (first | apply Kd.R_alloc | apply Kd.R_drewN | apply Kd.R_drew)); exact (Kd.R_mono (Kd.R_far (p := ⟨gb244, 1, none⟩) (Kd.R_far (p := ⟨gb244, 0, none⟩) (Kd.R_types HO_14.out BK244.out (by decide)) (fun _ hk => hk.2) (.int .i64 1)) (fun _ hk => hk.2) (.int .i64 1)) (fun _ h_ => h_.1))) hb); have n1_ := Am (blk_below (g := gb230) (o := .cells #[.int .i64 a0_0, .int .i64 a0_1] 27 (0, 0)) (by (with_reducible repeat (first | apply kN | apply kD | apply kA)); refine blk_far ?_ NB230_244.out _; (with_reducible repeat (first | apply kN | apply kD | apply kA)); refine blk_far ?_ NB230_244.out _; (with_reducible repeat (first | apply kN | apply kD | apply kA)); exact BK230.out) hb); have n2_ := Am (blk_below (g := gb231) (o := .cells #[.int .i64 a1_0, .int .i64 a1_1] 27 (0, 0)) (by (with_reducible repeat (first | apply kN | apply kD | apply kA)); refine blk_far ?_ NB231_244.out _; (with_reducible repeat (first | apply kN | apply kD | apply kA)); refine blk_far ?_ NB231_244.out _; (with_reducible repeat (first | apply kN | apply kD | apply kA)); exact BK231.out) hb); have n3_ := Am (IsS59.below (show IsS59 w ((w73.setCell ⟨gb244, 0, none⟩ (.int .i64 1)).setCell ⟨gb244, 1, none⟩ (.int .i64 1)) g234 x235000_1 from by repeat (first | (with_reducible first | exact HI234.out | apply IsS59.alloc | apply IsS59.drewN | apply IsS59.drew | refine IsS59.far ?_ NB234_230.out _ | refine IsS59.far ?_ NB234_231.out _ | refine IsS59.far ?_ NB234_244.out _) | exact HI234.out)) hb); have n4_ := Am (blk_below (g := gb244) (o := .cells #[.int .i64 1, .int .i64 1] 27 (0, 0)) (by (with_reducible repeat (first | apply kN | apply kD | apply kA)); refine blk_put (cs := #[.int .i64 1, .int .i64 0]) ?_ 1 _ rfl; (with_reducible repeat (first | apply kN | apply kD | apply kA)); refine blk_put (cs := #[.int .i64 0, .int .i64 0]) ?_ 0 _ rfl; (with_reducible repeat (first | apply kN | apply kD | apply kA)); exact BK244.out) hb); have n5_ := Am (below_step (by repeat (first | (with_reducible first | exact HB.out | apply bA | apply bN | apply bD | refine bS ?_ (IsS59.ge HI234.out) | refine bS ?_ GE230.out | refine bS ?_ GE231.out | refine bS ?_ GE244.out) | exact HB.out)) hb); have n6_ := Am (hbox); have n7_ := Am ((by rw [hg]; exact (below_size (by repeat (first | (with_reducible first | exact HB.out | apply bA | apply bN | apply bD | refine bS ?_ (IsS59.ge HI234.out) | refine bS ?_ GE230.out | refine bS ?_ GE231.out | refine bS ?_ GE244.out) | exact HB.out))) : w.heap.size ≤ gb245)); have n8_ := Am ((by rw [hg]; exact (below_size (by repeat (first | (with_reducible first | exact HB.out | apply bA | apply bN | apply bD | refine bS ?_ (IsS59.ge HI234.out) | refine bS ?_ GE230.out | refine bS ?_ GE231.out | refine bS ?_ GE244.out) | exact HB.out))) : w.heap.size ≤ gb245)); have n9_ := Am ((by rw [hg]; exact Nat.ne_of_lt (blk_lt (g := gb230) (o := .cells #[.int .i64 a0_0, .int .i64 a0_1] 27 (0, 0)) (by (with_reducible repeat (first | apply kN | apply kD | apply kA)); refine blk_far ?_ NB230_244.out _; (with_reducible repeat (first | apply kN | apply kD | apply kA)); refine blk_far ?_ NB230_244.out _; (with_reducible repeat (first | apply kN | apply kD | apply kA)); exact BK230.out)) : gb230 ≠ gb245)); have n10_ := Am ((by rw [hg]; exact Nat.ne_of_gt (blk_lt (g := gb230) (o := .cells #[.int .i64 a0_0, .int .i64 a0_1] 27 (0, 0)) (by (with_reducible repeat (first | apply kN | apply kD | apply kA)); refine blk_far ?_ NB230_244.out _; (with_reducible repeat (first | apply kN | apply kD | apply kA)); refine blk_far ?_ NB230_244.out _; (with_reducible repeat (first | apply kN | apply kD | apply kA)); exact BK230.out)) : gb245 ≠ gb230)); have n11_ := Am ((by rw [hg]; exact Nat.ne_of_lt (blk_lt (g := gb231) (o := .cells #[.int .i64 a1_0, .int .i64 a1_1] 27 (0, 0)) (by (with_reducible repeat (first | apply kN | apply kD | apply kA)); refine blk_far ?_ NB231_244.out _; (with_reducible repeat (first | apply kN | apply kD | apply kA)); refine blk_far ?_ NB231_244.out _; (with_reducible repeat (first | apply kN | apply kD | apply kA)); exact BK231.out)) : gb231 ≠ gb245)); have n12_ := Am ((by rw [hg]; exact Nat.ne_of_gt (blk_lt (g := gb231) (o := .cells #[.int .i64 a1_0, .int .i64 a1_1] 27 (0, 0)) (by (with_reducible repeat (first | apply kN | apply kD | apply kA)); refine blk_far ?_ NB231_244.out _; (with_reducible repeat (first | apply kN | apply kD | apply kA)); refine blk_far ?_ NB231_244.out _; (with_reducible repeat (first | apply kN | apply kD | apply kA)); exact BK231.out)) : gb245 ≠ gb231)); have n13_ := Am ((by rw [hg]; exact Nat.ne_of_lt (blk_lt (g := gb244) (o := .cells #[.int .i64 1, .int .i64 1] 27 (0, 0)) (by (with_reducible repeat (first | apply kN | apply kD | apply kA)); refine blk_put (cs := #[.int .i64 1, .int .i64 0]) ?_ 1 _ rfl; (with_reducible repeat (first | apply kN | apply kD | apply kA)); refine blk_put (cs := #[.int .i64 0, .int .i64 0]) ?_ 0 _ rfl; (with_reducible repeat (first | apply kN | apply kD | apply kA)); exact BK244.out)) : gb244 ≠ gb245)); have n14_ := Am ((by rw [hg]; exact Nat.ne_of_gt (blk_lt (g := gb244) (o := .cells #[.int .i64 1, .int .i64 1] 27 (0, 0)) (by (with_reducible repeat (first | apply kN | apply kD | apply kA)); refine blk_put (cs := #[.int .i64 1, .int .i64 0]) ?_ 1 _ rfl; (with_reducible repeat (first | apply kN | apply kD | apply kA)); refine blk_put (cs := #[.int .i64 0, .int .i64 0]) ?_ 0 _ rfl; (with_reducible repeat (first | apply kN | apply kD | apply kA)); exact BK244.out)) : gb245 ≠ gb244)); have n15_ := Am ((by rw [hg]; exact Nat.ne_of_lt (IsS59.lt (show IsS59 w _ g234 x235000_1 from by repeat (first | (with_reducible first | exact HI234.out | apply IsS59.alloc | apply IsS59.drewN | apply IsS59.drew | refine IsS59.far ?_ NB234_230.out _ | refine IsS59.far ?_ NB234_231.out _ | refine IsS59.far ?_ NB234_244.out _) | exact HI234.out))) : g234 ≠ gb245)); have n16_ := Am ((by rw [hg]; exact Nat.ne_of_gt (IsS59.lt (show IsS59 w _ g234 x235000_1 from by repeat (first | (with_reducible first | exact HI234.out | apply IsS59.alloc | apply IsS59.drewN | apply IsS59.drew | refine IsS59.far ?_ NB234_230.out _ | refine IsS59.far ?_ NB234_231.out _ | refine IsS59.far ?_ NB234_244.out _) | exact HI234.out))) : gb245 ≠ g234)); clear HO_14 BK230 BK231 HI234 BK244 HB; have HO_14 := n0_; have BK230 := n1_; have BK231 := n2_; have HI234 := n3_; have BK244 := n4_; have HB := n5_; have BK245 := n6_; have GW245 := n7_; have GE245 := n8_; have NB230_245 := n9_; have NB245_230 := n10_; have NB231_245 := n11_; have NB245_231 := n12_; have NB244_245 := n13_; have NB245_244 := n14_; have NB234_245 := n15_; have NB245_234 := n16_; clear n0_ n1_ n2_ n3_ n4_ n5_ n6_ n7_ n8_ n9_ n10_ n11_ n12_ n13_ n14_ n15_ n16_ hb hbox hg; have hnb79 := NB245_230.out; have hnc79 := NB230_245.out; have hnb80 := NB245_231.out; have hnc80 := NB231_245.out; have hnb81 := NB245_244.out; have hnc81 := NB244_245.out; have hnb82 := NB245_234.out; have hnc82 := NB234_245.out; have hcz83_0 : w78.cell? ⟨gb245, 0, none⟩ = some (.int .i64 0) := (blk_cell BK245.out 0).trans rfl; have hcz83_1 : w78.cell? ⟨gb245, 1, none⟩ = some (.int .i64 0) := (blk_cell BK245.out 1).trans rfl; have hfz83_0 := blk_frozen BK245.out 0; have hfz83_1 := blk_frozen BK245.out 1))
       have n0_ : Aside0 (Kd.R k54 54 ((w78.setCell ⟨gb245, 0, none⟩ (.int .i64 64)).setCell ⟨gb245, 1, none⟩ (.int .i64 1)) w.heap.size (fun _ => True) u14 x14_1) := ⟨by (with_reducible repeat (first | apply Kd.R_alloc | apply Kd.R_drewN | apply Kd.R_drew)); exact Kd.R_mono (Kd.R_far (p := ⟨gb245, 1, none⟩) (Kd.R_far (p := ⟨gb245, 0, none⟩) (Kd.R_types HO_14.out BK245.out (by decide)) (fun _ hk => hk.2) (.int .i64 64)) (fun _ hk => hk.2) (.int .i64 1)) (fun _ hk => trivial)⟩
       have n1_ : Aside0 (((w78.setCell ⟨gb245, 0, none⟩ (.int .i64 64)).setCell ⟨gb245, 1, none⟩ (.int .i64 1)).heap[gb230]? = some (.cells #[.int .i64 a0_0, .int .i64 a0_1] 27 (0, 0))) := ⟨by (with_reducible repeat (first | apply kN | apply kD | apply kA)); refine blk_far ?_ NB230_245.out _; (with_reducible repeat (first | apply kN | apply kD | apply kA)); refine blk_far ?_ NB230_245.out _; (with_reducible repeat (first | apply kN | apply kD | apply kA)); exact BK230.out⟩
       have n2_ : Aside0 (((w78.setCell ⟨gb245, 0, none⟩ (.int .i64 64)).setCell ⟨gb245, 1, none⟩ (.int .i64 1)).heap[gb231]? = some (.cells #[.int .i64 a1_0, .int .i64 a1_1] 27 (0, 0))) := ⟨by (with_reducible repeat (first | apply kN | apply kD | apply kA)); refine blk_far ?_ NB231_245.out _; (with_reducible repeat (first | apply kN | apply kD | apply kA)); refine blk_far ?_ NB231_245.out _; (with_reducible repeat (first | apply kN | apply kD | apply kA)); exact BK231.out⟩
       have n3_ : Aside0 (((w78.setCell ⟨gb245, 0, none⟩ (.int .i64 64)).setCell ⟨gb245, 1, none⟩ (.int .i64 1)).heap[gb244]? = some (.cells #[.int .i64 1, .int .i64 1] 27 (0, 0))) := ⟨by (with_reducible repeat (first | apply kN | apply kD | apply kA)); refine blk_far ?_ NB244_245.out _; (with_reducible repeat (first | apply kN | apply kD | apply kA)); refine blk_far ?_ NB244_245.out _; (with_reducible repeat (first | apply kN | apply kD | apply kA)); exact BK244.out⟩
       have n4_ : Aside0 (((w78.setCell ⟨gb245, 0, none⟩ (.int .i64 64)).setCell ⟨gb245, 1, none⟩ (.int .i64 1)).heap[gb245]? = some (.cells #[.int .i64 64, .int .i64 1] 27 (0, 0))) := ⟨by (with_reducible repeat (first | apply kN | apply kD | apply kA)); refine blk_put (cs := #[.int .i64 64, .int .i64 0]) ?_ 1 _ rfl; (with_reducible repeat (first | apply kN | apply kD | apply kA)); refine blk_put (cs := #[.int .i64 0, .int .i64 0]) ?_ 0 _ rfl; (with_reducible repeat (first | apply kN | apply kD | apply kA)); exact BK245.out⟩
       have n5_ : Aside0 (IsS59 w ((w78.setCell ⟨gb245, 0, none⟩ (.int .i64 64)).setCell ⟨gb245, 1, none⟩ (.int .i64 1)) g234 x235000_1) := ⟨by repeat (first | (with_reducible first | exact HI234.out | apply IsS59.alloc | apply IsS59.drewN | apply IsS59.drew | refine IsS59.far ?_ NB234_230.out _ | refine IsS59.far ?_ NB234_231.out _ | refine IsS59.far ?_ NB234_244.out _ | refine IsS59.far ?_ NB234_245.out _) | exact HI234.out)⟩
       have n6_ : Aside0 (Below w.heap.size w ((w78.setCell ⟨gb245, 0, none⟩ (.int .i64 64)).setCell ⟨gb245, 1, none⟩ (.int .i64 1))) := ⟨by repeat (first | (with_reducible first | exact HB.out | apply bA | apply bN | apply bD | refine bS ?_ (IsS59.ge HI234.out) | refine bS ?_ GE230.out | refine bS ?_ GE231.out | refine bS ?_ GE244.out | refine bS ?_ GE245.out) | exact HB.out)⟩
       (try clear HO_14); (try clear BK230); (try clear BK231); (try clear BK244); (try clear BK245); (try clear HI234); (try clear HB)
       generalize ((w78.setCell ⟨gb245, 0, none⟩ (.int .i64 64)).setCell ⟨gb245, 1, none⟩ (.int .i64 1)) = w84 at n0_ n1_ n2_ n3_ n4_ n5_ n6_ ⊢
       have HO_14 := n0_; have BK230 := n1_; have BK231 := n2_; have BK244 := n3_; have BK245 := n4_; have HI234 := n5_; have HB := n6_; clear n0_ n1_ n2_ n3_ n4_ n5_ n6_
       have n0_ := Am (Kd.R_drew HO_14.out)
       have n1_ := Am (kD BK230.out)
       have n2_ := Am (kD BK231.out)
       have n3_ := Am (kD BK244.out)
       have n4_ := Am (kD BK245.out)
       have n5_ := Am (IsS59.drew HI234.out)
       have n6_ := Am (bD HB.out)
       clear HO_14 BK230 BK231 BK244 BK245 HI234 HB; have HO_14 := n0_; have BK230 := n1_; have BK231 := n2_; have BK244 := n3_; have BK245 := n4_; have HI234 := n5_; have HB := n6_; clear n0_ n1_ n2_ n3_ n4_ n5_ n6_
       refine start_ (n := 56) (S := fun w' => w'.cell? ⟨gb230, 0, none⟩ = some (.int .i64 a0_0) ∧ w'.cell? ⟨gb230, 1, none⟩ = some (.int .i64 a0_1) ∧ w'.cell? ⟨gb231, 0, none⟩ = some (.int .i64 a1_0) ∧ w'.cell? ⟨gb231, 1, none⟩ = some (.int .i64 a1_1)) (ds := []) soundservicelaw18_ControlDeclares.q0 (by kernel_rfl) rfl rfl ⟨(blk_cell BK230.out 0).trans rfl, (blk_cell BK230.out 1).trans rfl, (blk_cell BK231.out 0).trans rfl, (blk_cell BK231.out 1).trans rfl⟩ (fun hHeld => ?_); refine with_tabW soundservicelaw18_ControlDeclares.tab13 soundservicelaw18_ControlDeclares.bits13 (fun HT_ HW_ => ?_)
       generalize w84.drew = w85 at HO_14 BK230 BK231 BK244 BK245 HI234 HB hHeld ⊢
       refine pure_ (i := 2) (N := some 45) (v := ?_) (a' := ?_) soundservicelaw18_ControlDeclares.q1 rfl rfl (any_of HT_.out (by kernel_rfl)) (fun _ _ _ h => h) (Or.inl ⟨by rfl, ?_⟩) ?_ ?_
       rotate_left; (· intro w'; go_simp; with_reducible rfl); rotate_left; (· simp only [pL, i64_w, i32_w]; rfl)
       refine pure_ (i := 3) (N := some 46) (v := ?_) (a' := ?_) soundservicelaw18_ControlDeclares.q2 rfl rfl (any_of HT_.out (by kernel_rfl)) (fun _ _ _ h => h) (Or.inl ⟨by rfl, ?_⟩) ?_ ?_
       rotate_left; (· intro w'; go_simp; with_reducible rfl); rotate_left; (· simp only [pL, i64_w, i32_w]; rfl)
       refine pure_ (i := 4) (N := some 47) (v := ?_) (a' := ?_) soundservicelaw18_ControlDeclares.q3 rfl rfl (any_of HT_.out (by kernel_rfl)) (fun _ _ _ h => h) (Or.inl ⟨by rfl, ?_⟩) ?_ ?_
       rotate_left; (· intro w'; go_simp; with_reducible rfl); rotate_left; (· simp only [pL, i64_w, i32_w]; rfl)
       refine pure_ (i := 8) (N := some 51) (v := ?_) (a' := ?_) soundservicelaw18_ControlDeclares.q4 rfl rfl (any_of HT_.out (by kernel_rfl)) (fun _ _ _ h => h) (Or.inl ⟨by rfl, ?_⟩) ?_ ?_
       rotate_left; (· intro w'; go_simp; with_reducible rfl); rotate_left; (· simp only [pL, i64_w, i32_w]; rfl)
       refine pure_ (i := 9) (N := some 52) (v := ?_) (a' := ?_) soundservicelaw18_ControlDeclares.q5 rfl rfl (any_of HT_.out (by kernel_rfl)) (fun _ _ _ h => h) (Or.inl ⟨by rfl, ?_⟩) ?_ ?_
       rotate_left; (· intro w'; go_simp; with_reducible rfl); rotate_left; (· simp only [pL, i64_w, i32_w]; rfl)
       refine pure_ (i := 10) (N := some 53) (v := ?_) (a' := ?_) soundservicelaw18_ControlDeclares.q6 rfl rfl (any_of HT_.out (by kernel_rfl)) (fun _ _ _ h => h) (Or.inl ⟨by rfl, ?_⟩) ?_ ?_
       rotate_left; (· intro w'; go_simp; with_reducible rfl); rotate_left; (· simp only [pL, i64_w, i32_w]; rfl)
       refine take_ (i := 0) (N := some 43) (v := ?_) (a' := ?_) soundservicelaw18_ControlDeclares.q7 rfl rfl (take_ofW HT_.out HW_.out (by kernel_rfl)) (fun _ _ _ h => h) (Or.inl ⟨by rfl, ?_⟩) hHeld ?_ ?_
       rotate_left; (· rintro w' ⟨s0, s1, s2, s3⟩; go_simp; with_reducible rfl); rotate_left; (· simp only [pL, i64_w, i32_w]; rfl)
       refine take_ (i := 1) (N := some 44) (v := ?_) (a' := ?_) soundservicelaw18_ControlDeclares.q8 rfl rfl (take_ofW HT_.out HW_.out (by kernel_rfl)) (fun _ _ _ h => h) (Or.inl ⟨by rfl, ?_⟩) hHeld ?_ ?_
       rotate_left; (· rintro w' ⟨s0, s1, s2, s3⟩; go_simp; with_reducible rfl); rotate_left; (· simp only [pL, i64_w, i32_w]; rfl)
       refine take_ (i := 6) (N := some 49) (v := ?_) (a' := ?_) soundservicelaw18_ControlDeclares.q9 rfl rfl (take_ofW HT_.out HW_.out (by kernel_rfl)) (fun _ _ _ h => h) (Or.inl ⟨by rfl, ?_⟩) hHeld ?_ ?_
       rotate_left; (· rintro w' ⟨s0, s1, s2, s3⟩; go_simp; with_reducible rfl); rotate_left; (· simp only [pL, i64_w, i32_w]; rfl)
       refine take_ (i := 7) (N := some 50) (v := ?_) (a' := ?_) soundservicelaw18_ControlDeclares.q10 rfl rfl (take_ofW HT_.out HW_.out (by kernel_rfl)) (fun _ _ _ h => h) (Or.inl ⟨by rfl, ?_⟩) hHeld ?_ ?_
       rotate_left; (· rintro w' ⟨s0, s1, s2, s3⟩; go_simp; with_reducible rfl); rotate_left; (· simp only [pL, i64_w, i32_w]; rfl)
       refine one_ (i := 5) (N := some 48) soundservicelaw18_ControlDeclares.q11 rfl rfl (one_of HT_.out (by kernel_rfl)) (by decide) (fun K hK => ?_)
       refine goes_ Try.func24 (by kernel_rfl) rfl #[.agg #[.int .i64 a0_0, .int .i64 a0_1], .agg #[.int .i64 a1_0, .int .i64 a1_1], .int .i64 a4, .int .i64 a5, .slice A2 l2.length c2] (by rfl) rfl rfl (by (try simp only [List.map_toArray, List.map_cons, List.map_nil]); first | done | rfl | (simp only [List.length_drop, List.length_take]; rfl)) ?_
       with_reducible refine (control_Declared.calls k1 a0_0 a0_1 a1_0 a1_1 a4 a5 _ _ l2 t246 _ ?side1 ?side2 A27.out).mono ?_
       (case side1 => repeat (first | exact (Kd.C_below HR2.out HB.out) | (with_reducible refine Kd.C_alloc ?_ _) | (with_reducible refine Kd.C_drewN ?_ _) | (with_reducible refine Kd.C_drew ?_)))
       (case side2 => exact HC2.out)
       rintro e w86 ⟨rfl, hb⟩
       refine ⟨_, rfl, ?_⟩
       have n0_ := Am (Kd.R_below (by (with_reducible repeat (first | apply Kd.R_alloc | apply Kd.R_drewN | apply Kd.R_drew)); exact HO_14.out) hb)
       have n1_ := Am (blk_below (g := gb230) (o := .cells #[.int .i64 a0_0, .int .i64 a0_1] 27 (0, 0)) (by (with_reducible repeat (first | apply kN | apply kD | apply kA)); exact BK230.out) hb)
       have n2_ := Am (blk_below (g := gb231) (o := .cells #[.int .i64 a1_0, .int .i64 a1_1] 27 (0, 0)) (by (with_reducible repeat (first | apply kN | apply kD | apply kA)); exact BK231.out) hb)
       have n3_ := Am (IsS59.below (by repeat (first | (with_reducible first | exact HI234.out | apply IsS59.alloc | apply IsS59.drewN | apply IsS59.drew | refine IsS59.far ?_ NB234_230.out _ | refine IsS59.far ?_ NB234_231.out _ | refine IsS59.far ?_ NB234_244.out _ | refine IsS59.far ?_ NB234_245.out _) | exact HI234.out)) hb)
       have n4_ := Am (blk_below (g := gb244) (o := .cells #[.int .i64 1, .int .i64 1] 27 (0, 0)) (by (with_reducible repeat (first | apply kN | apply kD | apply kA)); exact BK244.out) hb)
       have n5_ := Am (blk_below (g := gb245) (o := .cells #[.int .i64 64, .int .i64 1] 27 (0, 0)) (by (with_reducible repeat (first | apply kN | apply kD | apply kA)); exact BK245.out) hb)
       have n6_ := Am (below_step (by repeat (first | (with_reducible first | exact HB.out | apply bA | apply bN | apply bD | refine bS ?_ (IsS59.ge HI234.out) | refine bS ?_ GE230.out | refine bS ?_ GE231.out | refine bS ?_ GE244.out | refine bS ?_ GE245.out) | exact HB.out)) hb)
       clear HO_14 BK230 BK231 HI234 BK244 BK245 HB; have HO_14 := n0_; have BK230 := n1_; have BK231 := n2_; have HI234 := n3_; have BK244 := n4_; have BK245 := n5_; have HB := n6_; clear n0_ n1_ n2_ n3_ n4_ n5_ n6_; (try clear hb); (try clear hb2); (try clear hk); (try clear hi)
       refine hK.out _ _ ⟨(blk_cell BK230.out 0).trans rfl, (blk_cell BK230.out 1).trans rfl, (blk_cell BK231.out 0).trans rfl, (blk_cell BK231.out 1).trans rfl⟩ (fun hHeld => ?_)
       clear hK K
       refine norm_ (a' := ?_) ?_ ?_
       rotate_left
       ·show Act.put _ (some 48) _ = _
        simp only [pL, i64_w, i32_w]
        rfl
       refine one_ (i := 11) (N := some 54) soundservicelaw18_ControlDeclares.q12 rfl rfl (one_of HT_.out (by kernel_rfl)) (by decide) (fun K hK => ?_)
       refine goes_ Try.func25 (by kernel_rfl) rfl #[.agg #[.int .i64 a0_0, .int .i64 a0_1], .agg #[.int .i64 a1_0, .int .i64 a1_1], .int .i64 a4, .int .i64 a5, .slice A2 l2.length c2] (by rfl) rfl rfl (by (try simp only [List.map_toArray, List.map_cons, List.map_nil]); first | done | rfl | (simp only [List.length_drop, List.length_take]; rfl)) ?_
       with_reducible refine (soundserviceref18_Declared.calls k1 a0_0 a0_1 a1_0 a1_1 a4 a5 _ _ l2 t247 _ ?side1 ?side2 A28.out).mono ?_
       (case side1 => repeat (first | exact (Kd.C_below HR2.out HB.out) | (with_reducible refine Kd.C_alloc ?_ _) | (with_reducible refine Kd.C_drewN ?_ _) | (with_reducible refine Kd.C_drew ?_)))
       (case side2 => exact HC2.out)
       rintro e w87 ⟨rfl, hb⟩
       refine ⟨_, rfl, ?_⟩
       have n0_ := Am (Kd.R_below (by (with_reducible repeat (first | apply Kd.R_alloc | apply Kd.R_drewN | apply Kd.R_drew)); exact HO_14.out) hb)
       have n1_ := Am (blk_below (g := gb230) (o := .cells #[.int .i64 a0_0, .int .i64 a0_1] 27 (0, 0)) (by (with_reducible repeat (first | apply kN | apply kD | apply kA)); exact BK230.out) hb)
       have n2_ := Am (blk_below (g := gb231) (o := .cells #[.int .i64 a1_0, .int .i64 a1_1] 27 (0, 0)) (by (with_reducible repeat (first | apply kN | apply kD | apply kA)); exact BK231.out) hb)
       have n3_ := Am (IsS59.below (by repeat (first | (with_reducible first | exact HI234.out | apply IsS59.alloc | apply IsS59.drewN | apply IsS59.drew | refine IsS59.far ?_ NB234_230.out _ | refine IsS59.far ?_ NB234_231.out _ | refine IsS59.far ?_ NB234_244.out _ | refine IsS59.far ?_ NB234_245.out _) | exact HI234.out)) hb)
       have n4_ := Am (blk_below (g := gb244) (o := .cells #[.int .i64 1, .int .i64 1] 27 (0, 0)) (by (with_reducible repeat (first | apply kN | apply kD | apply kA)); exact BK244.out) hb)
       have n5_ := Am (blk_below (g := gb245) (o := .cells #[.int .i64 64, .int .i64 1] 27 (0, 0)) (by (with_reducible repeat (first | apply kN | apply kD | apply kA)); exact BK245.out) hb)
       have n6_ := Am (below_step (by repeat (first | (with_reducible first | exact HB.out | apply bA | apply bN | apply bD | refine bS ?_ (IsS59.ge HI234.out) | refine bS ?_ GE230.out | refine bS ?_ GE231.out | refine bS ?_ GE244.out | refine bS ?_ GE245.out) | exact HB.out)) hb)
       clear HO_14 BK230 BK231 HI234 BK244 BK245 HB; have HO_14 := n0_; have BK230 := n1_; have BK231 := n2_; have HI234 := n3_; have BK244 := n4_; have BK245 := n5_; have HB := n6_; clear n0_ n1_ n2_ n3_ n4_ n5_ n6_; (try clear hb); (try clear hb2); (try clear hk); (try clear hi)
       refine hK.out _ _ ⟨(blk_cell BK230.out 0).trans rfl, (blk_cell BK230.out 1).trans rfl, (blk_cell BK231.out 0).trans rfl, (blk_cell BK231.out 1).trans rfl⟩ (fun hHeld => ?_)
       clear hK K
       refine norm_ (a' := ?_) ?_ ?_
       rotate_left
       ·show Act.put _ (some 54) _ = _
        simp only [pL, i64_w, i32_w]
        rfl
       refine pure_ (i := 12) (N := some 55) (v := ?_) (a' := ?_) soundservicelaw18_ControlDeclares.q13 rfl rfl (any_of HT_.out (by kernel_rfl)) (fun _ _ _ h => h) (Or.inl ⟨by rfl, ?_⟩) ?_ ?_
       rotate_left; (· intro w'; go_simp; with_reducible rfl); rotate_left; (· simp only [pL, i64_w, i32_w]; rfl)
       refine pure_ (i := 13) (N := some 56) (v := ?_) (a' := ?_) soundservicelaw18_ControlDeclares.q14 rfl rfl (any_of HT_.out (by kernel_rfl)) (fun _ _ _ h => h) (Or.inl ⟨by rfl, ?_⟩) ?_ ?_
       rotate_left; (· intro w'; go_simp; with_reducible rfl); rotate_left; (· simp only [pL, i64_w, i32_w]; rfl)
       refine pure_ (i := 14) (N := some 57) (v := undef) (a' := ?_) soundservicelaw18_ControlDeclares.q79 rfl rfl (any_of HT_.out (by kernel_rfl)) (fun _ _ _ h => h) (Or.inr ⟨by rfl, rfl⟩) ?_ ?_
       rotate_left
       ·simp only [pL, i64_w, i32_w]
        rfl
       refine pure_ (i := 15) (N := some 58) (v := undef) (a' := ?_) soundservicelaw18_ControlDeclares.q80 rfl rfl (any_of HT_.out (by kernel_rfl)) (fun _ _ _ h => h) (Or.inr ⟨by rfl, rfl⟩) ?_ ?_
       rotate_left
       ·simp only [pL, i64_w, i32_w]
        rfl
       refine pure_ (i := 16) (N := some 59) (v := undef) (a' := ?_) soundservicelaw18_ControlDeclares.q81 rfl rfl (any_of HT_.out (by kernel_rfl)) (fun _ _ _ h => h) (Or.inr ⟨by rfl, rfl⟩) ?_ ?_
       rotate_left
       ·simp only [pL, i64_w, i32_w]
        rfl
       refine pure_ (i := 17) (N := some 60) (v := undef) (a' := ?_) soundservicelaw18_ControlDeclares.q82 rfl rfl (any_of HT_.out (by kernel_rfl)) (fun _ _ _ h => h) (Or.inr ⟨by rfl, rfl⟩) ?_ ?_
       rotate_left
       ·simp only [pL, i64_w, i32_w]
        rfl
       refine pure_ (i := 18) (N := some 61) (v := undef) (a' := ?_) soundservicelaw18_ControlDeclares.q83 rfl rfl (any_of HT_.out (by kernel_rfl)) (fun _ _ _ h => h) (Or.inr ⟨by rfl, rfl⟩) ?_ ?_
       rotate_left
       ·simp only [pL, i64_w, i32_w]
        rfl
       refine pure_ (i := 19) (N := some 62) (v := undef) (a' := ?_) soundservicelaw18_ControlDeclares.q84 rfl rfl (any_of HT_.out (by kernel_rfl)) (fun _ _ _ h => h) (Or.inr ⟨by rfl, rfl⟩) ?_ ?_
       rotate_left
       ·simp only [pL, i64_w, i32_w]
        rfl
       refine pure_ (i := 20) (N := some 63) (v := undef) (a' := ?_) soundservicelaw18_ControlDeclares.q85 rfl rfl (any_of HT_.out (by kernel_rfl)) (fun _ _ _ h => h) (Or.inr ⟨by rfl, rfl⟩) ?_ ?_
       rotate_left
       ·simp only [pL, i64_w, i32_w]
        rfl
       refine pure_ (i := 21) (N := some 64) (v := undef) (a' := ?_) soundservicelaw18_ControlDeclares.q86 rfl rfl (any_of HT_.out (by kernel_rfl)) (fun _ _ _ h => h) (Or.inr ⟨by rfl, rfl⟩) ?_ ?_
       rotate_left
       ·simp only [pL, i64_w, i32_w]
        rfl
       refine pure_ (i := 22) (N := some 65) (v := undef) (a' := ?_) soundservicelaw18_ControlDeclares.q87 rfl rfl (any_of HT_.out (by kernel_rfl)) (fun _ _ _ h => h) (Or.inr ⟨by rfl, rfl⟩) ?_ ?_
       rotate_left
       ·simp only [pL, i64_w, i32_w]
        rfl
       refine pure_ (i := 23) (N := some 66) (v := undef) (a' := ?_) soundservicelaw18_ControlDeclares.q88 rfl rfl (any_of HT_.out (by kernel_rfl)) (fun _ _ _ h => h) (Or.inr ⟨by rfl, rfl⟩) ?_ ?_
       rotate_left
       ·simp only [pL, i64_w, i32_w]
        rfl
       refine pure_ (i := 24) (N := some 67) (v := undef) (a' := ?_) soundservicelaw18_ControlDeclares.q25 rfl rfl (any_of HT_.out (by kernel_rfl)) (fun _ _ _ h => h) (Or.inr ⟨by rfl, rfl⟩) ?_ ?_
       rotate_left
       ·simp only [pL, i64_w, i32_w]
        rfl
       refine pure_ (i := 25) (N := some 68) (v := undef) (a' := ?_) soundservicelaw18_ControlDeclares.q26 rfl rfl (any_of HT_.out (by kernel_rfl)) (fun _ _ _ h => h) (Or.inr ⟨by rfl, rfl⟩) ?_ ?_
       rotate_left
       ·simp only [pL, i64_w, i32_w]
        rfl
       refine pure_ (i := 26) (N := some 69) (v := undef) (a' := ?_) soundservicelaw18_ControlDeclares.q27 rfl rfl (any_of HT_.out (by kernel_rfl)) (fun _ _ _ h => h) (Or.inr ⟨by rfl, rfl⟩) ?_ ?_
       rotate_left
       ·simp only [pL, i64_w, i32_w]
        rfl
       refine pure_ (i := 27) (N := some 70) (v := ?_) (a' := ?_) soundservicelaw18_ControlDeclares.q28 rfl rfl (any_of HT_.out (by kernel_rfl)) (fun _ _ _ h => h) (Or.inl ⟨by rfl, ?_⟩) ?_ ?_
       rotate_left; (· intro w'; go_simp; with_reducible rfl); rotate_left; (· simp only [pL, i64_w, i32_w]; rfl)
       refine pure_ (i := 28) (N := some 71) (v := ?_) (a' := ?_) soundservicelaw18_ControlDeclares.q29 rfl rfl (any_of HT_.out (by kernel_rfl)) (fun _ _ _ h => h) (Or.inl ⟨by rfl, ?_⟩) ?_ ?_
       rotate_left; (· intro w'; go_simp; with_reducible rfl); rotate_left; (· simp only [pL, i64_w, i32_w]; rfl)
       refine pure_ (i := 29) (N := some 72) (v := undef) (a' := ?_) soundservicelaw18_ControlDeclares.q57 rfl rfl (any_of HT_.out (by kernel_rfl)) (fun _ _ _ h => h) (Or.inr ⟨by rfl, rfl⟩) ?_ ?_
       rotate_left
       ·simp only [pL, i64_w, i32_w]
        rfl
       refine pure_ (i := 30) (N := some 73) (v := undef) (a' := ?_) soundservicelaw18_ControlDeclares.q58 rfl rfl (any_of HT_.out (by kernel_rfl)) (fun _ _ _ h => h) (Or.inr ⟨by rfl, rfl⟩) ?_ ?_
       rotate_left
       ·simp only [pL, i64_w, i32_w]
        rfl
       refine pure_ (i := 31) (N := some 74) (v := undef) (a' := ?_) soundservicelaw18_ControlDeclares.q59 rfl rfl (any_of HT_.out (by kernel_rfl)) (fun _ _ _ h => h) (Or.inr ⟨by rfl, rfl⟩) ?_ ?_
       rotate_left
       ·simp only [pL, i64_w, i32_w]
        rfl
       refine pure_ (i := 32) (N := some 75) (v := undef) (a' := ?_) soundservicelaw18_ControlDeclares.q60 rfl rfl (any_of HT_.out (by kernel_rfl)) (fun _ _ _ h => h) (Or.inr ⟨by rfl, rfl⟩) ?_ ?_
       rotate_left
       ·simp only [pL, i64_w, i32_w]
        rfl
       refine pure_ (i := 33) (N := some 76) (v := undef) (a' := ?_) soundservicelaw18_ControlDeclares.q61 rfl rfl (any_of HT_.out (by kernel_rfl)) (fun _ _ _ h => h) (Or.inr ⟨by rfl, rfl⟩) ?_ ?_
       rotate_left
       ·simp only [pL, i64_w, i32_w]
        rfl
       refine pure_ (i := 34) (N := some 77) (v := undef) (a' := ?_) soundservicelaw18_ControlDeclares.q62 rfl rfl (any_of HT_.out (by kernel_rfl)) (fun _ _ _ h => h) (Or.inr ⟨by rfl, rfl⟩) ?_ ?_
       rotate_left
       ·simp only [pL, i64_w, i32_w]
        rfl
       refine pure_ (i := 35) (N := some 78) (v := undef) (a' := ?_) soundservicelaw18_ControlDeclares.q63 rfl rfl (any_of HT_.out (by kernel_rfl)) (fun _ _ _ h => h) (Or.inr ⟨by rfl, rfl⟩) ?_ ?_
       rotate_left
       ·simp only [pL, i64_w, i32_w]
        rfl
       refine pure_ (i := 36) (N := some 79) (v := undef) (a' := ?_) soundservicelaw18_ControlDeclares.q64 rfl rfl (any_of HT_.out (by kernel_rfl)) (fun _ _ _ h => h) (Or.inr ⟨by rfl, rfl⟩) ?_ ?_
       rotate_left
       ·simp only [pL, i64_w, i32_w]
        rfl
       refine pure_ (i := 37) (N := some 80) (v := undef) (a' := ?_) soundservicelaw18_ControlDeclares.q65 rfl rfl (any_of HT_.out (by kernel_rfl)) (fun _ _ _ h => h) (Or.inr ⟨by rfl, rfl⟩) ?_ ?_
       rotate_left
       ·simp only [pL, i64_w, i32_w]
        rfl
       refine pure_ (i := 38) (N := some 81) (v := undef) (a' := ?_) soundservicelaw18_ControlDeclares.q66 rfl rfl (any_of HT_.out (by kernel_rfl)) (fun _ _ _ h => h) (Or.inr ⟨by rfl, rfl⟩) ?_ ?_
       rotate_left
       ·simp only [pL, i64_w, i32_w]
        rfl
       refine pure_ (i := 39) (N := some 82) (v := undef) (a' := ?_) soundservicelaw18_ControlDeclares.q67 rfl rfl (any_of HT_.out (by kernel_rfl)) (fun _ _ _ h => h) (Or.inr ⟨by rfl, rfl⟩) ?_ ?_
       rotate_left
       ·simp only [pL, i64_w, i32_w]
        rfl
       refine pure_ (i := 40) (N := some 83) (v := undef) (a' := ?_) soundservicelaw18_ControlDeclares.q68 rfl rfl (any_of HT_.out (by kernel_rfl)) (fun _ _ _ h => h) (Or.inr ⟨by rfl, rfl⟩) ?_ ?_
       rotate_left
       ·simp only [pL, i64_w, i32_w]
        rfl
       refine pure_ (i := 41) (N := some 84) (v := undef) (a' := ?_) soundservicelaw18_ControlDeclares.q69 rfl rfl (any_of HT_.out (by kernel_rfl)) (fun _ _ _ h => h) (Or.inr ⟨by rfl, rfl⟩) ?_ ?_
       rotate_left
       ·simp only [pL, i64_w, i32_w]
        rfl
       refine pure_ (i := 42) (N := some 85) (v := undef) (a' := ?_) soundservicelaw18_ControlDeclares.q70 rfl rfl (any_of HT_.out (by kernel_rfl)) (fun _ _ _ h => h) (Or.inr ⟨by rfl, rfl⟩) ?_ ?_
       rotate_left
       ·simp only [pL, i64_w, i32_w]
        rfl
       refine pure_ (i := 43) (N := some 86) (v := undef) (a' := ?_) soundservicelaw18_ControlDeclares.q71 rfl rfl (any_of HT_.out (by kernel_rfl)) (fun _ _ _ h => h) (Or.inr ⟨by rfl, rfl⟩) ?_ ?_
       rotate_left
       ·simp only [pL, i64_w, i32_w]
        rfl
       refine pure_ (i := 44) (N := some 87) (v := undef) (a' := ?_) soundservicelaw18_ControlDeclares.q72 rfl rfl (any_of HT_.out (by kernel_rfl)) (fun _ _ _ h => h) (Or.inr ⟨by rfl, rfl⟩) ?_ ?_
       rotate_left
       ·simp only [pL, i64_w, i32_w]
        rfl
       refine pure_ (i := 45) (N := some 88) (v := undef) (a' := ?_) soundservicelaw18_ControlDeclares.q73 rfl rfl (any_of HT_.out (by kernel_rfl)) (fun _ _ _ h => h) (Or.inr ⟨by rfl, rfl⟩) ?_ ?_
       rotate_left
       ·simp only [pL, i64_w, i32_w]
        rfl
       refine pure_ (i := 46) (N := some 89) (v := undef) (a' := ?_) soundservicelaw18_ControlDeclares.q74 rfl rfl (any_of HT_.out (by kernel_rfl)) (fun _ _ _ h => h) (Or.inr ⟨by rfl, rfl⟩) ?_ ?_
       rotate_left
       ·simp only [pL, i64_w, i32_w]
        rfl
       refine pure_ (i := 47) (N := some 90) (v := undef) (a' := ?_) soundservicelaw18_ControlDeclares.q75 rfl rfl (any_of HT_.out (by kernel_rfl)) (fun _ _ _ h => h) (Or.inr ⟨by rfl, rfl⟩) ?_ ?_
       rotate_left
       ·simp only [pL, i64_w, i32_w]
        rfl
       refine pure_ (i := 48) (N := some 91) (v := undef) (a' := ?_) soundservicelaw18_ControlDeclares.q76 rfl rfl (any_of HT_.out (by kernel_rfl)) (fun _ _ _ h => h) (Or.inr ⟨by rfl, rfl⟩) ?_ ?_
       rotate_left
       ·simp only [pL, i64_w, i32_w]
        rfl
       refine pure_ (i := 49) (N := some 92) (v := undef) (a' := ?_) soundservicelaw18_ControlDeclares.q77 rfl rfl (any_of HT_.out (by kernel_rfl)) (fun _ _ _ h => h) (Or.inr ⟨by rfl, rfl⟩) ?_ ?_
       rotate_left
       ·simp only [pL, i64_w, i32_w]
        rfl
       refine pure_ (i := 50) (N := some 93) (v := undef) (a' := ?_) soundservicelaw18_ControlDeclares.q78 rfl rfl (any_of HT_.out (by kernel_rfl)) (fun _ _ _ h => h) (Or.inr ⟨by rfl, rfl⟩) ?_ ?_
       rotate_left
       ·simp only [pL, i64_w, i32_w]
        rfl
       refine pure_ (i := 51) (N := some 94) (v := undef) (a' := ?_) soundservicelaw18_ControlDeclares.q52 rfl rfl (any_of HT_.out (by kernel_rfl)) (fun _ _ _ h => h) (Or.inr ⟨by rfl, rfl⟩) ?_ ?_
       rotate_left
       ·simp only [pL, i64_w, i32_w]
        rfl
       refine pure_ (i := 52) (N := some 95) (v := undef) (a' := ?_) soundservicelaw18_ControlDeclares.q53 rfl rfl (any_of HT_.out (by kernel_rfl)) (fun _ _ _ h => h) (Or.inr ⟨by rfl, rfl⟩) ?_ ?_
       rotate_left
       ·simp only [pL, i64_w, i32_w]
        rfl
       refine pure_ (i := 53) (N := some 96) (v := undef) (a' := ?_) soundservicelaw18_ControlDeclares.q54 rfl rfl (any_of HT_.out (by kernel_rfl)) (fun _ _ _ h => h) (Or.inr ⟨by rfl, rfl⟩) ?_ ?_
       rotate_left
       ·simp only [pL, i64_w, i32_w]
        rfl
       refine pure_ (i := 54) (N := some 97) (v := ?_) (a' := ?_) soundservicelaw18_ControlDeclares.q55 rfl rfl (any_of HT_.out (by kernel_rfl)) (fun _ _ _ h => h) (Or.inl ⟨by rfl, ?_⟩) ?_ ?_
       rotate_left; (· intro w'; go_simp; with_reducible rfl); rotate_left; (· simp only [pL, i64_w, i32_w]; rfl)
       refine pure_ (i := 55) (N := some 12) (v := ?_) (a' := ?_) soundservicelaw18_ControlDeclares.q56 rfl rfl (any_of HT_.out (by kernel_rfl)) (fun _ _ _ h => h) (Or.inl ⟨by rfl, ?_⟩) ?_ ?_
       rotate_left; (· intro w'; go_simp; with_reducible rfl); rotate_left; (· simp only [pL, i64_w, i32_w]; rfl)
       refine done_ (done_of HT_.out (by kernel_rfl)) ?_
       try go_wp2
       go_ret
       exact ⟨by first | rfl | (simp [errW_none, errW_some] <;> rfl) | (simp [*, errW_none, errW_some] <;> rfl), by repeat (first | (with_reducible first | exact HB.out | apply bA | apply bN | apply bD | refine bS ?_ (IsS59.ge HI234.out) | refine bS ?_ GE230.out | refine bS ?_ GE231.out | refine bS ?_ GE244.out | refine bS ?_ GE245.out) | exact HB.out)⟩
 ·replace c8 := Bool.eq_false_iff.mpr c8
  subst c8
  have H1 : (some false) = some r := by rw [if_neg (show ¬ (false = true) by decide)] at H; exact H
  clear H; have H := H1; clear H1
  obtain rfl := Option.some.inj H
  go_enter Try.func8, Try.ntmps8
  go_wp2_with (first | ((with_reducible refine gate_dst (N := 6) rfl ?_); refine box_event ?hg (N := 6) ?hd (cs := #[.int .i64 a0_0, .int .i64 a0_1]) (t := 27) ?hr ?_; (case hd => rfl); (case hg => rfl); (case hr => first | (go_simp; done) | (go_simp; rfl)); intro gb230 hg w88 hbox hb; have n0_ := Am (below_step (by repeat (first | (with_reducible first | exact HB.out | apply bA | apply bN | apply bD) | exact HB.out)) hb); have n1_ := Am (hbox); have n2_ := Am ((by rw [hg]; exact (below_size (by repeat (first | (with_reducible first | exact HB.out | apply bA | apply bN | apply bD) | exact HB.out))) : w.heap.size ≤ gb230)); have n3_ := Am ((by rw [hg]; exact (below_size (by repeat (first | (with_reducible first | exact HB.out | apply bA | apply bN | apply bD) | exact HB.out))) : w.heap.size ≤ gb230)); clear HB; have HB := n0_; have BK230 := n1_; have GW230 := n2_; have GE230 := n3_; clear n0_ n1_ n2_ n3_ hb hbox hg) | ((with_reducible refine gate_dst (N := 7) rfl ?_); refine box_event ?hg (N := 7) ?hd (cs := #[.int .i64 a1_0, .int .i64 a1_1]) (t := 27) ?hr ?_; (case hd => rfl); (case hg => rfl); (case hr => first | (go_simp; done) | (go_simp; rfl)); intro gb231 hg w89 hbox hb; have n0_ := Am (blk_below (g := gb230) (o := .cells #[.int .i64 a0_0, .int .i64 a0_1] 27 (0, 0)) (by (with_reducible repeat (first | apply kN | apply kD | apply kA)); exact BK230.out) hb); have n1_ := Am (below_step (by repeat (first | (with_reducible first | exact HB.out | apply bA | apply bN | apply bD | refine bS ?_ GE230.out) | exact HB.out)) hb); have n2_ := Am (hbox); have n3_ := Am ((by rw [hg]; exact (below_size (by repeat (first | (with_reducible first | exact HB.out | apply bA | apply bN | apply bD | refine bS ?_ GE230.out) | exact HB.out))) : w.heap.size ≤ gb231)); have n4_ := Am ((by rw [hg]; exact (below_size (by repeat (first | (with_reducible first | exact HB.out | apply bA | apply bN | apply bD | refine bS ?_ GE230.out) | exact HB.out))) : w.heap.size ≤ gb231)); have n5_ := Am ((by rw [hg]; exact Nat.ne_of_lt (blk_lt (g := gb230) (o := .cells #[.int .i64 a0_0, .int .i64 a0_1] 27 (0, 0)) (by (with_reducible repeat (first | apply kN | apply kD | apply kA)); exact BK230.out)) : gb230 ≠ gb231)); have n6_ := Am ((by rw [hg]; exact Nat.ne_of_gt (blk_lt (g := gb230) (o := .cells #[.int .i64 a0_0, .int .i64 a0_1] 27 (0, 0)) (by (with_reducible repeat (first | apply kN | apply kD | apply kA)); exact BK230.out)) : gb231 ≠ gb230)); clear BK230 HB; have BK230 := n0_; have HB := n1_; have BK231 := n2_; have GW231 := n3_; have GE231 := n4_; have NB230_231 := n5_; have NB231_230 := n6_; clear n0_ n1_ n2_ n3_ n4_ n5_ n6_ hb hbox hg) | ((with_reducible refine gate_callee (f := 10) rfl ?_); refine goesL_ (some 18) rfl rfl Try.func10 (by kernel_rfl) rfl #[] rfl (by (try simp only [List.map_toArray, List.map_cons, List.map_nil]); first | done | rfl | (simp only [List.length_drop, List.length_take]; rfl)) ?_; (with_reducible refine (soundservicelaw18_sane.calls  false _ A7.out).mono ?_); rintro e w90 ⟨rfl, hb⟩; refine ⟨_, rfl, ?_⟩; have n0_ := Am (blk_below (g := gb230) (o := .cells #[.int .i64 a0_0, .int .i64 a0_1] 27 (0, 0)) (by (with_reducible repeat (first | apply kN | apply kD | apply kA)); exact BK230.out) hb); have n1_ := Am (blk_below (g := gb231) (o := .cells #[.int .i64 a1_0, .int .i64 a1_1] 27 (0, 0)) (by (with_reducible repeat (first | apply kN | apply kD | apply kA)); exact BK231.out) hb); have n2_ := Am (below_step (by repeat (first | (with_reducible first | exact HB.out | apply bA | apply bN | apply bD | refine bS ?_ GE230.out | refine bS ?_ GE231.out) | exact HB.out)) hb); clear BK230 BK231 HB; have BK230 := n0_; have BK231 := n1_; have HB := n2_; clear n0_ n1_ n2_; (try clear hb); (try clear hb2); (try clear hk); (try clear hi)))
  go_ret
  exact ⟨by first | rfl | (simp [errW_none, errW_some] <;> rfl) | (simp [*, errW_none, errW_some] <;> rfl), by repeat (first | (with_reducible first | exact HB.out | apply bA | apply bN | apply bD | refine bS ?_ GE230.out | refine bS ?_ GE231.out) | exact HB.out)⟩

end Go.Proofs.Ytcnheiemajghiaa.PA
