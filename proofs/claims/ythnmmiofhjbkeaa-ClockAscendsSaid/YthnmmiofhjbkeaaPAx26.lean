/- Walks of functions of the program: each does what its Lean function says. Written by a program of this session (wip/xprint), which runs the printer of the kit with changes. -/
import Derived.Test.YthnmmiofhjbkeaaPAx0
import Derived.Test.YthnmmiofhjbkeaaPAx9
import Derived.Test.YthnmmiofhjbkeaaPAx10
import Derived.Test.YthnmmiofhjbkeaaPAx11
import Derived.Test.YthnmmiofhjbkeaaPAx18
import Derived.Test.YthnmmiofhjbkeaaPAx24
namespace Go.Proofs.Ythnmmiofhjbkeaa.PA
open Go.RowKit Go.Proofs.YthnmmiofhjbkeaaW.PrintWords Go.Proofs.YthnmmiofhjbkeaaW.PrintLast Go.Proofs.YthnmmiofhjbkeaaW.PrintMore
attribute [local go_sem] max2_int min2_int max_two min_two max_three min_three max_four min_four   -- for this text's walks alone
set_option linter.unusedVariables false
set_option linter.unusedSimpArgs false

/-! ### soundservicelaw13_ClockAscends: function 7 -/
mutual
def soundservicelaw13_ClockAscends.j0 : Nat → Int → Int → Int → Bool → List (S61) → Option (Bool)
 | 0, _, _, _, _, _ => none
 | k + 1, x3, x18, x19, x84, x385000 => if x84 = true then (some false) else (if x19 = 0 then ((clock_Position.f k x385000 x18).bind fun bt393 => (if bt393.2 = 0 then (soundservicelaw13_ClockAscends.j1 k x3 x18 (decide (bt393.1 < (wrap64 (x3)))) x385000) else (soundservicelaw13_ClockAscends.j1 k x3 x18 true x385000))) else (some (x19 == 13)))
def soundservicelaw13_ClockAscends.j1 : Nat → Int → Int → Bool → List (S61) → Option (Bool)
 | 0, _, _, _, _ => none
 | k + 1, x3, x18, x102, x385000 => if x102 = true then (some false) else (if x18 = 0 then (some (x3 == 0)) else ((clock_Position.f k x385000 (wrap64 (x18 - 1))).bind fun bt395 => (if bt395.2 = 0 then (some (decide (bt395.1 < (wrap64 (x3))))) else (some false))))
end
def soundservicelaw13_ClockAscends.f (k : Nat) (l0 : List Int) (a1 : Int) (a2 : Int) (a3 : Int) : Option (Bool) := (soundservicelaw13_sane.f k).bind fun t380 => (if t380 = true then ((soundservicelaw13_made.f k l0).bind fun t381 => ((clock_Position.f k t381 (wrap64 (Int.tmod a1 700))).bind fun bt385 => ((clock_Position.f k t381 (wrap64 ((wrap64 (Int.tmod a1 700)) + (wrap64 (a2))))).bind fun bt387 => ((clock_Between.f k t381 (wrap64 (Int.tmod a1 700)) (wrap64 ((wrap64 (Int.tmod a1 700)) + (wrap64 (a2))))).bind fun bt389 => ((clock_TimeOf.f k t381 (wrap64 (a3))).bind fun bt391 => (if bt385.2 = 0 then (if bt387.2 = 0 then (if bt389.2 = 0 then (if bt385.1 > bt387.1 then (soundservicelaw13_ClockAscends.j0 k a3 bt391.1 bt391.2 true t381) else (soundservicelaw13_ClockAscends.j0 k a3 bt391.1 bt391.2 ((wrap64 (bt387.1 - bt385.1)) != bt389.1) t381)) else (soundservicelaw13_ClockAscends.j0 k a3 bt391.1 bt391.2 true t381)) else (soundservicelaw13_ClockAscends.j0 k a3 bt391.1 bt391.2 true t381)) else (soundservicelaw13_ClockAscends.j0 k a3 bt391.1 bt391.2 true t381))))))) else (some false))
theorem soundservicelaw13_ClockAscends.mono_l : ∀ k, (∀ y0 y1 y2 y3 y4, LeO (soundservicelaw13_ClockAscends.j0 k y0 y1 y2 y3 y4) (soundservicelaw13_ClockAscends.j0 (k + 1) y0 y1 y2 y3 y4)) ∧ (∀ y0 y1 y2 y3, LeO (soundservicelaw13_ClockAscends.j1 k y0 y1 y2 y3) (soundservicelaw13_ClockAscends.j1 (k + 1) y0 y1 y2 y3))
 | 0 => ⟨fun _ _ _ _ _ r h => by simp [soundservicelaw13_ClockAscends.j0] at h, fun _ _ _ _ r h => by simp [soundservicelaw13_ClockAscends.j1] at h⟩
 | k + 1 => by
  obtain ⟨ih0, ih1⟩ := soundservicelaw13_ClockAscends.mono_l k
  refine ⟨?_, ?_⟩
  ·intro y0 y1 y2 y3 y4
   unfold soundservicelaw13_ClockAscends.j0
   repeat' first
   | (with_reducible exact ih0 _ _ _ _ _)
   | (with_reducible exact ih1 _ _ _ _)
   | (with_reducible exact clock_Between.mono _ _ _ _)
   | (with_reducible exact clock_Position.mono _ _ _)
   | (with_reducible exact clock_TimeOf.mono _ _ _)
   | (with_reducible exact soundservicelaw13_made.mono _ _)
   | (with_reducible exact soundservicelaw13_sane.mono _)
   | (with_reducible exact LeO.refl _)
   | (with_reducible exact LeO.none _)
   | (with_reducible refine LeO.ite ?_ ?_)
   | (with_reducible refine LeO.bind ?_ (fun _ => ?_))
   | exact ih0 _ _ _ _ _
   | exact ih1 _ _ _ _
   | exact clock_Between.mono _ _ _ _
   | exact clock_Position.mono _ _ _
   | exact clock_TimeOf.mono _ _ _
   | exact soundservicelaw13_made.mono _ _
   | exact soundservicelaw13_sane.mono _
   | exact LeO.none _
   | refine LeO.ite ?_ ?_
   | refine LeO.bind ?_ (fun _ => ?_)
  ·intro y0 y1 y2 y3
   unfold soundservicelaw13_ClockAscends.j1
   repeat' first
   | (with_reducible exact ih0 _ _ _ _ _)
   | (with_reducible exact ih1 _ _ _ _)
   | (with_reducible exact clock_Between.mono _ _ _ _)
   | (with_reducible exact clock_Position.mono _ _ _)
   | (with_reducible exact clock_TimeOf.mono _ _ _)
   | (with_reducible exact soundservicelaw13_made.mono _ _)
   | (with_reducible exact soundservicelaw13_sane.mono _)
   | (with_reducible exact LeO.refl _)
   | (with_reducible exact LeO.none _)
   | (with_reducible refine LeO.ite ?_ ?_)
   | (with_reducible refine LeO.bind ?_ (fun _ => ?_))
   | exact ih0 _ _ _ _ _
   | exact ih1 _ _ _ _
   | exact clock_Between.mono _ _ _ _
   | exact clock_Position.mono _ _ _
   | exact clock_TimeOf.mono _ _ _
   | exact soundservicelaw13_made.mono _ _
   | exact soundservicelaw13_sane.mono _
   | exact LeO.none _
   | refine LeO.ite ?_ ?_
   | refine LeO.bind ?_ (fun _ => ?_)
theorem soundservicelaw13_ClockAscends.mono : ∀ a0 a1 a2 a3 k, LeO (soundservicelaw13_ClockAscends.f k a0 a1 a2 a3) (soundservicelaw13_ClockAscends.f (k + 1) a0 a1 a2 a3) := by
 intro a0 a1 a2 a3 k
 obtain ⟨ih0, ih1⟩ := soundservicelaw13_ClockAscends.mono_l k
 unfold soundservicelaw13_ClockAscends.f
 repeat' first
   | (with_reducible exact ih0 _ _ _ _ _)
   | (with_reducible exact ih1 _ _ _ _)
   | (with_reducible exact clock_Between.mono _ _ _ _)
   | (with_reducible exact clock_Position.mono _ _ _)
   | (with_reducible exact clock_TimeOf.mono _ _ _)
   | (with_reducible exact soundservicelaw13_made.mono _ _)
   | (with_reducible exact soundservicelaw13_sane.mono _)
   | (with_reducible exact LeO.refl _)
   | (with_reducible exact LeO.none _)
   | (with_reducible refine LeO.ite ?_ ?_)
   | (with_reducible refine LeO.bind ?_ (fun _ => ?_))
   | exact ih0 _ _ _ _ _
   | exact ih1 _ _ _ _
   | exact clock_Between.mono _ _ _ _
   | exact clock_Position.mono _ _ _
   | exact clock_TimeOf.mono _ _ _
   | exact soundservicelaw13_made.mono _ _
   | exact soundservicelaw13_sane.mono _
   | exact LeO.none _
   | refine LeO.ite ?_ ?_
   | refine LeO.bind ?_ (fun _ => ?_)
set_option maxHeartbeats 8000000 in
set_option maxRecDepth 100000 in
theorem soundservicelaw13_ClockAscends.calls (k : Nat) (A0 : Option Addr) (c0 : Nat) (l0 : List Int) (a1 : Int) (a2 : Int) (a3 : Int) (r : Bool) (w : World) (hr0 : Kd.C (Kd.int .u8) w A0 l0.length l0) (hc0 : l0.length ≤ c0) (h : soundservicelaw13_ClockAscends.f k l0 a1 a2 a3 = some r) :
  Calls Try.prog 7 #[.slice A0 l0.length c0, .int .u16 a1, .int .u8 a2, .int .u16 a3] w fun e w' => e = .returned (.bool r) ∧ Below w.heap.size w w' := by
 have hu24 := Try.underlying24
 have HR0 := Am hr0
 have HC0 := Am hc0
 clear hr0 hc0
 have HB := Am (Below.refl w.heap.size w)
 have H : ((soundservicelaw13_sane.f k).bind fun t380 => (if t380 = true then ((soundservicelaw13_made.f k l0).bind fun t381 => ((clock_Position.f k t381 (wrap64 (Int.tmod a1 700))).bind fun bt385 => ((clock_Position.f k t381 (wrap64 ((wrap64 (Int.tmod a1 700)) + (wrap64 (a2))))).bind fun bt387 => ((clock_Between.f k t381 (wrap64 (Int.tmod a1 700)) (wrap64 ((wrap64 (Int.tmod a1 700)) + (wrap64 (a2))))).bind fun bt389 => ((clock_TimeOf.f k t381 (wrap64 (a3))).bind fun bt391 => (if bt385.2 = 0 then (if bt387.2 = 0 then (if bt389.2 = 0 then (if bt385.1 > bt387.1 then (soundservicelaw13_ClockAscends.j0 k a3 bt391.1 bt391.2 true t381) else (soundservicelaw13_ClockAscends.j0 k a3 bt391.1 bt391.2 ((wrap64 (bt387.1 - bt385.1)) != bt389.1) t381)) else (soundservicelaw13_ClockAscends.j0 k a3 bt391.1 bt391.2 true t381)) else (soundservicelaw13_ClockAscends.j0 k a3 bt391.1 bt391.2 true t381)) else (soundservicelaw13_ClockAscends.j0 k a3 bt391.1 bt391.2 true t381))))))) else (some false))) = some r := h
 clear h
 replace H := Option.bind_eq_some_iff.mp H
 obtain ⟨t380, A50, H⟩ := H
 replace H : (if t380 = true then ((soundservicelaw13_made.f k l0).bind fun t381 => ((clock_Position.f k t381 (wrap64 (Int.tmod a1 700))).bind fun bt385 => ((clock_Position.f k t381 (wrap64 ((wrap64 (Int.tmod a1 700)) + (wrap64 (a2))))).bind fun bt387 => ((clock_Between.f k t381 (wrap64 (Int.tmod a1 700)) (wrap64 ((wrap64 (Int.tmod a1 700)) + (wrap64 (a2))))).bind fun bt389 => ((clock_TimeOf.f k t381 (wrap64 (a3))).bind fun bt391 => (if bt385.2 = 0 then (if bt387.2 = 0 then (if bt389.2 = 0 then (if bt385.1 > bt387.1 then (soundservicelaw13_ClockAscends.j0 k a3 bt391.1 bt391.2 true t381) else (soundservicelaw13_ClockAscends.j0 k a3 bt391.1 bt391.2 ((wrap64 (bt387.1 - bt385.1)) != bt389.1) t381)) else (soundservicelaw13_ClockAscends.j0 k a3 bt391.1 bt391.2 true t381)) else (soundservicelaw13_ClockAscends.j0 k a3 bt391.1 bt391.2 true t381)) else (soundservicelaw13_ClockAscends.j0 k a3 bt391.1 bt391.2 true t381))))))) else (some false)) = some r := H
 have A5 := Am A50
 clear A50
 by_cases c6 : t380 = true
 ·subst c6
  have H1 : ((soundservicelaw13_made.f k l0).bind fun t381 => ((clock_Position.f k t381 (wrap64 (Int.tmod a1 700))).bind fun bt385 => ((clock_Position.f k t381 (wrap64 ((wrap64 (Int.tmod a1 700)) + (wrap64 (a2))))).bind fun bt387 => ((clock_Between.f k t381 (wrap64 (Int.tmod a1 700)) (wrap64 ((wrap64 (Int.tmod a1 700)) + (wrap64 (a2))))).bind fun bt389 => ((clock_TimeOf.f k t381 (wrap64 (a3))).bind fun bt391 => (if bt385.2 = 0 then (if bt387.2 = 0 then (if bt389.2 = 0 then (if bt385.1 > bt387.1 then (soundservicelaw13_ClockAscends.j0 k a3 bt391.1 bt391.2 true t381) else (soundservicelaw13_ClockAscends.j0 k a3 bt391.1 bt391.2 ((wrap64 (bt387.1 - bt385.1)) != bt389.1) t381)) else (soundservicelaw13_ClockAscends.j0 k a3 bt391.1 bt391.2 true t381)) else (soundservicelaw13_ClockAscends.j0 k a3 bt391.1 bt391.2 true t381)) else (soundservicelaw13_ClockAscends.j0 k a3 bt391.1 bt391.2 true t381))))))) = some r := by rw [if_pos rfl] at H; exact H
  clear H
  have H := H1
  clear H1
  replace H := Option.bind_eq_some_iff.mp H
  obtain ⟨t381, A70, H⟩ := H
  replace H : ((clock_Position.f k t381 (wrap64 (Int.tmod a1 700))).bind fun bt385 => ((clock_Position.f k t381 (wrap64 ((wrap64 (Int.tmod a1 700)) + (wrap64 (a2))))).bind fun bt387 => ((clock_Between.f k t381 (wrap64 (Int.tmod a1 700)) (wrap64 ((wrap64 (Int.tmod a1 700)) + (wrap64 (a2))))).bind fun bt389 => ((clock_TimeOf.f k t381 (wrap64 (a3))).bind fun bt391 => (if bt385.2 = 0 then (if bt387.2 = 0 then (if bt389.2 = 0 then (if bt385.1 > bt387.1 then (soundservicelaw13_ClockAscends.j0 k a3 bt391.1 bt391.2 true t381) else (soundservicelaw13_ClockAscends.j0 k a3 bt391.1 bt391.2 ((wrap64 (bt387.1 - bt385.1)) != bt389.1) t381)) else (soundservicelaw13_ClockAscends.j0 k a3 bt391.1 bt391.2 true t381)) else (soundservicelaw13_ClockAscends.j0 k a3 bt391.1 bt391.2 true t381)) else (soundservicelaw13_ClockAscends.j0 k a3 bt391.1 bt391.2 true t381)))))) = some r := H
  have A7 := Am A70
  clear A70
  replace H := Option.bind_eq_some_iff.mp H
  obtain ⟨⟨t385, t386⟩, A80, H⟩ := H
  replace H : ((clock_Position.f k t381 (wrap64 ((wrap64 (Int.tmod a1 700)) + (wrap64 (a2))))).bind fun bt387 => ((clock_Between.f k t381 (wrap64 (Int.tmod a1 700)) (wrap64 ((wrap64 (Int.tmod a1 700)) + (wrap64 (a2))))).bind fun bt389 => ((clock_TimeOf.f k t381 (wrap64 (a3))).bind fun bt391 => (if t386 = 0 then (if bt387.2 = 0 then (if bt389.2 = 0 then (if t385 > bt387.1 then (soundservicelaw13_ClockAscends.j0 k a3 bt391.1 bt391.2 true t381) else (soundservicelaw13_ClockAscends.j0 k a3 bt391.1 bt391.2 ((wrap64 (bt387.1 - t385)) != bt389.1) t381)) else (soundservicelaw13_ClockAscends.j0 k a3 bt391.1 bt391.2 true t381)) else (soundservicelaw13_ClockAscends.j0 k a3 bt391.1 bt391.2 true t381)) else (soundservicelaw13_ClockAscends.j0 k a3 bt391.1 bt391.2 true t381))))) = some r := H
  have A8 := Am A80
  clear A80
  replace H := Option.bind_eq_some_iff.mp H
  obtain ⟨⟨t387, t388⟩, A90, H⟩ := H
  replace H : ((clock_Between.f k t381 (wrap64 (Int.tmod a1 700)) (wrap64 ((wrap64 (Int.tmod a1 700)) + (wrap64 (a2))))).bind fun bt389 => ((clock_TimeOf.f k t381 (wrap64 (a3))).bind fun bt391 => (if t386 = 0 then (if t388 = 0 then (if bt389.2 = 0 then (if t385 > t387 then (soundservicelaw13_ClockAscends.j0 k a3 bt391.1 bt391.2 true t381) else (soundservicelaw13_ClockAscends.j0 k a3 bt391.1 bt391.2 ((wrap64 (t387 - t385)) != bt389.1) t381)) else (soundservicelaw13_ClockAscends.j0 k a3 bt391.1 bt391.2 true t381)) else (soundservicelaw13_ClockAscends.j0 k a3 bt391.1 bt391.2 true t381)) else (soundservicelaw13_ClockAscends.j0 k a3 bt391.1 bt391.2 true t381)))) = some r := H
  have A9 := Am A90
  clear A90
  replace H := Option.bind_eq_some_iff.mp H
  obtain ⟨⟨t389, t390⟩, A100, H⟩ := H
  replace H : ((clock_TimeOf.f k t381 (wrap64 (a3))).bind fun bt391 => (if t386 = 0 then (if t388 = 0 then (if t390 = 0 then (if t385 > t387 then (soundservicelaw13_ClockAscends.j0 k a3 bt391.1 bt391.2 true t381) else (soundservicelaw13_ClockAscends.j0 k a3 bt391.1 bt391.2 ((wrap64 (t387 - t385)) != t389) t381)) else (soundservicelaw13_ClockAscends.j0 k a3 bt391.1 bt391.2 true t381)) else (soundservicelaw13_ClockAscends.j0 k a3 bt391.1 bt391.2 true t381)) else (soundservicelaw13_ClockAscends.j0 k a3 bt391.1 bt391.2 true t381))) = some r := H
  have A10 := Am A100
  clear A100
  replace H := Option.bind_eq_some_iff.mp H
  obtain ⟨⟨t391, t392⟩, A110, H⟩ := H
  replace H : (if t386 = 0 then (if t388 = 0 then (if t390 = 0 then (if t385 > t387 then (soundservicelaw13_ClockAscends.j0 k a3 t391 t392 true t381) else (soundservicelaw13_ClockAscends.j0 k a3 t391 t392 ((wrap64 (t387 - t385)) != t389) t381)) else (soundservicelaw13_ClockAscends.j0 k a3 t391 t392 true t381)) else (soundservicelaw13_ClockAscends.j0 k a3 t391 t392 true t381)) else (soundservicelaw13_ClockAscends.j0 k a3 t391 t392 true t381)) = some r := H
  have A11 := Am A110
  clear A110
  have HC12 := Am H
  clear H
  go_enter Try.func7, Try.ntmps7
  go_upto_region 9 with (first | ((with_reducible refine gate_callee (f := 9) rfl ?_); refine goesL_ (some 24) rfl rfl Try.func9 (by kernel_rfl) rfl #[] rfl (by (try simp only [List.map_toArray, List.map_cons, List.map_nil]); first | done | rfl | (simp only [List.length_drop, List.length_take]; rfl)) ?_; (with_reducible refine (soundservicelaw13_sane.calls k  true _ A5.out).mono ?_); rintro e w13 ⟨rfl, hb⟩; refine ⟨_, rfl, ?_⟩; have n0_ := Am (below_step (by repeat (first | (with_reducible first | exact HB.out | apply bA | apply bN | apply bD) | exact HB.out)) hb); clear HB; have HB := n0_; clear n0_; (try clear hb); (try clear hb2); (try clear hk); (try clear hi)) | ((with_reducible refine gate_callee (f := 14) rfl ?_); refine goesL_ (some 27) rfl rfl Try.func14 (by kernel_rfl) rfl #[.slice A0 l0.length c0] rfl (by (try simp only [List.map_toArray, List.map_cons, List.map_nil]); first | done | rfl | (simp only [List.length_drop, List.length_take]; rfl)) ?_; (with_reducible refine (soundservicelaw13_made.calls k _ _ l0 t381 _ ?side1 ?side2 A7.out).mono ?_); (case side1 => repeat (first | exact (Kd.C_below HR0.out HB.out) | (with_reducible refine Kd.C_alloc ?_ _) | (with_reducible refine Kd.C_drewN ?_ _) | (with_reducible refine Kd.C_drew ?_))); (case side2 => exact HC0.out); rintro e w14 ⟨v382, rfl, ho0, hb⟩; refine ⟨_, rfl, ?_⟩; have n0_ := Am (Kd.R_lower ho0 (below_size (by repeat (first | (with_reducible first | exact HB.out | apply bA | apply bN | apply bD) | exact HB.out)))); have n1_ := Am (below_step (by repeat (first | (with_reducible first | exact HB.out | apply bA | apply bN | apply bD) | exact HB.out)) hb); clear HB; have HO383 := n0_; have HB := n1_; clear n0_ n1_; (try clear hb); (try clear hb2); (try clear hk); (try clear hi); (try clear ho0)) | ((with_reducible refine gate_dst (N := 9) rfl ?_); refine box_event ?hg (N := 9) ?hd (cs := #[.slice none 0 0]) (t := 24) ?hr ?_; (case hd => rfl); (case hg => rfl); (case hr => first | (go_simp; done) | (go_simp; rfl)); intro gb384 hg w15 hbox hb; have n0_ := Am (Kd.R_below (by (with_reducible repeat (first | apply Kd.R_alloc | apply Kd.R_drewN | apply Kd.R_drew)); exact HO383.out) hb); have n1_ := Am (below_step (by repeat (first | (with_reducible first | exact HB.out | apply bA | apply bN | apply bD) | exact HB.out)) hb); have n2_ := Am (hbox); have n3_ := Am ((by rw [hg]; exact (below_size (by repeat (first | (with_reducible first | exact HB.out | apply bA | apply bN | apply bD) | exact HB.out))) : w.heap.size ≤ gb384)); have n4_ := Am ((by rw [hg]; exact (below_size (by repeat (first | (with_reducible first | exact HB.out | apply bA | apply bN | apply bD) | exact HB.out))) : w.heap.size ≤ gb384)); clear HO383; clear HB; have HO383 := n0_; have HB := n1_; have BK384 := n2_; have GW384 := n3_; have GE384 := n4_; clear n0_ n1_ n2_ n3_ n4_; clear hb hbox hg; obtain ⟨Ao16, co16, eo16⟩ := Kd.R_slice HO383.out; subst eo16; have hcz17_0 : w15.cell? ⟨gb384, 0, none⟩ = some (.slice none 0 0) := (blk_cell BK384.out 0).trans rfl; have hfz17_0 := blk_frozen BK384.out 0) | ((with_reducible refine gate_callee (f := 21) rfl ?_); refine goesL_ (some 40) rfl rfl Try.func21 (by kernel_rfl) rfl #[.agg #[.slice Ao16 t381.length co16], .int .i64 (wrap64 (Int.tmod a1 700))] rfl (by (try simp only [List.map_toArray, List.map_cons, List.map_nil]); first | done | rfl | (simp only [List.length_drop, List.length_take]; rfl)) ?_; (with_reducible refine (clock_Position.calls k _ _ t381 (wrap64 (Int.tmod a1 700)) t385 t386 _ ?side1 ?side2 A8.out).mono ?_); (case side1 => refine (Kd.R_reads' (e := 61) (base := w.heap.size) (ok := fun k_ => True) (n := t381.length) (c := co16) ?_).2.2; exact (by (with_reducible repeat (first | apply Kd.R_alloc | apply Kd.R_drewN | apply Kd.R_drew)); exact (Kd.R_mono (Kd.R_far (p := ⟨gb384, 0, none⟩) (Kd.R_types HO383.out BK384.out (by decide)) (fun _ hk => hk.2) (.slice Ao16 t381.length co16)) (fun _ h_ => h_.1)))); (case side2 => exact (Kd.R_reads' HO383.out).2.1); rintro e w18 ⟨rfl, hb⟩; refine ⟨_, rfl, ?_⟩; have n0_ := Am (Kd.R_below (by (with_reducible repeat (first | apply Kd.R_alloc | apply Kd.R_drewN | apply Kd.R_drew)); exact (Kd.R_mono (Kd.R_far (p := ⟨gb384, 0, none⟩) (Kd.R_types HO383.out BK384.out (by decide)) (fun _ hk => hk.2) (.slice Ao16 t381.length co16)) (fun _ h_ => h_.1))) hb); have n1_ := Am (blk_below (g := gb384) (o := .cells #[.slice Ao16 t381.length co16] 24 (0, 0)) (by (with_reducible repeat (first | apply kN | apply kD | apply kA)); refine blk_put (cs := #[.slice none 0 0]) ?_ 0 _ rfl; (with_reducible repeat (first | apply kN | apply kD | apply kA)); exact BK384.out) hb); have n2_ := Am (below_step (by repeat (first | (with_reducible first | exact HB.out | apply bA | apply bN | apply bD | refine bS ?_ GE384.out) | exact HB.out)) hb); clear HO383; clear BK384; clear HB; have HO383 := n0_; have BK384 := n1_; have HB := n2_; clear n0_ n1_ n2_; (try clear hb); (try clear hb2); (try clear hk); (try clear hi); have hcz19_0 : w18.cell? ⟨gb384, 0, none⟩ = some (.slice Ao16 t381.length co16) := (blk_cell BK384.out 0).trans rfl; have hfz19_0 := blk_frozen BK384.out 0) | ((with_reducible refine gate_callee (f := 21) rfl ?_); refine goesL_ (some 46) rfl rfl Try.func21 (by kernel_rfl) rfl #[.agg #[.slice Ao16 t381.length co16], .int .i64 (wrap64 ((wrap64 (Int.tmod a1 700)) + (wrap64 (a2))))] rfl (by (try simp only [List.map_toArray, List.map_cons, List.map_nil]); first | done | rfl | (simp only [List.length_drop, List.length_take]; rfl)) ?_; (with_reducible refine (clock_Position.calls k _ _ t381 (wrap64 ((wrap64 (Int.tmod a1 700)) + (wrap64 (a2)))) t387 t388 _ ?side1 ?side2 A9.out).mono ?_); (case side1 => repeat (first | exact (Kd.R_reads' HO383.out).2.2 | (with_reducible refine Kd.C_alloc ?_ _) | (with_reducible refine Kd.C_drewN ?_ _) | (with_reducible refine Kd.C_drew ?_))); (case side2 => exact (Kd.R_reads' HO383.out).2.1); rintro e w20 ⟨rfl, hb⟩; refine ⟨_, rfl, ?_⟩; have n0_ := Am (Kd.R_below (by (with_reducible repeat (first | apply Kd.R_alloc | apply Kd.R_drewN | apply Kd.R_drew)); exact HO383.out) hb); have n1_ := Am (blk_below (g := gb384) (o := .cells #[.slice Ao16 t381.length co16] 24 (0, 0)) (by (with_reducible repeat (first | apply kN | apply kD | apply kA)); exact BK384.out) hb); have n2_ := Am (below_step (by repeat (first | (with_reducible first | exact HB.out | apply bA | apply bN | apply bD | refine bS ?_ GE384.out) | exact HB.out)) hb); clear HO383; clear BK384; clear HB; have HO383 := n0_; have BK384 := n1_; have HB := n2_; clear n0_ n1_ n2_; (try clear hb); (try clear hb2); (try clear hk); (try clear hi); have hcz21_0 : w20.cell? ⟨gb384, 0, none⟩ = some (.slice Ao16 t381.length co16) := (blk_cell BK384.out 0).trans rfl; have hfz21_0 := blk_frozen BK384.out 0) | ((with_reducible refine gate_callee (f := 24) rfl ?_); refine goesL_ (some 53) rfl rfl Try.func24 (by kernel_rfl) rfl #[.agg #[.slice Ao16 t381.length co16], .int .i64 (wrap64 (Int.tmod a1 700)), .int .i64 (wrap64 ((wrap64 (Int.tmod a1 700)) + (wrap64 (a2))))] rfl (by (try simp only [List.map_toArray, List.map_cons, List.map_nil]); first | done | rfl | (simp only [List.length_drop, List.length_take]; rfl)) ?_; (with_reducible refine (clock_Between.calls k _ _ t381 (wrap64 (Int.tmod a1 700)) (wrap64 ((wrap64 (Int.tmod a1 700)) + (wrap64 (a2)))) t389 t390 _ ?side1 ?side2 A10.out).mono ?_); (case side1 => repeat (first | exact (Kd.R_reads' HO383.out).2.2 | (with_reducible refine Kd.C_alloc ?_ _) | (with_reducible refine Kd.C_drewN ?_ _) | (with_reducible refine Kd.C_drew ?_))); (case side2 => exact (Kd.R_reads' HO383.out).2.1); rintro e w22 ⟨rfl, hb⟩; refine ⟨_, rfl, ?_⟩; have n0_ := Am (Kd.R_below (by (with_reducible repeat (first | apply Kd.R_alloc | apply Kd.R_drewN | apply Kd.R_drew)); exact HO383.out) hb); have n1_ := Am (blk_below (g := gb384) (o := .cells #[.slice Ao16 t381.length co16] 24 (0, 0)) (by (with_reducible repeat (first | apply kN | apply kD | apply kA)); exact BK384.out) hb); have n2_ := Am (below_step (by repeat (first | (with_reducible first | exact HB.out | apply bA | apply bN | apply bD | refine bS ?_ GE384.out) | exact HB.out)) hb); clear HO383; clear BK384; clear HB; have HO383 := n0_; have BK384 := n1_; have HB := n2_; clear n0_ n1_ n2_; (try clear hb); (try clear hb2); (try clear hk); (try clear hi); have hcz23_0 : w22.cell? ⟨gb384, 0, none⟩ = some (.slice Ao16 t381.length co16) := (blk_cell BK384.out 0).trans rfl; have hfz23_0 := blk_frozen BK384.out 0) | ((with_reducible refine gate_callee (f := 26) rfl ?_); refine goesL_ (some 60) rfl rfl Try.func26 (by kernel_rfl) rfl #[.agg #[.slice Ao16 t381.length co16], .int .i64 (wrap64 (a3))] rfl (by (try simp only [List.map_toArray, List.map_cons, List.map_nil]); first | done | rfl | (simp only [List.length_drop, List.length_take]; rfl)) ?_; (with_reducible refine (clock_TimeOf.calls k _ _ t381 (wrap64 (a3)) t391 t392 _ ?side1 ?side2 A11.out).mono ?_); (case side1 => repeat (first | exact (Kd.R_reads' HO383.out).2.2 | (with_reducible refine Kd.C_alloc ?_ _) | (with_reducible refine Kd.C_drewN ?_ _) | (with_reducible refine Kd.C_drew ?_))); (case side2 => exact (Kd.R_reads' HO383.out).2.1); rintro e w24 ⟨rfl, hb⟩; refine ⟨_, rfl, ?_⟩; have n0_ := Am (Kd.R_below (by (with_reducible repeat (first | apply Kd.R_alloc | apply Kd.R_drewN | apply Kd.R_drew)); exact HO383.out) hb); have n1_ := Am (blk_below (g := gb384) (o := .cells #[.slice Ao16 t381.length co16] 24 (0, 0)) (by (with_reducible repeat (first | apply kN | apply kD | apply kA)); exact BK384.out) hb); have n2_ := Am (below_step (by repeat (first | (with_reducible first | exact HB.out | apply bA | apply bN | apply bD | refine bS ?_ GE384.out) | exact HB.out)) hb); clear HO383; clear BK384; clear HB; have HO383 := n0_; have BK384 := n1_; have HB := n2_; clear n0_ n1_ n2_; (try clear hb); (try clear hb2); (try clear hk); (try clear hi)))
  (try simp only [pL])
  go_cut [84] (fun v84 wc => ∃ (kq : Nat) (x84_11 : Bool), v84 = .bool x84_11 ∧ Aside0 (soundservicelaw13_ClockAscends.j0 kq a3 t391 t392 x84_11 t381 = some r) ∧ Aside0 (kq ≤ k) ∧ Aside0 (Kd.R k61 61 wc w.heap.size (fun _ => True) (.slice Ao16 t381.length co16) t381) ∧ Aside0 (wc.heap[gb384]? = some (.cells #[(.slice Ao16 t381.length co16)] 24 (0, 0))) ∧ Aside0 (Below w.heap.size w wc))
  case first =>
   have H := HC12.out
   clear HC12
   by_cases c25 : t386 = 0
   ·rw [if_pos c25] at H
    have c25b0 : (t386 == 0) = true := beq_iff_eq.mpr c25
    have c25b1 : (t386 != 0) = false := bne_eq_false_iff_eq.mpr c25
    clear c25
    (first | rw [c25b0] | (simp only [i64_w, i32_w]; rw [c25b0]) | skip)
    by_cases c26 : t388 = 0
    ·rw [if_pos c26] at H
     have c26b0 : (t388 == 0) = true := beq_iff_eq.mpr c26
     have c26b1 : (t388 != 0) = false := bne_eq_false_iff_eq.mpr c26
     clear c26
     by_cases c27 : t390 = 0
     ·rw [if_pos c27] at H
      have c27b0 : (t390 == 0) = true := beq_iff_eq.mpr c27
      have c27b1 : (t390 != 0) = false := bne_eq_false_iff_eq.mpr c27
      clear c27
      by_cases c28 : t385 > t387
      ·rw [if_pos c28] at H
       have c28b0 : decide (t387 < t385) = true := decide_eq_true c28
       clear c28
       have H' := Am H
       clear H
       go_wp2
       go_meet
       case rel => exact ⟨_, (true), (by first | rfl | (simp; done) | (simp [*]; done)), H', ⟨by first | omega | exact Nat.le_refl _⟩, ⟨by (with_reducible repeat (first | apply Kd.R_alloc | apply Kd.R_drewN | apply Kd.R_drew)); exact HO383.out⟩, ⟨by (with_reducible repeat (first | apply kN | apply kD | apply kA)); exact BK384.out⟩, ⟨by repeat (first | (with_reducible first | exact HB.out | apply bA | apply bN | apply bD | refine bS ?_ GE384.out) | exact HB.out)⟩⟩
      ·rw [if_neg c28] at H
       have c28b0 : decide (t387 < t385) = false := decide_eq_false c28
       clear c28
       have H' := Am H
       clear H
       go_wp2
       go_meet
       case rel => exact ⟨_, (((wrap64 (t387 - t385)) != t389)), (by first | rfl | (simp; done) | (simp [*]; done)), H', ⟨by first | omega | exact Nat.le_refl _⟩, ⟨by (with_reducible repeat (first | apply Kd.R_alloc | apply Kd.R_drewN | apply Kd.R_drew)); exact HO383.out⟩, ⟨by (with_reducible repeat (first | apply kN | apply kD | apply kA)); exact BK384.out⟩, ⟨by repeat (first | (with_reducible first | exact HB.out | apply bA | apply bN | apply bD | refine bS ?_ GE384.out) | exact HB.out)⟩⟩
     ·rw [if_neg c27] at H
      have c27b0 : (t390 == 0) = false := beq_eq_false_iff_ne.mpr c27
      have c27b1 : (t390 != 0) = true := bne_iff_ne.mpr c27
      have H' := Am H
      clear H
      go_wp2
      go_meet
      case rel => exact ⟨_, (true), (by first | rfl | (simp; done) | (simp [*]; done)), H', ⟨by first | omega | exact Nat.le_refl _⟩, ⟨by (with_reducible repeat (first | apply Kd.R_alloc | apply Kd.R_drewN | apply Kd.R_drew)); exact HO383.out⟩, ⟨by (with_reducible repeat (first | apply kN | apply kD | apply kA)); exact BK384.out⟩, ⟨by repeat (first | (with_reducible first | exact HB.out | apply bA | apply bN | apply bD | refine bS ?_ GE384.out) | exact HB.out)⟩⟩
    ·rw [if_neg c26] at H
     have c26b0 : (t388 == 0) = false := beq_eq_false_iff_ne.mpr c26
     have c26b1 : (t388 != 0) = true := bne_iff_ne.mpr c26
     have H' := Am H
     clear H
     go_wp2
     go_meet
     case rel => exact ⟨_, (true), (by first | rfl | (simp; done) | (simp [*]; done)), H', ⟨by first | omega | exact Nat.le_refl _⟩, ⟨by (with_reducible repeat (first | apply Kd.R_alloc | apply Kd.R_drewN | apply Kd.R_drew)); exact HO383.out⟩, ⟨by (with_reducible repeat (first | apply kN | apply kD | apply kA)); exact BK384.out⟩, ⟨by repeat (first | (with_reducible first | exact HB.out | apply bA | apply bN | apply bD | refine bS ?_ GE384.out) | exact HB.out)⟩⟩
   ·rw [if_neg c25] at H
    have c25b0 : (t386 == 0) = false := beq_eq_false_iff_ne.mpr c25
    have c25b1 : (t386 != 0) = true := bne_iff_ne.mpr c25
    (first | rw [c25b0] | (simp only [i64_w, i32_w]; rw [c25b0]) | skip)
    have H' := Am H
    clear H
    go_wp2
    go_meet
    case rel => exact ⟨_, (true), (by first | rfl | (simp; done) | (simp [*]; done)), H', ⟨by first | omega | exact Nat.le_refl _⟩, ⟨by (with_reducible repeat (first | apply Kd.R_alloc | apply Kd.R_drewN | apply Kd.R_drew)); exact HO383.out⟩, ⟨by (with_reducible repeat (first | apply kN | apply kD | apply kA)); exact BK384.out⟩, ⟨by repeat (first | (with_reducible first | exact HB.out | apply bA | apply bN | apply bD | refine bS ?_ GE384.out) | exact HB.out)⟩⟩
  case rest =>
   clear HC12
   try clear c1
   try clear c2
   try clear p2
   try clear c6
   try clear p6
   try clear c7
   try clear c9
   try clear c14
   try clear c21
   try clear c24
   try clear c25
   try clear c25b0
   try clear c25b1
   try clear c26
   try clear c26b0
   try clear c26b1
   try clear c27
   try clear c27b0
   try clear c27b1
   try clear c28
   try clear c28b0
   try clear hcz17_0
   try clear hcz19_0
   try clear hcz21_0
   try clear hcz23_0
   try clear hfz17_0
   try clear hfz19_0
   try clear hfz21_0
   try clear hfz23_0
   obtain ⟨kq, x84_11, rfl, HA, HJ11, HO_385000, BK384, HB⟩ := hcut
   cases kq with
   | zero => exact absurd HA.out (by simp [soundservicelaw13_ClockAscends.j0])
   | succ kj11 =>
    have H := HA.out
    clear HA
    simp only [soundservicelaw13_ClockAscends.j0] at H
    by_cases c29 : x84_11 = true
    ·subst c29
     have H1 : (some false) = some r := by rw [if_pos rfl] at H; exact H
     clear H
     have H := H1
     clear H1
     obtain rfl := Option.some.inj H
     go_wp2
     go_ret
     exact ⟨by first | rfl | (simp [errW_none, errW_some] <;> rfl) | (simp [*, errW_none, errW_some] <;> rfl), by repeat (first | (with_reducible first | exact HB.out | apply bA | apply bN | apply bD | refine bS ?_ GE384.out) | exact HB.out)⟩
    ·replace c29 := Bool.eq_false_iff.mpr c29
     subst c29
     have H1 : (if t392 = 0 then ((clock_Position.f kj11 t381 t391).bind fun bt393 => (if bt393.2 = 0 then (soundservicelaw13_ClockAscends.j1 kj11 a3 t391 (decide (bt393.1 < (wrap64 (a3)))) t381) else (soundservicelaw13_ClockAscends.j1 kj11 a3 t391 true t381))) else (some (t392 == 13))) = some r := by rw [if_neg (show ¬ (false = true) by decide)] at H; exact H
     clear H
     have H := H1
     clear H1
     by_cases c30 : t392 = 0
     ·rw [if_pos c30] at H
      have c30b0 : (t392 == 0) = true := beq_iff_eq.mpr c30
      have c30b1 : (t392 != 0) = false := bne_eq_false_iff_eq.mpr c30
      clear c30
      replace H := Option.bind_eq_some_iff.mp H
      obtain ⟨⟨t393, t394⟩, A310, H⟩ := H
      replace H : (if t394 = 0 then (soundservicelaw13_ClockAscends.j1 kj11 a3 t391 (decide (t393 < (wrap64 (a3)))) t381) else (soundservicelaw13_ClockAscends.j1 kj11 a3 t391 true t381)) = some r := H
      have A31 := Am A310
      clear A310
      have HC32 := Am H
      clear H
      have hcz33_0 : wc.cell? ⟨gb384, 0, none⟩ = some (.slice Ao16 t381.length co16) := (blk_cell BK384.out 0).trans rfl
      have hfz33_0 := blk_frozen BK384.out 0
      go_upto_region 14 with (first | ((with_reducible refine gate_callee (f := 21) rfl ?_); refine goesL_ (some 92) rfl rfl Try.func21 (by kernel_rfl) rfl #[.agg #[.slice Ao16 t381.length co16], .int .i64 t391] rfl (by (try simp only [List.map_toArray, List.map_cons, List.map_nil]); first | done | rfl | (simp only [List.length_drop, List.length_take]; rfl)) ?_; (with_reducible refine (clock_Position.calls kj11 _ _ t381 t391 t393 t394 _ ?side1 ?side2 A31.out).mono ?_); (case side1 => repeat (first | exact (Kd.R_reads' HO_385000.out).2.2 | (with_reducible refine Kd.C_alloc ?_ _) | (with_reducible refine Kd.C_drewN ?_ _) | (with_reducible refine Kd.C_drew ?_))); (case side2 => exact (Kd.R_reads' HO_385000.out).2.1); rintro e w34 ⟨rfl, hb⟩; refine ⟨_, rfl, ?_⟩; have n0_ := Am (Kd.R_below (by (with_reducible repeat (first | apply Kd.R_alloc | apply Kd.R_drewN | apply Kd.R_drew)); exact HO_385000.out) hb); have n1_ := Am (blk_below (g := gb384) (o := .cells #[.slice Ao16 t381.length co16] 24 (0, 0)) (by (with_reducible repeat (first | apply kN | apply kD | apply kA)); exact BK384.out) hb); have n2_ := Am (below_step (by repeat (first | (with_reducible first | exact HB.out | apply bA | apply bN | apply bD | refine bS ?_ GE384.out) | exact HB.out)) hb); clear HO_385000; clear BK384; clear HB; have HO_385000 := n0_; have BK384 := n1_; have HB := n2_; clear n0_ n1_ n2_; (try clear hb); (try clear hb2); (try clear hk); (try clear hi)))
      (try simp only [pL])
      go_cut [102] (fun v102 wc => ∃ (kq : Nat) (x102_31 : Bool), v102 = .bool x102_31 ∧ Aside0 (soundservicelaw13_ClockAscends.j1 kq a3 t391 x102_31 t381 = some r) ∧ Aside0 (kq ≤ kj11) ∧ Aside0 (Kd.R k61 61 wc w.heap.size (fun _ => True) (.slice Ao16 t381.length co16) t381) ∧ Aside0 (wc.heap[gb384]? = some (.cells #[(.slice Ao16 t381.length co16)] 24 (0, 0))) ∧ Aside0 (Below w.heap.size w wc))
      case first =>
       have H := HC32.out
       clear HC32
       by_cases c35 : t394 = 0
       ·rw [if_pos c35] at H
        have c35b0 : (t394 == 0) = true := beq_iff_eq.mpr c35
        have c35b1 : (t394 != 0) = false := bne_eq_false_iff_eq.mpr c35
        clear c35
        (first | rw [c35b0] | (simp only [i64_w, i32_w]; rw [c35b0]) | skip)
        have H' := Am H
        clear H
        go_wp2
        go_meet
        case rel => exact ⟨_, (decide (t393 < (wrap64 (a3)))), (by first | rfl | (simp; done) | (simp [*]; done)), H', ⟨by have := HJ11.out; first | omega | exact Nat.le_refl _⟩, ⟨by (with_reducible repeat (first | apply Kd.R_alloc | apply Kd.R_drewN | apply Kd.R_drew)); exact HO_385000.out⟩, ⟨by (with_reducible repeat (first | apply kN | apply kD | apply kA)); exact BK384.out⟩, ⟨by repeat (first | (with_reducible first | exact HB.out | apply bA | apply bN | apply bD | refine bS ?_ GE384.out) | exact HB.out)⟩⟩
       ·rw [if_neg c35] at H
        have c35b0 : (t394 == 0) = false := beq_eq_false_iff_ne.mpr c35
        have c35b1 : (t394 != 0) = true := bne_iff_ne.mpr c35
        (first | rw [c35b0] | (simp only [i64_w, i32_w]; rw [c35b0]) | skip)
        have H' := Am H
        clear H
        go_wp2
        go_meet
        case rel => exact ⟨_, (true), (by first | rfl | (simp; done) | (simp [*]; done)), H', ⟨by have := HJ11.out; first | omega | exact Nat.le_refl _⟩, ⟨by (with_reducible repeat (first | apply Kd.R_alloc | apply Kd.R_drewN | apply Kd.R_drew)); exact HO_385000.out⟩, ⟨by (with_reducible repeat (first | apply kN | apply kD | apply kA)); exact BK384.out⟩, ⟨by repeat (first | (with_reducible first | exact HB.out | apply bA | apply bN | apply bD | refine bS ?_ GE384.out) | exact HB.out)⟩⟩
      case rest =>
       clear HC32
       try clear c1
       try clear c2
       try clear p2
       try clear c3
       try clear c6
       try clear p6
       try clear c7
       try clear c9
       try clear c14
       try clear c21
       try clear c24
       try clear c25
       try clear c25b0
       try clear c25b1
       try clear c26
       try clear c26b0
       try clear c26b1
       try clear c27
       try clear c27b0
       try clear c27b1
       try clear c28
       try clear c28b0
       try clear c29
       try clear c30
       try clear c30b0
       try clear c30b1
       try clear c35
       try clear c35b0
       try clear c35b1
       try clear hcz17_0
       try clear hcz19_0
       try clear hcz21_0
       try clear hcz23_0
       try clear hcz33_0
       try clear hfz17_0
       try clear hfz19_0
       try clear hfz21_0
       try clear hfz23_0
       try clear hfz33_0
       try clear p2
       try clear p6
       obtain ⟨kq, x102_31, rfl, HA, HJ31, HO_385000, BK384, HB⟩ := hcut
       cases kq with
       | zero => exact absurd HA.out (by simp [soundservicelaw13_ClockAscends.j1])
       | succ kj31 =>
        have H := HA.out
        clear HA
        simp only [soundservicelaw13_ClockAscends.j1] at H
        by_cases c36 : x102_31 = true
        ·subst c36
         have H1 : (some false) = some r := by rw [if_pos rfl] at H; exact H
         clear H
         have H := H1
         clear H1
         obtain rfl := Option.some.inj H
         go_wp2
         go_ret
         exact ⟨by first | rfl | (simp [errW_none, errW_some] <;> rfl) | (simp [*, errW_none, errW_some] <;> rfl), by repeat (first | (with_reducible first | exact HB.out | apply bA | apply bN | apply bD | refine bS ?_ GE384.out) | exact HB.out)⟩
        ·replace c36 := Bool.eq_false_iff.mpr c36
         subst c36
         have H1 : (if t391 = 0 then (some (a3 == 0)) else ((clock_Position.f kj31 t381 (wrap64 (t391 - 1))).bind fun bt395 => (if bt395.2 = 0 then (some (decide (bt395.1 < (wrap64 (a3))))) else (some false)))) = some r := by rw [if_neg (show ¬ (false = true) by decide)] at H; exact H
         clear H
         have H := H1
         clear H1
         by_cases c37 : t391 = 0
         ·rw [if_pos c37] at H
          have c37b0 : (t391 == 0) = true := beq_iff_eq.mpr c37
          have c37b1 : (t391 != 0) = false := bne_eq_false_iff_eq.mpr c37
          clear c37
          obtain rfl := Option.some.inj H
          go_wp2
          go_ret
          exact ⟨by first | rfl | (simp [errW_none, errW_some] <;> rfl) | (simp [*, errW_none, errW_some] <;> rfl), by repeat (first | (with_reducible first | exact HB.out | apply bA | apply bN | apply bD | refine bS ?_ GE384.out) | exact HB.out)⟩
         ·rw [if_neg c37] at H
          have c37b0 : (t391 == 0) = false := beq_eq_false_iff_ne.mpr c37
          have c37b1 : (t391 != 0) = true := bne_iff_ne.mpr c37
          replace H := Option.bind_eq_some_iff.mp H
          obtain ⟨⟨t395, t396⟩, A380, H⟩ := H
          replace H : (if t396 = 0 then (some (decide (t395 < (wrap64 (a3))))) else (some false)) = some r := H
          have A38 := Am A380
          clear A380
          by_cases c39 : t396 = 0
          ·rw [if_pos c39] at H
           have c39b0 : (t396 == 0) = true := beq_iff_eq.mpr c39
           have c39b1 : (t396 != 0) = false := bne_eq_false_iff_eq.mpr c39
           clear c39
           obtain rfl := Option.some.inj H
           have hcz40_0 : wc.cell? ⟨gb384, 0, none⟩ = some (.slice Ao16 t381.length co16) := (blk_cell BK384.out 0).trans rfl
           have hfz40_0 := blk_frozen BK384.out 0
           go_wp2_with (first | ((with_reducible refine gate_callee (f := 21) rfl ?_); refine goesL_ (some 111) rfl rfl Try.func21 (by kernel_rfl) rfl #[.agg #[.slice Ao16 t381.length co16], .int .i64 (wrap64 (t391 - 1))] rfl (by (try simp only [List.map_toArray, List.map_cons, List.map_nil]); first | done | rfl | (simp only [List.length_drop, List.length_take]; rfl)) ?_; (with_reducible refine (clock_Position.calls kj31 _ _ t381 (wrap64 (t391 - 1)) t395 t396 _ ?side1 ?side2 A38.out).mono ?_); (case side1 => repeat (first | exact (Kd.R_reads' HO_385000.out).2.2 | (with_reducible refine Kd.C_alloc ?_ _) | (with_reducible refine Kd.C_drewN ?_ _) | (with_reducible refine Kd.C_drew ?_))); (case side2 => exact (Kd.R_reads' HO_385000.out).2.1); rintro e w41 ⟨rfl, hb⟩; refine ⟨_, rfl, ?_⟩; have n0_ := Am (Kd.R_below (by (with_reducible repeat (first | apply Kd.R_alloc | apply Kd.R_drewN | apply Kd.R_drew)); exact HO_385000.out) hb); have n1_ := Am (blk_below (g := gb384) (o := .cells #[.slice Ao16 t381.length co16] 24 (0, 0)) (by (with_reducible repeat (first | apply kN | apply kD | apply kA)); exact BK384.out) hb); have n2_ := Am (below_step (by repeat (first | (with_reducible first | exact HB.out | apply bA | apply bN | apply bD | refine bS ?_ GE384.out) | exact HB.out)) hb); clear HO_385000; clear BK384; clear HB; have HO_385000 := n0_; have BK384 := n1_; have HB := n2_; clear n0_ n1_ n2_; (try clear hb); (try clear hb2); (try clear hk); (try clear hi)))
           go_ret
           exact ⟨by first | rfl | (simp [errW_none, errW_some] <;> rfl) | (simp [*, errW_none, errW_some] <;> rfl), by repeat (first | (with_reducible first | exact HB.out | apply bA | apply bN | apply bD | refine bS ?_ GE384.out) | exact HB.out)⟩
          ·rw [if_neg c39] at H
           have c39b0 : (t396 == 0) = false := beq_eq_false_iff_ne.mpr c39
           have c39b1 : (t396 != 0) = true := bne_iff_ne.mpr c39
           obtain rfl := Option.some.inj H
           have hcz42_0 : wc.cell? ⟨gb384, 0, none⟩ = some (.slice Ao16 t381.length co16) := (blk_cell BK384.out 0).trans rfl
           have hfz42_0 := blk_frozen BK384.out 0
           go_wp2_with (first | ((with_reducible refine gate_callee (f := 21) rfl ?_); refine goesL_ (some 111) rfl rfl Try.func21 (by kernel_rfl) rfl #[.agg #[.slice Ao16 t381.length co16], .int .i64 (wrap64 (t391 - 1))] rfl (by (try simp only [List.map_toArray, List.map_cons, List.map_nil]); first | done | rfl | (simp only [List.length_drop, List.length_take]; rfl)) ?_; (with_reducible refine (clock_Position.calls kj31 _ _ t381 (wrap64 (t391 - 1)) t395 t396 _ ?side1 ?side2 A38.out).mono ?_); (case side1 => repeat (first | exact (Kd.R_reads' HO_385000.out).2.2 | (with_reducible refine Kd.C_alloc ?_ _) | (with_reducible refine Kd.C_drewN ?_ _) | (with_reducible refine Kd.C_drew ?_))); (case side2 => exact (Kd.R_reads' HO_385000.out).2.1); rintro e w43 ⟨rfl, hb⟩; refine ⟨_, rfl, ?_⟩; have n0_ := Am (Kd.R_below (by (with_reducible repeat (first | apply Kd.R_alloc | apply Kd.R_drewN | apply Kd.R_drew)); exact HO_385000.out) hb); have n1_ := Am (blk_below (g := gb384) (o := .cells #[.slice Ao16 t381.length co16] 24 (0, 0)) (by (with_reducible repeat (first | apply kN | apply kD | apply kA)); exact BK384.out) hb); have n2_ := Am (below_step (by repeat (first | (with_reducible first | exact HB.out | apply bA | apply bN | apply bD | refine bS ?_ GE384.out) | exact HB.out)) hb); clear HO_385000; clear BK384; clear HB; have HO_385000 := n0_; have BK384 := n1_; have HB := n2_; clear n0_ n1_ n2_; (try clear hb); (try clear hb2); (try clear hk); (try clear hi)))
           go_ret
           exact ⟨by first | rfl | (simp [errW_none, errW_some] <;> rfl) | (simp [*, errW_none, errW_some] <;> rfl), by repeat (first | (with_reducible first | exact HB.out | apply bA | apply bN | apply bD | refine bS ?_ GE384.out) | exact HB.out)⟩
     ·rw [if_neg c30] at H
      have c30b0 : (t392 == 0) = false := beq_eq_false_iff_ne.mpr c30
      have c30b1 : (t392 != 0) = true := bne_iff_ne.mpr c30
      obtain rfl := Option.some.inj H
      go_wp2
      go_ret
      exact ⟨by first | rfl | (simp [errW_none, errW_some] <;> rfl) | (simp [*, errW_none, errW_some] <;> rfl), by repeat (first | (with_reducible first | exact HB.out | apply bA | apply bN | apply bD | refine bS ?_ GE384.out) | exact HB.out)⟩
 ·replace c6 := Bool.eq_false_iff.mpr c6
  subst c6
  have H1 : (some false) = some r := by rw [if_neg (show ¬ (false = true) by decide)] at H; exact H
  clear H
  have H := H1
  clear H1
  obtain rfl := Option.some.inj H
  go_enter Try.func7, Try.ntmps7
  go_wp2_with (first | ((with_reducible refine gate_callee (f := 9) rfl ?_); refine goesL_ (some 24) rfl rfl Try.func9 (by kernel_rfl) rfl #[] rfl (by (try simp only [List.map_toArray, List.map_cons, List.map_nil]); first | done | rfl | (simp only [List.length_drop, List.length_take]; rfl)) ?_; (with_reducible refine (soundservicelaw13_sane.calls k  false _ A5.out).mono ?_); rintro e w44 ⟨rfl, hb⟩; refine ⟨_, rfl, ?_⟩; have n0_ := Am (below_step (by repeat (first | (with_reducible first | exact HB.out | apply bA | apply bN | apply bD) | exact HB.out)) hb); clear HB; have HB := n0_; clear n0_; (try clear hb); (try clear hb2); (try clear hk); (try clear hi)))
  go_ret
  exact ⟨by first | rfl | (simp [errW_none, errW_some] <;> rfl) | (simp [*, errW_none, errW_some] <;> rfl), by repeat (first | (with_reducible first | exact HB.out | apply bA | apply bN | apply bD) | exact HB.out)⟩

/-- THE ONE PURE STATEMENT of soundservicelaw13_ClockAscends: yours. -/
def soundservicelaw13_ClockAscends.Pure : Prop := ∀ (l0 : List Int) (a1 : Int) (a2 : Int) (a3 : Int), l0.length ≤ maxLen → l0.length * 1 ≤ 140737488351232 → (∀ x ∈ l0, (Lit.int .u8 x).wf = true) → (Lit.int .u16 a1).wf = true → (Lit.int .u8 a2).wf = true → (Lit.int .u16 a3).wf = true → ∃ k, soundservicelaw13_ClockAscends.f k l0 a1 a2 a3 = some true
theorem soundservicelaw13_ClockAscends.walk (P : soundservicelaw13_ClockAscends.Pure) (a0 : Option Addr) (len0 cap0 : Nat) (z0 : List Int) (a1 : Int) (a2 : Int) (a3 : Int) (w : World) (w0 : (a0 = none ∧ len0 = 0 ∧ cap0 = 0 ∧ z0 = []) ∨ ∃ x, a0 = some x ∧ len0 ≤ cap0 ∧ cap0 ≤ maxLen ∧ z0.length = cap0 ∧ (∀ i, i < z0.length → w.cell? (x.add i) = some (.int .u8 (z0.getD i 0))) ∧ ∀ n ∈ z0, (Lit.int .u8 n).wf = true) (y0 : len0 * 1 ≤ 140737488351232) (w1 : (Lit.int .u16 a1).wf = true) (w2 : (Lit.int .u8 a2).wf = true) (w3 : (Lit.int .u16 a3).wf = true) :
  Calls Try.prog 7 #[.slice a0 len0 cap0, .int .u16 a1, .int .u8 a2, .int .u16 a3] w fun e w' => e = .returned (.bool true) ∧ Below w.heap.size w w' := by
 obtain ⟨l0, rfl, hr0, hm0, hw0, hc0⟩ := ReadsInt.ofRowC w0
 obtain ⟨k, h⟩ := P l0 a1 a2 a3 hm0 y0 hw0 w1 w2 w3
 refine (soundservicelaw13_ClockAscends.calls k _ _ l0 a1 a2 a3 true w (Kd.C_of_reads (d := (0 : Int)) (h1 := fun _ => rfl) hr0) hc0 h).mono ?_
 rintro e w' ⟨rfl, hd⟩
 exact ⟨rfl, hd⟩

end Go.Proofs.Ythnmmiofhjbkeaa.PA
