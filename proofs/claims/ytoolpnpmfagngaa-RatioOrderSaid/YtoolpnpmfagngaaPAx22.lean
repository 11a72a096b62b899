/- Walks of functions of the program: each does what its Lean function says. Written by a program of this session (wip/xprint), which runs the printer of the kit with changes. -/
import Derived.Test.YtoolpnpmfagngaaPAx0
import Derived.Test.YtoolpnpmfagngaaPAx1
import Derived.Test.YtoolpnpmfagngaaPAx5
import Derived.Test.YtoolpnpmfagngaaPAx6
import Derived.Test.YtoolpnpmfagngaaPAx8
import Derived.Test.YtoolpnpmfagngaaPAx14
import Derived.Test.YtoolpnpmfagngaaPAx16
import Derived.Test.YtoolpnpmfagngaaPAx19
namespace Go.Proofs.Ytoolpnpmfagngaa.PA
open Go.RowKit Go.Proofs.YtoolpnpmfagngaaW.PrintWords Go.Proofs.YtoolpnpmfagngaaW.PrintLast Go.Proofs.YtoolpnpmfagngaaW.PrintMore
attribute [local go_sem] max2_int min2_int max_two min_two max_three min_three max_four min_four   -- for this text's walks alone
set_option linter.unusedVariables false
set_option linter.unusedSimpArgs false

attribute [local go_sem high] eqA23
/-! ### soundservicelaw03_RatioOrder: function 9 -/
def soundservicelaw03_RatioOrder.j0 : Nat → Int → Int → Int → Int → Int → Int → Int → Int → Int → Int → Int → Int → Int → Int → Int → Int → Int → Option (Bool)
 | 0, _, _, _, _, _, _, _, _, _, _, _, _, _, _, _, _, _ => none
 | k + 1, x14, x16, x18, x20, x21, x23, x25, x345000, x345001, x346000, x346001, x354000, x354001, x358000, x358001, x362000, x362001 => if x14 = 0 then (if x16 = 0 then (if (x354000 == 1 && (x354001 == 1)) = true then (if (x358000 == x362000 && (x358001 == x362001)) = true then (if x18 = x20 then ((ratio_Cmp.f k x346000 x346001 x345000 x345001).bind fun t367 => (if t367 = (wrap64 (-x25)) then (if ((x25 == 0) == (x345000 == x346000 && (x345001 == x346001))) = true then (if x25 > 0 then (some true) else (some (decide (x21 ≤ x23)))) else (some false)) else (some false))) else (some false)) else (some false)) else (some false)) else (some false)) else (some false)
def soundservicelaw03_RatioOrder.f (k : Nat) (a0 : Int) (a1 : Int) (a2 : Int) (a3 : Int) (a4 : Int) : Option (Bool) := (soundservicelaw03_sane.f k).bind fun t339 => (if t339 = true then ((soundservicelaw03_made.f k a0 a1).bind fun bt340 => ((soundservicelaw03_made.f k a2 a3).bind fun bt342 => ((ratio_Inverse.f k bt340.1 bt340.2).bind fun bt346 => ((ratio_Mul.f k bt340.1 bt340.2 bt346.1 bt346.2.1).bind fun bt350 => ((ratio_Mul.f k bt340.1 bt340.2 bt342.1 bt342.2).bind fun bt354 => ((ratio_Mul.f k bt342.1 bt342.2 bt340.1 bt340.2).bind fun bt358 => ((ratio_Floor.f k (wrap64 (a4)) bt340.1 bt340.2).bind fun bt362 => ((ratio_Floor.f k (wrap64 (a4)) bt342.1 bt342.2).bind fun bt364 => ((ratio_Cmp.f k bt340.1 bt340.2 bt342.1 bt342.2).bind fun t366 => (soundservicelaw03_RatioOrder.j0 k bt346.2.2 bt350.2.2 bt354.2.2 bt358.2.2 bt362.1 bt364.1 t366 bt340.1 bt340.2 bt342.1 bt342.2 bt350.1 bt350.2.1 bt354.1 bt354.2.1 bt358.1 bt358.2.1)))))))))) else (some false))
theorem soundservicelaw03_RatioOrder.mono_l : ∀ k, (∀ y0 y1 y2 y3 y4 y5 y6 y7 y8 y9 y10 y11 y12 y13 y14 y15 y16, LeO (soundservicelaw03_RatioOrder.j0 k y0 y1 y2 y3 y4 y5 y6 y7 y8 y9 y10 y11 y12 y13 y14 y15 y16) (soundservicelaw03_RatioOrder.j0 (k + 1) y0 y1 y2 y3 y4 y5 y6 y7 y8 y9 y10 y11 y12 y13 y14 y15 y16))
 | 0 => fun _ _ _ _ _ _ _ _ _ _ _ _ _ _ _ _ _ r h => by simp [soundservicelaw03_RatioOrder.j0] at h
 | k + 1 => by
  have ih0 := soundservicelaw03_RatioOrder.mono_l k
  ·intro y0 y1 y2 y3 y4 y5 y6 y7 y8 y9 y10 y11 y12 y13 y14 y15 y16
   unfold soundservicelaw03_RatioOrder.j0
   repeat' first
   | (with_reducible exact ih0 _ _ _ _ _ _ _ _ _ _ _ _ _ _ _ _ _)
   | (with_reducible exact ratio_Cmp.mono _ _ _ _ _)
   | (with_reducible exact ratio_Floor.mono _ _ _ _)
   | (with_reducible exact ratio_Inverse.mono _ _ _)
   | (with_reducible exact ratio_Mul.mono _ _ _ _ _)
   | (with_reducible exact soundservicelaw03_made.mono _ _ _)
   | (with_reducible exact soundservicelaw03_sane.mono _)
   | (with_reducible exact LeO.refl _)
   | (with_reducible exact LeO.none _)
   | (with_reducible refine LeO.ite ?_ ?_)
   | (with_reducible refine LeO.bind ?_ (fun _ => ?_))
   | exact ih0 _ _ _ _ _ _ _ _ _ _ _ _ _ _ _ _ _
   | exact ratio_Cmp.mono _ _ _ _ _
   | exact ratio_Floor.mono _ _ _ _
   | exact ratio_Inverse.mono _ _ _
   | exact ratio_Mul.mono _ _ _ _ _
   | exact soundservicelaw03_made.mono _ _ _
   | exact soundservicelaw03_sane.mono _
   | exact LeO.none _
   | refine LeO.ite ?_ ?_
   | refine LeO.bind ?_ (fun _ => ?_)
theorem soundservicelaw03_RatioOrder.mono : ∀ a0 a1 a2 a3 a4 k, LeO (soundservicelaw03_RatioOrder.f k a0 a1 a2 a3 a4) (soundservicelaw03_RatioOrder.f (k + 1) a0 a1 a2 a3 a4) := by
 intro a0 a1 a2 a3 a4 k
 have ih0 := soundservicelaw03_RatioOrder.mono_l k
 unfold soundservicelaw03_RatioOrder.f
 repeat' first
   | (with_reducible exact ih0 _ _ _ _ _ _ _ _ _ _ _ _ _ _ _ _ _)
   | (with_reducible exact ratio_Cmp.mono _ _ _ _ _)
   | (with_reducible exact ratio_Floor.mono _ _ _ _)
   | (with_reducible exact ratio_Inverse.mono _ _ _)
   | (with_reducible exact ratio_Mul.mono _ _ _ _ _)
   | (with_reducible exact soundservicelaw03_made.mono _ _ _)
   | (with_reducible exact soundservicelaw03_sane.mono _)
   | (with_reducible exact LeO.refl _)
   | (with_reducible exact LeO.none _)
   | (with_reducible refine LeO.ite ?_ ?_)
   | (with_reducible refine LeO.bind ?_ (fun _ => ?_))
   | exact ih0 _ _ _ _ _ _ _ _ _ _ _ _ _ _ _ _ _
   | exact ratio_Cmp.mono _ _ _ _ _
   | exact ratio_Floor.mono _ _ _ _
   | exact ratio_Inverse.mono _ _ _
   | exact ratio_Mul.mono _ _ _ _ _
   | exact soundservicelaw03_made.mono _ _ _
   | exact soundservicelaw03_sane.mono _
   | exact LeO.none _
   | refine LeO.ite ?_ ?_
   | refine LeO.bind ?_ (fun _ => ?_)
set_option maxHeartbeats 8000000 in
set_option maxRecDepth 100000 in
theorem soundservicelaw03_RatioOrder.calls (k : Nat) (a0 : Int) (a1 : Int) (a2 : Int) (a3 : Int) (a4 : Int) (r : Bool) (w : World) (h : soundservicelaw03_RatioOrder.f k a0 a1 a2 a3 a4 = some r) :
  Calls Try.prog 9 #[.int .i64 a0, .int .i64 a1, .int .i64 a2, .int .i64 a3, .int .u16 a4] w fun e w' => e = .returned (.bool r) ∧ Below w.heap.size w w' := by
 have hu23 := Try.underlying23
 have HB := Aside0.mk (Below.refl w.heap.size w)
 have H : ((soundservicelaw03_sane.f k).bind fun t339 => (if t339 = true then ((soundservicelaw03_made.f k a0 a1).bind fun bt340 => ((soundservicelaw03_made.f k a2 a3).bind fun bt342 => ((ratio_Inverse.f k bt340.1 bt340.2).bind fun bt346 => ((ratio_Mul.f k bt340.1 bt340.2 bt346.1 bt346.2.1).bind fun bt350 => ((ratio_Mul.f k bt340.1 bt340.2 bt342.1 bt342.2).bind fun bt354 => ((ratio_Mul.f k bt342.1 bt342.2 bt340.1 bt340.2).bind fun bt358 => ((ratio_Floor.f k (wrap64 (a4)) bt340.1 bt340.2).bind fun bt362 => ((ratio_Floor.f k (wrap64 (a4)) bt342.1 bt342.2).bind fun bt364 => ((ratio_Cmp.f k bt340.1 bt340.2 bt342.1 bt342.2).bind fun t366 => (soundservicelaw03_RatioOrder.j0 k bt346.2.2 bt350.2.2 bt354.2.2 bt358.2.2 bt362.1 bt364.1 t366 bt340.1 bt340.2 bt342.1 bt342.2 bt350.1 bt350.2.1 bt354.1 bt354.2.1 bt358.1 bt358.2.1)))))))))) else (some false))) = some r := h
 clear h
 replace H := Option.bind_eq_some_iff.mp H
 obtain ⟨t339, A60, H⟩ := H
 replace H : (if t339 = true then ((soundservicelaw03_made.f k a0 a1).bind fun bt340 => ((soundservicelaw03_made.f k a2 a3).bind fun bt342 => ((ratio_Inverse.f k bt340.1 bt340.2).bind fun bt346 => ((ratio_Mul.f k bt340.1 bt340.2 bt346.1 bt346.2.1).bind fun bt350 => ((ratio_Mul.f k bt340.1 bt340.2 bt342.1 bt342.2).bind fun bt354 => ((ratio_Mul.f k bt342.1 bt342.2 bt340.1 bt340.2).bind fun bt358 => ((ratio_Floor.f k (wrap64 (a4)) bt340.1 bt340.2).bind fun bt362 => ((ratio_Floor.f k (wrap64 (a4)) bt342.1 bt342.2).bind fun bt364 => ((ratio_Cmp.f k bt340.1 bt340.2 bt342.1 bt342.2).bind fun t366 => (soundservicelaw03_RatioOrder.j0 k bt346.2.2 bt350.2.2 bt354.2.2 bt358.2.2 bt362.1 bt364.1 t366 bt340.1 bt340.2 bt342.1 bt342.2 bt350.1 bt350.2.1 bt354.1 bt354.2.1 bt358.1 bt358.2.1)))))))))) else (some false)) = some r := H
 have A6 := Aside0.mk A60
 clear A60
 by_cases c7 : t339 = true
 ·subst c7
  have H1 : ((soundservicelaw03_made.f k a0 a1).bind fun bt340 => ((soundservicelaw03_made.f k a2 a3).bind fun bt342 => ((ratio_Inverse.f k bt340.1 bt340.2).bind fun bt346 => ((ratio_Mul.f k bt340.1 bt340.2 bt346.1 bt346.2.1).bind fun bt350 => ((ratio_Mul.f k bt340.1 bt340.2 bt342.1 bt342.2).bind fun bt354 => ((ratio_Mul.f k bt342.1 bt342.2 bt340.1 bt340.2).bind fun bt358 => ((ratio_Floor.f k (wrap64 (a4)) bt340.1 bt340.2).bind fun bt362 => ((ratio_Floor.f k (wrap64 (a4)) bt342.1 bt342.2).bind fun bt364 => ((ratio_Cmp.f k bt340.1 bt340.2 bt342.1 bt342.2).bind fun t366 => (soundservicelaw03_RatioOrder.j0 k bt346.2.2 bt350.2.2 bt354.2.2 bt358.2.2 bt362.1 bt364.1 t366 bt340.1 bt340.2 bt342.1 bt342.2 bt350.1 bt350.2.1 bt354.1 bt354.2.1 bt358.1 bt358.2.1)))))))))) = some r := by rw [if_pos rfl] at H; exact H
  clear H
  have H := H1
  clear H1
  replace H := Option.bind_eq_some_iff.mp H
  obtain ⟨⟨t340, t341⟩, A80, H⟩ := H
  replace H : ((soundservicelaw03_made.f k a2 a3).bind fun bt342 => ((ratio_Inverse.f k t340 t341).bind fun bt346 => ((ratio_Mul.f k t340 t341 bt346.1 bt346.2.1).bind fun bt350 => ((ratio_Mul.f k t340 t341 bt342.1 bt342.2).bind fun bt354 => ((ratio_Mul.f k bt342.1 bt342.2 t340 t341).bind fun bt358 => ((ratio_Floor.f k (wrap64 (a4)) t340 t341).bind fun bt362 => ((ratio_Floor.f k (wrap64 (a4)) bt342.1 bt342.2).bind fun bt364 => ((ratio_Cmp.f k t340 t341 bt342.1 bt342.2).bind fun t366 => (soundservicelaw03_RatioOrder.j0 k bt346.2.2 bt350.2.2 bt354.2.2 bt358.2.2 bt362.1 bt364.1 t366 t340 t341 bt342.1 bt342.2 bt350.1 bt350.2.1 bt354.1 bt354.2.1 bt358.1 bt358.2.1))))))))) = some r := H
  have A8 := Aside0.mk A80
  clear A80
  replace H := Option.bind_eq_some_iff.mp H
  obtain ⟨⟨t342, t343⟩, A90, H⟩ := H
  replace H : ((ratio_Inverse.f k t340 t341).bind fun bt346 => ((ratio_Mul.f k t340 t341 bt346.1 bt346.2.1).bind fun bt350 => ((ratio_Mul.f k t340 t341 t342 t343).bind fun bt354 => ((ratio_Mul.f k t342 t343 t340 t341).bind fun bt358 => ((ratio_Floor.f k (wrap64 (a4)) t340 t341).bind fun bt362 => ((ratio_Floor.f k (wrap64 (a4)) t342 t343).bind fun bt364 => ((ratio_Cmp.f k t340 t341 t342 t343).bind fun t366 => (soundservicelaw03_RatioOrder.j0 k bt346.2.2 bt350.2.2 bt354.2.2 bt358.2.2 bt362.1 bt364.1 t366 t340 t341 t342 t343 bt350.1 bt350.2.1 bt354.1 bt354.2.1 bt358.1 bt358.2.1)))))))) = some r := H
  have A9 := Aside0.mk A90
  clear A90
  replace H := Option.bind_eq_some_iff.mp H
  obtain ⟨⟨t346, t347, t348⟩, A100, H⟩ := H
  replace H : ((ratio_Mul.f k t340 t341 t346 t347).bind fun bt350 => ((ratio_Mul.f k t340 t341 t342 t343).bind fun bt354 => ((ratio_Mul.f k t342 t343 t340 t341).bind fun bt358 => ((ratio_Floor.f k (wrap64 (a4)) t340 t341).bind fun bt362 => ((ratio_Floor.f k (wrap64 (a4)) t342 t343).bind fun bt364 => ((ratio_Cmp.f k t340 t341 t342 t343).bind fun t366 => (soundservicelaw03_RatioOrder.j0 k t348 bt350.2.2 bt354.2.2 bt358.2.2 bt362.1 bt364.1 t366 t340 t341 t342 t343 bt350.1 bt350.2.1 bt354.1 bt354.2.1 bt358.1 bt358.2.1))))))) = some r := H
  have A10 := Aside0.mk A100
  clear A100
  replace H := Option.bind_eq_some_iff.mp H
  obtain ⟨⟨t350, t351, t352⟩, A110, H⟩ := H
  replace H : ((ratio_Mul.f k t340 t341 t342 t343).bind fun bt354 => ((ratio_Mul.f k t342 t343 t340 t341).bind fun bt358 => ((ratio_Floor.f k (wrap64 (a4)) t340 t341).bind fun bt362 => ((ratio_Floor.f k (wrap64 (a4)) t342 t343).bind fun bt364 => ((ratio_Cmp.f k t340 t341 t342 t343).bind fun t366 => (soundservicelaw03_RatioOrder.j0 k t348 t352 bt354.2.2 bt358.2.2 bt362.1 bt364.1 t366 t340 t341 t342 t343 t350 t351 bt354.1 bt354.2.1 bt358.1 bt358.2.1)))))) = some r := H
  have A11 := Aside0.mk A110
  clear A110
  replace H := Option.bind_eq_some_iff.mp H
  obtain ⟨⟨t354, t355, t356⟩, A120, H⟩ := H
  replace H : ((ratio_Mul.f k t342 t343 t340 t341).bind fun bt358 => ((ratio_Floor.f k (wrap64 (a4)) t340 t341).bind fun bt362 => ((ratio_Floor.f k (wrap64 (a4)) t342 t343).bind fun bt364 => ((ratio_Cmp.f k t340 t341 t342 t343).bind fun t366 => (soundservicelaw03_RatioOrder.j0 k t348 t352 t356 bt358.2.2 bt362.1 bt364.1 t366 t340 t341 t342 t343 t350 t351 t354 t355 bt358.1 bt358.2.1))))) = some r := H
  have A12 := Aside0.mk A120
  clear A120
  replace H := Option.bind_eq_some_iff.mp H
  obtain ⟨⟨t358, t359, t360⟩, A130, H⟩ := H
  replace H : ((ratio_Floor.f k (wrap64 (a4)) t340 t341).bind fun bt362 => ((ratio_Floor.f k (wrap64 (a4)) t342 t343).bind fun bt364 => ((ratio_Cmp.f k t340 t341 t342 t343).bind fun t366 => (soundservicelaw03_RatioOrder.j0 k t348 t352 t356 t360 bt362.1 bt364.1 t366 t340 t341 t342 t343 t350 t351 t354 t355 t358 t359)))) = some r := H
  have A13 := Aside0.mk A130
  clear A130
  replace H := Option.bind_eq_some_iff.mp H
  obtain ⟨⟨t362, t363⟩, A140, H⟩ := H
  replace H : ((ratio_Floor.f k (wrap64 (a4)) t342 t343).bind fun bt364 => ((ratio_Cmp.f k t340 t341 t342 t343).bind fun t366 => (soundservicelaw03_RatioOrder.j0 k t348 t352 t356 t360 t362 bt364.1 t366 t340 t341 t342 t343 t350 t351 t354 t355 t358 t359))) = some r := H
  have A14 := Aside0.mk A140
  clear A140
  replace H := Option.bind_eq_some_iff.mp H
  obtain ⟨⟨t364, t365⟩, A150, H⟩ := H
  replace H : ((ratio_Cmp.f k t340 t341 t342 t343).bind fun t366 => (soundservicelaw03_RatioOrder.j0 k t348 t352 t356 t360 t362 t364 t366 t340 t341 t342 t343 t350 t351 t354 t355 t358 t359)) = some r := H
  have A15 := Aside0.mk A150
  clear A150
  have HC16 := Aside0.mk H
  clear H
  go_enter Try.func9, Try.ntmps9
  go_upto_region 10 with (first | ((with_reducible refine gate_callee (f := 10) rfl ?_); refine goesL_ (some 26) rfl rfl Try.func10 (by kernel_rfl) rfl #[] rfl (by (try simp only [List.map_toArray, List.map_cons, List.map_nil]); first | done | rfl | (simp only [List.length_drop, List.length_take]; rfl)) ?_; (with_reducible refine (soundservicelaw03_sane.calls k  true _ A6.out).mono ?_); rintro e w17 ⟨rfl, hb⟩; refine ⟨_, rfl, ?_⟩; have n0_ := Aside0.mk (below_step (by repeat (first | (with_reducible first | exact HB.out | apply below_alloc | apply pw_below_drewN | apply below_drew1) | exact HB.out)) hb); clear HB; have HB := n0_; clear n0_; (try clear hb); (try clear hb2); (try clear hk); (try clear hi)) | ((with_reducible refine gate_callee (f := 15) rfl ?_); refine goesL_ (some 30) rfl rfl Try.func15 (by kernel_rfl) rfl #[.int .i64 a0, .int .i64 a1] rfl (by (try simp only [List.map_toArray, List.map_cons, List.map_nil]); first | done | rfl | (simp only [List.length_drop, List.length_take]; rfl)) ?_; (with_reducible refine (soundservicelaw03_made.calls k a0 a1 t340 t341 _ A8.out).mono ?_); rintro e w18 ⟨rfl, hb⟩; refine ⟨_, rfl, ?_⟩; have n0_ := Aside0.mk (below_step (by repeat (first | (with_reducible first | exact HB.out | apply below_alloc | apply pw_below_drewN | apply below_drew1) | exact HB.out)) hb); clear HB; have HB := n0_; clear n0_; (try clear hb); (try clear hb2); (try clear hk); (try clear hi)) | ((with_reducible refine gate_callee (f := 15) rfl ?_); refine goesL_ (some 33) rfl rfl Try.func15 (by kernel_rfl) rfl #[.int .i64 a2, .int .i64 a3] rfl (by (try simp only [List.map_toArray, List.map_cons, List.map_nil]); first | done | rfl | (simp only [List.length_drop, List.length_take]; rfl)) ?_; (with_reducible refine (soundservicelaw03_made.calls k a2 a3 t342 t343 _ A9.out).mono ?_); rintro e w19 ⟨rfl, hb⟩; refine ⟨_, rfl, ?_⟩; have n0_ := Aside0.mk (below_step (by repeat (first | (with_reducible first | exact HB.out | apply below_alloc | apply pw_below_drewN | apply below_drew1) | exact HB.out)) hb); clear HB; have HB := n0_; clear n0_; (try clear hb); (try clear hb2); (try clear hk); (try clear hi)) | ((with_reducible refine gate_dst (N := 11) rfl ?_); refine box_event ?hg (N := 11) ?hd (cs := #[.int .i64 0, .int .i64 0]) (t := 23) ?hr ?_; (case hd => rfl); (case hg => rfl); (case hr => first | (go_simp; done) | (go_simp; rfl)); intro gb344 hg w20 hbox hb; have n0_ := Aside0.mk (below_step (by repeat (first | (with_reducible first | exact HB.out | apply below_alloc | apply pw_below_drewN | apply below_drew1) | exact HB.out)) hb); have n1_ := Aside0.mk (hbox); have n2_ := Aside0.mk ((by rw [hg]; exact (below_size (by repeat (first | (with_reducible first | exact HB.out | apply below_alloc | apply pw_below_drewN | apply below_drew1) | exact HB.out))) : w.heap.size ≤ gb344)); have n3_ := Aside0.mk ((by rw [hg]; exact (below_size (by repeat (first | (with_reducible first | exact HB.out | apply below_alloc | apply pw_below_drewN | apply below_drew1) | exact HB.out))) : w.heap.size ≤ gb344)); clear HB; have HB := n0_; have BK344 := n1_; have GW344 := n2_; have GE344 := n3_; clear n0_ n1_ n2_ n3_; clear hb hbox hg) | ((with_reducible refine gate_dst (N := 12) rfl ?_); refine box_event ?hg (N := 12) ?hd (cs := #[.int .i64 0, .int .i64 0]) (t := 23) ?hr ?_; (case hd => rfl); (case hg => rfl); (case hr => first | (go_simp; done) | (go_simp; rfl)); intro gb345 hg w21 hbox hb; have n0_ := Aside0.mk (blk_below (g := gb344) (o := .cells #[.int .i64 0, .int .i64 0] 23 (0, 0)) (by (with_reducible repeat (first | apply blk_drewN | apply blk_drew | apply blk_alloc)); exact BK344.out) hb); have n1_ := Aside0.mk (below_step (by repeat (first | (with_reducible first | exact HB.out | apply below_alloc | apply pw_below_drewN | apply below_drew1 | refine below_set ?_ GE344.out) | exact HB.out)) hb); have n2_ := Aside0.mk (hbox); have n3_ := Aside0.mk ((by rw [hg]; exact (below_size (by repeat (first | (with_reducible first | exact HB.out | apply below_alloc | apply pw_below_drewN | apply below_drew1 | refine below_set ?_ GE344.out) | exact HB.out))) : w.heap.size ≤ gb345)); have n4_ := Aside0.mk ((by rw [hg]; exact (below_size (by repeat (first | (with_reducible first | exact HB.out | apply below_alloc | apply pw_below_drewN | apply below_drew1 | refine below_set ?_ GE344.out) | exact HB.out))) : w.heap.size ≤ gb345)); have n5_ := Aside0.mk ((by rw [hg]; exact Nat.ne_of_lt (blk_lt (g := gb344) (o := .cells #[.int .i64 0, .int .i64 0] 23 (0, 0)) (by (with_reducible repeat (first | apply blk_drewN | apply blk_drew | apply blk_alloc)); exact BK344.out)) : gb344 ≠ gb345)); have n6_ := Aside0.mk ((by rw [hg]; exact Nat.ne_of_gt (blk_lt (g := gb344) (o := .cells #[.int .i64 0, .int .i64 0] 23 (0, 0)) (by (with_reducible repeat (first | apply blk_drewN | apply blk_drew | apply blk_alloc)); exact BK344.out)) : gb345 ≠ gb344)); clear BK344; clear HB; have BK344 := n0_; have HB := n1_; have BK345 := n2_; have GW345 := n3_; have GE345 := n4_; have NB344_345 := n5_; have NB345_344 := n6_; clear n0_ n1_ n2_ n3_ n4_ n5_ n6_; clear hb hbox hg; have hnb22 := NB344_345.out; have hnc22 := NB345_344.out; have hcz23_0 : w21.cell? ⟨gb344, 0, none⟩ = some (.int .i64 0) := (blk_cell BK344.out 0).trans rfl; have hcz23_1 : w21.cell? ⟨gb344, 1, none⟩ = some (.int .i64 0) := (blk_cell BK344.out 1).trans rfl; have hfz23_0 := blk_frozen BK344.out 0; have hfz23_1 := blk_frozen BK344.out 1; have hcz24_0 : w21.cell? ⟨gb345, 0, none⟩ = some (.int .i64 0) := (blk_cell BK345.out 0).trans rfl; have hcz24_1 : w21.cell? ⟨gb345, 1, none⟩ = some (.int .i64 0) := (blk_cell BK345.out 1).trans rfl; have hfz24_0 := blk_frozen BK345.out 0; have hfz24_1 := blk_frozen BK345.out 1) | ((with_reducible refine gate_callee (f := 22) rfl ?_); refine goesL_ (some 36) rfl rfl Try.func22 (by kernel_rfl) rfl #[.agg #[.int .i64 t340, .int .i64 t341]] rfl (by (try simp only [List.map_toArray, List.map_cons, List.map_nil]); first | done | rfl | (simp only [List.length_drop, List.length_take]; rfl)) ?_; (with_reducible refine (ratio_Inverse.calls k t340 t341 t346 t347 t348 _ A10.out).mono ?_); rintro e w25 ⟨rfl, hb⟩; refine ⟨_, rfl, ?_⟩; have n0_ := Aside0.mk (blk_below (g := gb344) (o := .cells #[.int .i64 t340, .int .i64 t341] 23 (0, 0)) (by (with_reducible repeat (first | apply blk_drewN | apply blk_drew | apply blk_alloc)); refine blk_far ?_ NB344_345.out _; (with_reducible repeat (first | apply blk_drewN | apply blk_drew | apply blk_alloc)); refine blk_far ?_ NB344_345.out _; (with_reducible repeat (first | apply blk_drewN | apply blk_drew | apply blk_alloc)); refine blk_put (cs := #[.int .i64 t340, .int .i64 0]) ?_ 1 _ rfl; (with_reducible repeat (first | apply blk_drewN | apply blk_drew | apply blk_alloc)); refine blk_put (cs := #[.int .i64 0, .int .i64 0]) ?_ 0 _ rfl; (with_reducible repeat (first | apply blk_drewN | apply blk_drew | apply blk_alloc)); exact BK344.out) hb); have n1_ := Aside0.mk (blk_below (g := gb345) (o := .cells #[.int .i64 t342, .int .i64 t343] 23 (0, 0)) (by (with_reducible repeat (first | apply blk_drewN | apply blk_drew | apply blk_alloc)); refine blk_put (cs := #[.int .i64 t342, .int .i64 0]) ?_ 1 _ rfl; (with_reducible repeat (first | apply blk_drewN | apply blk_drew | apply blk_alloc)); refine blk_put (cs := #[.int .i64 0, .int .i64 0]) ?_ 0 _ rfl; (with_reducible repeat (first | apply blk_drewN | apply blk_drew | apply blk_alloc)); refine blk_far ?_ NB345_344.out _; (with_reducible repeat (first | apply blk_drewN | apply blk_drew | apply blk_alloc)); refine blk_far ?_ NB345_344.out _; (with_reducible repeat (first | apply blk_drewN | apply blk_drew | apply blk_alloc)); exact BK345.out) hb); have n2_ := Aside0.mk (below_step (by repeat (first | (with_reducible first | exact HB.out | apply below_alloc | apply pw_below_drewN | apply below_drew1 | refine below_set ?_ GE344.out | refine below_set ?_ GE345.out) | exact HB.out)) hb); clear BK344; clear BK345; clear HB; have BK344 := n0_; have BK345 := n1_; have HB := n2_; clear n0_ n1_ n2_; (try clear hb); (try clear hb2); (try clear hk); (try clear hi)) | ((with_reducible refine gate_dst (N := 13) rfl ?_); refine box_event ?hg (N := 13) ?hd (cs := #[.int .i64 0, .int .i64 0]) (t := 23) ?hr ?_; (case hd => rfl); (case hg => rfl); (case hr => first | (go_simp; done) | (go_simp; rfl)); intro gb349 hg w26 hbox hb; have n0_ := Aside0.mk (blk_below (g := gb344) (o := .cells #[.int .i64 t340, .int .i64 t341] 23 (0, 0)) (by (with_reducible repeat (first | apply blk_drewN | apply blk_drew | apply blk_alloc)); exact BK344.out) hb); have n1_ := Aside0.mk (blk_below (g := gb345) (o := .cells #[.int .i64 t342, .int .i64 t343] 23 (0, 0)) (by (with_reducible repeat (first | apply blk_drewN | apply blk_drew | apply blk_alloc)); exact BK345.out) hb); have n2_ := Aside0.mk (below_step (by repeat (first | (with_reducible first | exact HB.out | apply below_alloc | apply pw_below_drewN | apply below_drew1 | refine below_set ?_ GE344.out | refine below_set ?_ GE345.out) | exact HB.out)) hb); have n3_ := Aside0.mk (hbox); have n4_ := Aside0.mk ((by rw [hg]; exact (below_size (by repeat (first | (with_reducible first | exact HB.out | apply below_alloc | apply pw_below_drewN | apply below_drew1 | refine below_set ?_ GE344.out | refine below_set ?_ GE345.out) | exact HB.out))) : w.heap.size ≤ gb349)); have n5_ := Aside0.mk ((by rw [hg]; exact (below_size (by repeat (first | (with_reducible first | exact HB.out | apply below_alloc | apply pw_below_drewN | apply below_drew1 | refine below_set ?_ GE344.out | refine below_set ?_ GE345.out) | exact HB.out))) : w.heap.size ≤ gb349)); have n6_ := Aside0.mk ((by rw [hg]; exact Nat.ne_of_lt (blk_lt (g := gb344) (o := .cells #[.int .i64 t340, .int .i64 t341] 23 (0, 0)) (by (with_reducible repeat (first | apply blk_drewN | apply blk_drew | apply blk_alloc)); exact BK344.out)) : gb344 ≠ gb349)); have n7_ := Aside0.mk ((by rw [hg]; exact Nat.ne_of_gt (blk_lt (g := gb344) (o := .cells #[.int .i64 t340, .int .i64 t341] 23 (0, 0)) (by (with_reducible repeat (first | apply blk_drewN | apply blk_drew | apply blk_alloc)); exact BK344.out)) : gb349 ≠ gb344)); have n8_ := Aside0.mk ((by rw [hg]; exact Nat.ne_of_lt (blk_lt (g := gb345) (o := .cells #[.int .i64 t342, .int .i64 t343] 23 (0, 0)) (by (with_reducible repeat (first | apply blk_drewN | apply blk_drew | apply blk_alloc)); exact BK345.out)) : gb345 ≠ gb349)); have n9_ := Aside0.mk ((by rw [hg]; exact Nat.ne_of_gt (blk_lt (g := gb345) (o := .cells #[.int .i64 t342, .int .i64 t343] 23 (0, 0)) (by (with_reducible repeat (first | apply blk_drewN | apply blk_drew | apply blk_alloc)); exact BK345.out)) : gb349 ≠ gb345)); clear BK344; clear BK345; clear HB; have BK344 := n0_; have BK345 := n1_; have HB := n2_; have BK349 := n3_; have GW349 := n4_; have GE349 := n5_; have NB344_349 := n6_; have NB349_344 := n7_; have NB345_349 := n8_; have NB349_345 := n9_; clear n0_ n1_ n2_ n3_ n4_ n5_ n6_ n7_ n8_ n9_; clear hb hbox hg; have hnb27 := NB349_344.out; have hnc27 := NB344_349.out; have hnb28 := NB349_345.out; have hnc28 := NB345_349.out; have hcz29_0 : w26.cell? ⟨gb349, 0, none⟩ = some (.int .i64 0) := (blk_cell BK349.out 0).trans rfl; have hcz29_1 : w26.cell? ⟨gb349, 1, none⟩ = some (.int .i64 0) := (blk_cell BK349.out 1).trans rfl; have hfz29_0 := blk_frozen BK349.out 0; have hfz29_1 := blk_frozen BK349.out 1; have hcz30_0 : w26.cell? ⟨gb344, 0, none⟩ = some (.int .i64 t340) := (blk_cell BK344.out 0).trans rfl; have hcz30_1 : w26.cell? ⟨gb344, 1, none⟩ = some (.int .i64 t341) := (blk_cell BK344.out 1).trans rfl; have hfz30_0 := blk_frozen BK344.out 0; have hfz30_1 := blk_frozen BK344.out 1) | ((with_reducible refine gate_callee (f := 23) rfl ?_); refine goesL_ (some 42) rfl rfl Try.func23 (by kernel_rfl) rfl #[.agg #[.int .i64 t340, .int .i64 t341], .agg #[.int .i64 t346, .int .i64 t347]] rfl (by (try simp only [List.map_toArray, List.map_cons, List.map_nil]); first | done | rfl | (simp only [List.length_drop, List.length_take]; rfl)) ?_; (with_reducible refine (ratio_Mul.calls k t340 t341 t346 t347 t350 t351 t352 _ A11.out).mono ?_); rintro e w31 ⟨rfl, hb⟩; refine ⟨_, rfl, ?_⟩; have n0_ := Aside0.mk (blk_below (g := gb344) (o := .cells #[.int .i64 t340, .int .i64 t341] 23 (0, 0)) (by (with_reducible repeat (first | apply blk_drewN | apply blk_drew | apply blk_alloc)); refine blk_far ?_ NB344_349.out _; (with_reducible repeat (first | apply blk_drewN | apply blk_drew | apply blk_alloc)); refine blk_far ?_ NB344_349.out _; (with_reducible repeat (first | apply blk_drewN | apply blk_drew | apply blk_alloc)); exact BK344.out) hb); have n1_ := Aside0.mk (blk_below (g := gb345) (o := .cells #[.int .i64 t342, .int .i64 t343] 23 (0, 0)) (by (with_reducible repeat (first | apply blk_drewN | apply blk_drew | apply blk_alloc)); refine blk_far ?_ NB345_349.out _; (with_reducible repeat (first | apply blk_drewN | apply blk_drew | apply blk_alloc)); refine blk_far ?_ NB345_349.out _; (with_reducible repeat (first | apply blk_drewN | apply blk_drew | apply blk_alloc)); exact BK345.out) hb); have n2_ := Aside0.mk (blk_below (g := gb349) (o := .cells #[.int .i64 t346, .int .i64 t347] 23 (0, 0)) (by (with_reducible repeat (first | apply blk_drewN | apply blk_drew | apply blk_alloc)); refine blk_put (cs := #[.int .i64 t346, .int .i64 0]) ?_ 1 _ rfl; (with_reducible repeat (first | apply blk_drewN | apply blk_drew | apply blk_alloc)); refine blk_put (cs := #[.int .i64 0, .int .i64 0]) ?_ 0 _ rfl; (with_reducible repeat (first | apply blk_drewN | apply blk_drew | apply blk_alloc)); exact BK349.out) hb); have n3_ := Aside0.mk (below_step (by repeat (first | (with_reducible first | exact HB.out | apply below_alloc | apply pw_below_drewN | apply below_drew1 | refine below_set ?_ GE344.out | refine below_set ?_ GE345.out | refine below_set ?_ GE349.out) | exact HB.out)) hb); clear BK344; clear BK345; clear BK349; clear HB; have BK344 := n0_; have BK345 := n1_; have BK349 := n2_; have HB := n3_; clear n0_ n1_ n2_ n3_; (try clear hb); (try clear hb2); (try clear hk); (try clear hi)) | ((with_reducible refine gate_dst (N := 15) rfl ?_); refine box_event ?hg (N := 15) ?hd (cs := #[.int .i64 0, .int .i64 0]) (t := 23) ?hr ?_; (case hd => rfl); (case hg => rfl); (case hr => first | (go_simp; done) | (go_simp; rfl)); intro gb353 hg w32 hbox hb; have n0_ := Aside0.mk (blk_below (g := gb344) (o := .cells #[.int .i64 t340, .int .i64 t341] 23 (0, 0)) (by (with_reducible repeat (first | apply blk_drewN | apply blk_drew | apply blk_alloc)); exact BK344.out) hb); have n1_ := Aside0.mk (blk_below (g := gb345) (o := .cells #[.int .i64 t342, .int .i64 t343] 23 (0, 0)) (by (with_reducible repeat (first | apply blk_drewN | apply blk_drew | apply blk_alloc)); exact BK345.out) hb); have n2_ := Aside0.mk (blk_below (g := gb349) (o := .cells #[.int .i64 t346, .int .i64 t347] 23 (0, 0)) (by (with_reducible repeat (first | apply blk_drewN | apply blk_drew | apply blk_alloc)); exact BK349.out) hb); have n3_ := Aside0.mk (below_step (by repeat (first | (with_reducible first | exact HB.out | apply below_alloc | apply pw_below_drewN | apply below_drew1 | refine below_set ?_ GE344.out | refine below_set ?_ GE345.out | refine below_set ?_ GE349.out) | exact HB.out)) hb); have n4_ := Aside0.mk (hbox); have n5_ := Aside0.mk ((by rw [hg]; exact (below_size (by repeat (first | (with_reducible first | exact HB.out | apply below_alloc | apply pw_below_drewN | apply below_drew1 | refine below_set ?_ GE344.out | refine below_set ?_ GE345.out | refine below_set ?_ GE349.out) | exact HB.out))) : w.heap.size ≤ gb353)); have n6_ := Aside0.mk ((by rw [hg]; exact (below_size (by repeat (first | (with_reducible first | exact HB.out | apply below_alloc | apply pw_below_drewN | apply below_drew1 | refine below_set ?_ GE344.out | refine below_set ?_ GE345.out | refine below_set ?_ GE349.out) | exact HB.out))) : w.heap.size ≤ gb353)); have n7_ := Aside0.mk ((by rw [hg]; exact Nat.ne_of_lt (blk_lt (g := gb344) (o := .cells #[.int .i64 t340, .int .i64 t341] 23 (0, 0)) (by (with_reducible repeat (first | apply blk_drewN | apply blk_drew | apply blk_alloc)); exact BK344.out)) : gb344 ≠ gb353)); have n8_ := Aside0.mk ((by rw [hg]; exact Nat.ne_of_gt (blk_lt (g := gb344) (o := .cells #[.int .i64 t340, .int .i64 t341] 23 (0, 0)) (by (with_reducible repeat (first | apply blk_drewN | apply blk_drew | apply blk_alloc)); exact BK344.out)) : gb353 ≠ gb344)); have n9_ := Aside0.mk ((by rw [hg]; exact Nat.ne_of_lt (blk_lt (g := gb345) (o := .cells #[.int .i64 t342, .int .i64 t343] 23 (0, 0)) (by (with_reducible repeat (first | apply blk_drewN | apply blk_drew | apply blk_alloc)); exact BK345.out)) : gb345 ≠ gb353)); have n10_ := Aside0.mk ((by rw [hg]; exact Nat.ne_of_gt (blk_lt (g := gb345) (o := .cells #[.int .i64 t342, .int .i64 t343] 23 (0, 0)) (by (with_reducible repeat (first | apply blk_drewN | apply blk_drew | apply blk_alloc)); exact BK345.out)) : gb353 ≠ gb345)); have n11_ := Aside0.mk ((by rw [hg]; exact Nat.ne_of_lt (blk_lt (g := gb349) (o := .cells #[.int .i64 t346, .int .i64 t347] 23 (0, 0)) (by (with_reducible repeat (first | apply blk_drewN | apply blk_drew | apply blk_alloc)); exact BK349.out)) : gb349 ≠ gb353)); have n12_ := Aside0.mk ((by rw [hg]; exact Nat.ne_of_gt (blk_lt (g := gb349) (o := .cells #[.int .i64 t346, .int .i64 t347] 23 (0, 0)) (by (with_reducible repeat (first | apply blk_drewN | apply blk_drew | apply blk_alloc)); exact BK349.out)) : gb353 ≠ gb349)); clear BK344; clear BK345; clear BK349; clear HB; have BK344 := n0_; have BK345 := n1_; have BK349 := n2_; have HB := n3_; have BK353 := n4_; have GW353 := n5_; have GE353 := n6_; have NB344_353 := n7_; have NB353_344 := n8_; have NB345_353 := n9_; have NB353_345 := n10_; have NB349_353 := n11_; have NB353_349 := n12_; clear n0_ n1_ n2_ n3_ n4_ n5_ n6_ n7_ n8_ n9_ n10_ n11_ n12_; clear hb hbox hg; have hnb33 := NB353_344.out; have hnc33 := NB344_353.out; have hnb34 := NB353_345.out; have hnc34 := NB345_353.out; have hnb35 := NB353_349.out; have hnc35 := NB349_353.out; have hcz36_0 : w32.cell? ⟨gb353, 0, none⟩ = some (.int .i64 0) := (blk_cell BK353.out 0).trans rfl; have hcz36_1 : w32.cell? ⟨gb353, 1, none⟩ = some (.int .i64 0) := (blk_cell BK353.out 1).trans rfl; have hfz36_0 := blk_frozen BK353.out 0; have hfz36_1 := blk_frozen BK353.out 1; have hcz37_0 : w32.cell? ⟨gb344, 0, none⟩ = some (.int .i64 t340) := (blk_cell BK344.out 0).trans rfl; have hcz37_1 : w32.cell? ⟨gb344, 1, none⟩ = some (.int .i64 t341) := (blk_cell BK344.out 1).trans rfl; have hfz37_0 := blk_frozen BK344.out 0; have hfz37_1 := blk_frozen BK344.out 1; have hcz38_0 : w32.cell? ⟨gb345, 0, none⟩ = some (.int .i64 t342) := (blk_cell BK345.out 0).trans rfl; have hcz38_1 : w32.cell? ⟨gb345, 1, none⟩ = some (.int .i64 t343) := (blk_cell BK345.out 1).trans rfl; have hfz38_0 := blk_frozen BK345.out 0; have hfz38_1 := blk_frozen BK345.out 1) | ((with_reducible refine gate_callee (f := 23) rfl ?_); refine goesL_ (some 48) rfl rfl Try.func23 (by kernel_rfl) rfl #[.agg #[.int .i64 t340, .int .i64 t341], .agg #[.int .i64 t342, .int .i64 t343]] rfl (by (try simp only [List.map_toArray, List.map_cons, List.map_nil]); first | done | rfl | (simp only [List.length_drop, List.length_take]; rfl)) ?_; (with_reducible refine (ratio_Mul.calls k t340 t341 t342 t343 t354 t355 t356 _ A12.out).mono ?_); rintro e w39 ⟨rfl, hb⟩; refine ⟨_, rfl, ?_⟩; have n0_ := Aside0.mk (blk_below (g := gb344) (o := .cells #[.int .i64 t340, .int .i64 t341] 23 (0, 0)) (by (with_reducible repeat (first | apply blk_drewN | apply blk_drew | apply blk_alloc)); refine blk_far ?_ NB344_353.out _; (with_reducible repeat (first | apply blk_drewN | apply blk_drew | apply blk_alloc)); refine blk_far ?_ NB344_353.out _; (with_reducible repeat (first | apply blk_drewN | apply blk_drew | apply blk_alloc)); exact BK344.out) hb); have n1_ := Aside0.mk (blk_below (g := gb345) (o := .cells #[.int .i64 t342, .int .i64 t343] 23 (0, 0)) (by (with_reducible repeat (first | apply blk_drewN | apply blk_drew | apply blk_alloc)); refine blk_far ?_ NB345_353.out _; (with_reducible repeat (first | apply blk_drewN | apply blk_drew | apply blk_alloc)); refine blk_far ?_ NB345_353.out _; (with_reducible repeat (first | apply blk_drewN | apply blk_drew | apply blk_alloc)); exact BK345.out) hb); have n2_ := Aside0.mk (blk_below (g := gb349) (o := .cells #[.int .i64 t346, .int .i64 t347] 23 (0, 0)) (by (with_reducible repeat (first | apply blk_drewN | apply blk_drew | apply blk_alloc)); refine blk_far ?_ NB349_353.out _; (with_reducible repeat (first | apply blk_drewN | apply blk_drew | apply blk_alloc)); refine blk_far ?_ NB349_353.out _; (with_reducible repeat (first | apply blk_drewN | apply blk_drew | apply blk_alloc)); exact BK349.out) hb); have n3_ := Aside0.mk (blk_below (g := gb353) (o := .cells #[.int .i64 t350, .int .i64 t351] 23 (0, 0)) (by (with_reducible repeat (first | apply blk_drewN | apply blk_drew | apply blk_alloc)); refine blk_put (cs := #[.int .i64 t350, .int .i64 0]) ?_ 1 _ rfl; (with_reducible repeat (first | apply blk_drewN | apply blk_drew | apply blk_alloc)); refine blk_put (cs := #[.int .i64 0, .int .i64 0]) ?_ 0 _ rfl; (with_reducible repeat (first | apply blk_drewN | apply blk_drew | apply blk_alloc)); exact BK353.out) hb); have n4_ := Aside0.mk (below_step (by repeat (first | (with_reducible first | exact HB.out | apply below_alloc | apply pw_below_drewN | apply below_drew1 | refine below_set ?_ GE344.out | refine below_set ?_ GE345.out | refine below_set ?_ GE349.out | refine below_set ?_ GE353.out) | exact HB.out)) hb); clear BK344; clear BK345; clear BK349; clear BK353; clear HB; have BK344 := n0_; have BK345 := n1_; have BK349 := n2_; have BK353 := n3_; have HB := n4_; clear n0_ n1_ n2_ n3_ n4_; (try clear hb); (try clear hb2); (try clear hk); (try clear hi)) | ((with_reducible refine gate_dst (N := 17) rfl ?_); refine box_event ?hg (N := 17) ?hd (cs := #[.int .i64 0, .int .i64 0]) (t := 23) ?hr ?_; (case hd => rfl); (case hg => rfl); (case hr => first | (go_simp; done) | (go_simp; rfl)); intro gb357 hg w40 hbox hb; have n0_ := Aside0.mk (blk_below (g := gb344) (o := .cells #[.int .i64 t340, .int .i64 t341] 23 (0, 0)) (by (with_reducible repeat (first | apply blk_drewN | apply blk_drew | apply blk_alloc)); exact BK344.out) hb); have n1_ := Aside0.mk (blk_below (g := gb345) (o := .cells #[.int .i64 t342, .int .i64 t343] 23 (0, 0)) (by (with_reducible repeat (first | apply blk_drewN | apply blk_drew | apply blk_alloc)); exact BK345.out) hb); have n2_ := Aside0.mk (blk_below (g := gb349) (o := .cells #[.int .i64 t346, .int .i64 t347] 23 (0, 0)) (by (with_reducible repeat (first | apply blk_drewN | apply blk_drew | apply blk_alloc)); exact BK349.out) hb); have n3_ := Aside0.mk (blk_below (g := gb353) (o := .cells #[.int .i64 t350, .int .i64 t351] 23 (0, 0)) (by (with_reducible repeat (first | apply blk_drewN | apply blk_drew | apply blk_alloc)); exact BK353.out) hb); have n4_ := Aside0.mk (below_step (by repeat (first | (with_reducible first | exact HB.out | apply below_alloc | apply pw_below_drewN | apply below_drew1 | refine below_set ?_ GE344.out | refine below_set ?_ GE345.out | refine below_set ?_ GE349.out | refine below_set ?_ GE353.out) | exact HB.out)) hb); have n5_ := Aside0.mk (hbox); have n6_ := Aside0.mk ((by rw [hg]; exact (below_size (by repeat (first | (with_reducible first | exact HB.out | apply below_alloc | apply pw_below_drewN | apply below_drew1 | refine below_set ?_ GE344.out | refine below_set ?_ GE345.out | refine below_set ?_ GE349.out | refine below_set ?_ GE353.out) | exact HB.out))) : w.heap.size ≤ gb357)); have n7_ := Aside0.mk ((by rw [hg]; exact (below_size (by repeat (first | (with_reducible first | exact HB.out | apply below_alloc | apply pw_below_drewN | apply below_drew1 | refine below_set ?_ GE344.out | refine below_set ?_ GE345.out | refine below_set ?_ GE349.out | refine below_set ?_ GE353.out) | exact HB.out))) : w.heap.size ≤ gb357)); have n8_ := Aside0.mk ((by rw [hg]; exact Nat.ne_of_lt (blk_lt (g := gb344) (o := .cells #[.int .i64 t340, .int .i64 t341] 23 (0, 0)) (by (with_reducible repeat (first | apply blk_drewN | apply blk_drew | apply blk_alloc)); exact BK344.out)) : gb344 ≠ gb357)); have n9_ := Aside0.mk ((by rw [hg]; exact Nat.ne_of_gt (blk_lt (g := gb344) (o := .cells #[.int .i64 t340, .int .i64 t341] 23 (0, 0)) (by (with_reducible repeat (first | apply blk_drewN | apply blk_drew | apply blk_alloc)); exact BK344.out)) : gb357 ≠ gb344)); have n10_ := Aside0.mk ((by rw [hg]; exact Nat.ne_of_lt (blk_lt (g := gb345) (o := .cells #[.int .i64 t342, .int .i64 t343] 23 (0, 0)) (by (with_reducible repeat (first | apply blk_drewN | apply blk_drew | apply blk_alloc)); exact BK345.out)) : gb345 ≠ gb357)); have n11_ := Aside0.mk ((by rw [hg]; exact Nat.ne_of_gt (blk_lt (g := gb345) (o := .cells #[.int .i64 t342, .int .i64 t343] 23 (0, 0)) (by (with_reducible repeat (first | apply blk_drewN | apply blk_drew | apply blk_alloc)); exact BK345.out)) : gb357 ≠ gb345)); have n12_ := Aside0.mk ((by rw [hg]; exact Nat.ne_of_lt (blk_lt (g := gb349) (o := .cells #[.int .i64 t346, .int .i64 t347] 23 (0, 0)) (by (with_reducible repeat (first | apply blk_drewN | apply blk_drew | apply blk_alloc)); exact BK349.out)) : gb349 ≠ gb357)); have n13_ := Aside0.mk ((by rw [hg]; exact Nat.ne_of_gt (blk_lt (g := gb349) (o := .cells #[.int .i64 t346, .int .i64 t347] 23 (0, 0)) (by (with_reducible repeat (first | apply blk_drewN | apply blk_drew | apply blk_alloc)); exact BK349.out)) : gb357 ≠ gb349)); have n14_ := Aside0.mk ((by rw [hg]; exact Nat.ne_of_lt (blk_lt (g := gb353) (o := .cells #[.int .i64 t350, .int .i64 t351] 23 (0, 0)) (by (with_reducible repeat (first | apply blk_drewN | apply blk_drew | apply blk_alloc)); exact BK353.out)) : gb353 ≠ gb357)); have n15_ := Aside0.mk ((by rw [hg]; exact Nat.ne_of_gt (blk_lt (g := gb353) (o := .cells #[.int .i64 t350, .int .i64 t351] 23 (0, 0)) (by (with_reducible repeat (first | apply blk_drewN | apply blk_drew | apply blk_alloc)); exact BK353.out)) : gb357 ≠ gb353)); clear BK344; clear BK345; clear BK349; clear BK353; clear HB; have BK344 := n0_; have BK345 := n1_; have BK349 := n2_; have BK353 := n3_; have HB := n4_; have BK357 := n5_; have GW357 := n6_; have GE357 := n7_; have NB344_357 := n8_; have NB357_344 := n9_; have NB345_357 := n10_; have NB357_345 := n11_; have NB349_357 := n12_; have NB357_349 := n13_; have NB353_357 := n14_; have NB357_353 := n15_; clear n0_ n1_ n2_ n3_ n4_ n5_ n6_ n7_ n8_ n9_ n10_ n11_ n12_ n13_ n14_ n15_; clear hb hbox hg; have hnb41 := NB357_344.out; have hnc41 := NB344_357.out; have hnb42 := NB357_345.out; have hnc42 := NB345_357.out; have hnb43 := NB357_349.out; have hnc43 := NB349_357.out; have hnb44 := NB357_353.out; have hnc44 := NB353_357.out; have hcz45_0 : w40.cell? ⟨gb357, 0, none⟩ = some (.int .i64 0) := (blk_cell BK357.out 0).trans rfl; have hcz45_1 : w40.cell? ⟨gb357, 1, none⟩ = some (.int .i64 0) := (blk_cell BK357.out 1).trans rfl; have hfz45_0 := blk_frozen BK357.out 0; have hfz45_1 := blk_frozen BK357.out 1; have hcz46_0 : w40.cell? ⟨gb345, 0, none⟩ = some (.int .i64 t342) := (blk_cell BK345.out 0).trans rfl; have hcz46_1 : w40.cell? ⟨gb345, 1, none⟩ = some (.int .i64 t343) := (blk_cell BK345.out 1).trans rfl; have hfz46_0 := blk_frozen BK345.out 0; have hfz46_1 := blk_frozen BK345.out 1; have hcz47_0 : w40.cell? ⟨gb344, 0, none⟩ = some (.int .i64 t340) := (blk_cell BK344.out 0).trans rfl; have hcz47_1 : w40.cell? ⟨gb344, 1, none⟩ = some (.int .i64 t341) := (blk_cell BK344.out 1).trans rfl; have hfz47_0 := blk_frozen BK344.out 0; have hfz47_1 := blk_frozen BK344.out 1) | ((with_reducible refine gate_callee (f := 23) rfl ?_); refine goesL_ (some 54) rfl rfl Try.func23 (by kernel_rfl) rfl #[.agg #[.int .i64 t342, .int .i64 t343], .agg #[.int .i64 t340, .int .i64 t341]] rfl (by (try simp only [List.map_toArray, List.map_cons, List.map_nil]); first | done | rfl | (simp only [List.length_drop, List.length_take]; rfl)) ?_; (with_reducible refine (ratio_Mul.calls k t342 t343 t340 t341 t358 t359 t360 _ A13.out).mono ?_); rintro e w48 ⟨rfl, hb⟩; refine ⟨_, rfl, ?_⟩; have n0_ := Aside0.mk (blk_below (g := gb344) (o := .cells #[.int .i64 t340, .int .i64 t341] 23 (0, 0)) (by (with_reducible repeat (first | apply blk_drewN | apply blk_drew | apply blk_alloc)); refine blk_far ?_ NB344_357.out _; (with_reducible repeat (first | apply blk_drewN | apply blk_drew | apply blk_alloc)); refine blk_far ?_ NB344_357.out _; (with_reducible repeat (first | apply blk_drewN | apply blk_drew | apply blk_alloc)); exact BK344.out) hb); have n1_ := Aside0.mk (blk_below (g := gb345) (o := .cells #[.int .i64 t342, .int .i64 t343] 23 (0, 0)) (by (with_reducible repeat (first | apply blk_drewN | apply blk_drew | apply blk_alloc)); refine blk_far ?_ NB345_357.out _; (with_reducible repeat (first | apply blk_drewN | apply blk_drew | apply blk_alloc)); refine blk_far ?_ NB345_357.out _; (with_reducible repeat (first | apply blk_drewN | apply blk_drew | apply blk_alloc)); exact BK345.out) hb); have n2_ := Aside0.mk (blk_below (g := gb349) (o := .cells #[.int .i64 t346, .int .i64 t347] 23 (0, 0)) (by (with_reducible repeat (first | apply blk_drewN | apply blk_drew | apply blk_alloc)); refine blk_far ?_ NB349_357.out _; (with_reducible repeat (first | apply blk_drewN | apply blk_drew | apply blk_alloc)); refine blk_far ?_ NB349_357.out _; (with_reducible repeat (first | apply blk_drewN | apply blk_drew | apply blk_alloc)); exact BK349.out) hb); have n3_ := Aside0.mk (blk_below (g := gb353) (o := .cells #[.int .i64 t350, .int .i64 t351] 23 (0, 0)) (by (with_reducible repeat (first | apply blk_drewN | apply blk_drew | apply blk_alloc)); refine blk_far ?_ NB353_357.out _; (with_reducible repeat (first | apply blk_drewN | apply blk_drew | apply blk_alloc)); refine blk_far ?_ NB353_357.out _; (with_reducible repeat (first | apply blk_drewN | apply blk_drew | apply blk_alloc)); exact BK353.out) hb); have n4_ := Aside0.mk (blk_below (g := gb357) (o := .cells #[.int .i64 t354, .int .i64 t355] 23 (0, 0)) (by (with_reducible repeat (first | apply blk_drewN | apply blk_drew | apply blk_alloc)); refine blk_put (cs := #[.int .i64 t354, .int .i64 0]) ?_ 1 _ rfl; (with_reducible repeat (first | apply blk_drewN | apply blk_drew | apply blk_alloc)); refine blk_put (cs := #[.int .i64 0, .int .i64 0]) ?_ 0 _ rfl; (with_reducible repeat (first | apply blk_drewN | apply blk_drew | apply blk_alloc)); exact BK357.out) hb); have n5_ := Aside0.mk (below_step (by repeat (first | (with_reducible first | exact HB.out | apply below_alloc | apply pw_below_drewN | apply below_drew1 | refine below_set ?_ GE344.out | refine below_set ?_ GE345.out | refine below_set ?_ GE349.out | refine below_set ?_ GE353.out | refine below_set ?_ GE357.out) | exact HB.out)) hb); clear BK344; clear BK345; clear BK349; clear BK353; clear BK357; clear HB; have BK344 := n0_; have BK345 := n1_; have BK349 := n2_; have BK353 := n3_; have BK357 := n4_; have HB := n5_; clear n0_ n1_ n2_ n3_ n4_ n5_; (try clear hb); (try clear hb2); (try clear hk); (try clear hi)) | ((with_reducible refine gate_dst (N := 19) rfl ?_); refine box_event ?hg (N := 19) ?hd (cs := #[.int .i64 0, .int .i64 0]) (t := 23) ?hr ?_; (case hd => rfl); (case hg => rfl); (case hr => first | (go_simp; done) | (go_simp; rfl)); intro gb361 hg w49 hbox hb; have n0_ := Aside0.mk (blk_below (g := gb344) (o := .cells #[.int .i64 t340, .int .i64 t341] 23 (0, 0)) (by (with_reducible repeat (first | apply blk_drewN | apply blk_drew | apply blk_alloc)); exact BK344.out) hb); have n1_ := Aside0.mk (blk_below (g := gb345) (o := .cells #[.int .i64 t342, .int .i64 t343] 23 (0, 0)) (by (with_reducible repeat (first | apply blk_drewN | apply blk_drew | apply blk_alloc)); exact BK345.out) hb); have n2_ := Aside0.mk (blk_below (g := gb349) (o := .cells #[.int .i64 t346, .int .i64 t347] 23 (0, 0)) (by (with_reducible repeat (first | apply blk_drewN | apply blk_drew | apply blk_alloc)); exact BK349.out) hb); have n3_ := Aside0.mk (blk_below (g := gb353) (o := .cells #[.int .i64 t350, .int .i64 t351] 23 (0, 0)) (by (with_reducible repeat (first | apply blk_drewN | apply blk_drew | apply blk_alloc)); exact BK353.out) hb); have n4_ := Aside0.mk (blk_below (g := gb357) (o := .cells #[.int .i64 t354, .int .i64 t355] 23 (0, 0)) (by (with_reducible repeat (first | apply blk_drewN | apply blk_drew | apply blk_alloc)); exact BK357.out) hb); have n5_ := Aside0.mk (below_step (by repeat (first | (with_reducible first | exact HB.out | apply below_alloc | apply pw_below_drewN | apply below_drew1 | refine below_set ?_ GE344.out | refine below_set ?_ GE345.out | refine below_set ?_ GE349.out | refine below_set ?_ GE353.out | refine below_set ?_ GE357.out) | exact HB.out)) hb); have n6_ := Aside0.mk (hbox); have n7_ := Aside0.mk ((by rw [hg]; exact (below_size (by repeat (first | (with_reducible first | exact HB.out | apply below_alloc | apply pw_below_drewN | apply below_drew1 | refine below_set ?_ GE344.out | refine below_set ?_ GE345.out | refine below_set ?_ GE349.out | refine below_set ?_ GE353.out | refine below_set ?_ GE357.out) | exact HB.out))) : w.heap.size ≤ gb361)); have n8_ := Aside0.mk ((by rw [hg]; exact (below_size (by repeat (first | (with_reducible first | exact HB.out | apply below_alloc | apply pw_below_drewN | apply below_drew1 | refine below_set ?_ GE344.out | refine below_set ?_ GE345.out | refine below_set ?_ GE349.out | refine below_set ?_ GE353.out | refine below_set ?_ GE357.out) | exact HB.out))) : w.heap.size ≤ gb361)); have n9_ := Aside0.mk ((by rw [hg]; exact Nat.ne_of_lt (blk_lt (g := gb344) (o := .cells #[.int .i64 t340, .int .i64 t341] 23 (0, 0)) (by (with_reducible repeat (first | apply blk_drewN | apply blk_drew | apply blk_alloc)); exact BK344.out)) : gb344 ≠ gb361)); have n10_ := Aside0.mk ((by rw [hg]; exact Nat.ne_of_gt (blk_lt (g := gb344) (o := .cells #[.int .i64 t340, .int .i64 t341] 23 (0, 0)) (by (with_reducible repeat (first | apply blk_drewN | apply blk_drew | apply blk_alloc)); exact BK344.out)) : gb361 ≠ gb344)); have n11_ := Aside0.mk ((by rw [hg]; exact Nat.ne_of_lt (blk_lt (g := gb345) (o := .cells #[.int .i64 t342, .int .i64 t343] 23 (0, 0)) (by (with_reducible repeat (first | apply blk_drewN | apply blk_drew | apply blk_alloc)); exact BK345.out)) : gb345 ≠ gb361)); have n12_ := Aside0.mk ((by rw [hg]; exact Nat.ne_of_gt (blk_lt (g := gb345) (o := .cells #[.int .i64 t342, .int .i64 t343] 23 (0, 0)) (by (with_reducible repeat (first | apply blk_drewN | apply blk_drew | apply blk_alloc)); exact BK345.out)) : gb361 ≠ gb345)); have n13_ := Aside0.mk ((by rw [hg]; exact Nat.ne_of_lt (blk_lt (g := gb349) (o := .cells #[.int .i64 t346, .int .i64 t347] 23 (0, 0)) (by (with_reducible repeat (first | apply blk_drewN | apply blk_drew | apply blk_alloc)); exact BK349.out)) : gb349 ≠ gb361)); have n14_ := Aside0.mk ((by rw [hg]; exact Nat.ne_of_gt (blk_lt (g := gb349) (o := .cells #[.int .i64 t346, .int .i64 t347] 23 (0, 0)) (by (with_reducible repeat (first | apply blk_drewN | apply blk_drew | apply blk_alloc)); exact BK349.out)) : gb361 ≠ gb349)); have n15_ := Aside0.mk ((by rw [hg]; exact Nat.ne_of_lt (blk_lt (g := gb353) (o := .cells #[.int .i64 t350, .int .i64 t351] 23 (0, 0)) (by (with_reducible repeat (first | apply blk_drewN | apply blk_drew | apply blk_alloc)); exact BK353.out)) : gb353 ≠ gb361)); have n16_ := Aside0.mk ((by rw [hg]; exact Nat.ne_of_gt (blk_lt (g := gb353) (o := .cells #[.int .i64 t350, .int .i64 t351] 23 (0, 0)) (by (with_reducible repeat (first | apply blk_drewN | apply blk_drew | apply blk_alloc)); exact BK353.out)) : gb361 ≠ gb353)); have n17_ := Aside0.mk ((by rw [hg]; exact Nat.ne_of_lt (blk_lt (g := gb357) (o := .cells #[.int .i64 t354, .int .i64 t355] 23 (0, 0)) (by (with_reducible repeat (first | apply blk_drewN | apply blk_drew | apply blk_alloc)); exact BK357.out)) : gb357 ≠ gb361)); have n18_ := Aside0.mk ((by rw [hg]; exact Nat.ne_of_gt (blk_lt (g := gb357) (o := .cells #[.int .i64 t354, .int .i64 t355] 23 (0, 0)) (by (with_reducible repeat (first | apply blk_drewN | apply blk_drew | apply blk_alloc)); exact BK357.out)) : gb361 ≠ gb357)); clear BK344; clear BK345; clear BK349; clear BK353; clear BK357; clear HB; have BK344 := n0_; have BK345 := n1_; have BK349 := n2_; have BK353 := n3_; have BK357 := n4_; have HB := n5_; have BK361 := n6_; have GW361 := n7_; have GE361 := n8_; have NB344_361 := n9_; have NB361_344 := n10_; have NB345_361 := n11_; have NB361_345 := n12_; have NB349_361 := n13_; have NB361_349 := n14_; have NB353_361 := n15_; have NB361_353 := n16_; have NB357_361 := n17_; have NB361_357 := n18_; clear n0_ n1_ n2_ n3_ n4_ n5_ n6_ n7_ n8_ n9_ n10_ n11_ n12_ n13_ n14_ n15_ n16_ n17_ n18_; clear hb hbox hg; have hnb50 := NB361_344.out; have hnc50 := NB344_361.out; have hnb51 := NB361_345.out; have hnc51 := NB345_361.out; have hnb52 := NB361_349.out; have hnc52 := NB349_361.out; have hnb53 := NB361_353.out; have hnc53 := NB353_361.out; have hnb54 := NB361_357.out; have hnc54 := NB357_361.out; have hcz55_0 : w49.cell? ⟨gb361, 0, none⟩ = some (.int .i64 0) := (blk_cell BK361.out 0).trans rfl; have hcz55_1 : w49.cell? ⟨gb361, 1, none⟩ = some (.int .i64 0) := (blk_cell BK361.out 1).trans rfl; have hfz55_0 := blk_frozen BK361.out 0; have hfz55_1 := blk_frozen BK361.out 1; have hcz56_0 : w49.cell? ⟨gb344, 0, none⟩ = some (.int .i64 t340) := (blk_cell BK344.out 0).trans rfl; have hcz56_1 : w49.cell? ⟨gb344, 1, none⟩ = some (.int .i64 t341) := (blk_cell BK344.out 1).trans rfl; have hfz56_0 := blk_frozen BK344.out 0; have hfz56_1 := blk_frozen BK344.out 1) | ((with_reducible refine gate_callee (f := 16) rfl ?_); refine goesL_ (some 61) rfl rfl Try.func16 (by kernel_rfl) rfl #[.int .i64 (wrap64 (a4)), .agg #[.int .i64 t340, .int .i64 t341]] rfl (by (try simp only [List.map_toArray, List.map_cons, List.map_nil]); first | done | rfl | (simp only [List.length_drop, List.length_take]; rfl)) ?_; (with_reducible refine (ratio_Floor.calls k (wrap64 (a4)) t340 t341 t362 t363 _ A14.out).mono ?_); rintro e w57 ⟨rfl, hb⟩; refine ⟨_, rfl, ?_⟩; have n0_ := Aside0.mk (blk_below (g := gb344) (o := .cells #[.int .i64 t340, .int .i64 t341] 23 (0, 0)) (by (with_reducible repeat (first | apply blk_drewN | apply blk_drew | apply blk_alloc)); refine blk_far ?_ NB344_361.out _; (with_reducible repeat (first | apply blk_drewN | apply blk_drew | apply blk_alloc)); refine blk_far ?_ NB344_361.out _; (with_reducible repeat (first | apply blk_drewN | apply blk_drew | apply blk_alloc)); exact BK344.out) hb); have n1_ := Aside0.mk (blk_below (g := gb345) (o := .cells #[.int .i64 t342, .int .i64 t343] 23 (0, 0)) (by (with_reducible repeat (first | apply blk_drewN | apply blk_drew | apply blk_alloc)); refine blk_far ?_ NB345_361.out _; (with_reducible repeat (first | apply blk_drewN | apply blk_drew | apply blk_alloc)); refine blk_far ?_ NB345_361.out _; (with_reducible repeat (first | apply blk_drewN | apply blk_drew | apply blk_alloc)); exact BK345.out) hb); have n2_ := Aside0.mk (blk_below (g := gb349) (o := .cells #[.int .i64 t346, .int .i64 t347] 23 (0, 0)) (by (with_reducible repeat (first | apply blk_drewN | apply blk_drew | apply blk_alloc)); refine blk_far ?_ NB349_361.out _; (with_reducible repeat (first | apply blk_drewN | apply blk_drew | apply blk_alloc)); refine blk_far ?_ NB349_361.out _; (with_reducible repeat (first | apply blk_drewN | apply blk_drew | apply blk_alloc)); exact BK349.out) hb); have n3_ := Aside0.mk (blk_below (g := gb353) (o := .cells #[.int .i64 t350, .int .i64 t351] 23 (0, 0)) (by (with_reducible repeat (first | apply blk_drewN | apply blk_drew | apply blk_alloc)); refine blk_far ?_ NB353_361.out _; (with_reducible repeat (first | apply blk_drewN | apply blk_drew | apply blk_alloc)); refine blk_far ?_ NB353_361.out _; (with_reducible repeat (first | apply blk_drewN | apply blk_drew | apply blk_alloc)); exact BK353.out) hb); have n4_ := Aside0.mk (blk_below (g := gb357) (o := .cells #[.int .i64 t354, .int .i64 t355] 23 (0, 0)) (by (with_reducible repeat (first | apply blk_drewN | apply blk_drew | apply blk_alloc)); refine blk_far ?_ NB357_361.out _; (with_reducible repeat (first | apply blk_drewN | apply blk_drew | apply blk_alloc)); refine blk_far ?_ NB357_361.out _; (with_reducible repeat (first | apply blk_drewN | apply blk_drew | apply blk_alloc)); exact BK357.out) hb); have n5_ := Aside0.mk (blk_below (g := gb361) (o := .cells #[.int .i64 t358, .int .i64 t359] 23 (0, 0)) (by (with_reducible repeat (first | apply blk_drewN | apply blk_drew | apply blk_alloc)); refine blk_put (cs := #[.int .i64 t358, .int .i64 0]) ?_ 1 _ rfl; (with_reducible repeat (first | apply blk_drewN | apply blk_drew | apply blk_alloc)); refine blk_put (cs := #[.int .i64 0, .int .i64 0]) ?_ 0 _ rfl; (with_reducible repeat (first | apply blk_drewN | apply blk_drew | apply blk_alloc)); exact BK361.out) hb); have n6_ := Aside0.mk (below_step (by repeat (first | (with_reducible first | exact HB.out | apply below_alloc | apply pw_below_drewN | apply below_drew1 | refine below_set ?_ GE344.out | refine below_set ?_ GE345.out | refine below_set ?_ GE349.out | refine below_set ?_ GE353.out | refine below_set ?_ GE357.out | refine below_set ?_ GE361.out) | exact HB.out)) hb); clear BK344; clear BK345; clear BK349; clear BK353; clear BK357; clear BK361; clear HB; have BK344 := n0_; have BK345 := n1_; have BK349 := n2_; have BK353 := n3_; have BK357 := n4_; have BK361 := n5_; have HB := n6_; clear n0_ n1_ n2_ n3_ n4_ n5_ n6_; (try clear hb); (try clear hb2); (try clear hk); (try clear hi); have hcz58_0 : w57.cell? ⟨gb345, 0, none⟩ = some (.int .i64 t342) := (blk_cell BK345.out 0).trans rfl; have hcz58_1 : w57.cell? ⟨gb345, 1, none⟩ = some (.int .i64 t343) := (blk_cell BK345.out 1).trans rfl; have hfz58_0 := blk_frozen BK345.out 0; have hfz58_1 := blk_frozen BK345.out 1) | ((with_reducible refine gate_callee (f := 16) rfl ?_); refine goesL_ (some 68) rfl rfl Try.func16 (by kernel_rfl) rfl #[.int .i64 (wrap64 (a4)), .agg #[.int .i64 t342, .int .i64 t343]] rfl (by (try simp only [List.map_toArray, List.map_cons, List.map_nil]); first | done | rfl | (simp only [List.length_drop, List.length_take]; rfl)) ?_; (with_reducible refine (ratio_Floor.calls k (wrap64 (a4)) t342 t343 t364 t365 _ A15.out).mono ?_); rintro e w59 ⟨rfl, hb⟩; refine ⟨_, rfl, ?_⟩; have n0_ := Aside0.mk (blk_below (g := gb344) (o := .cells #[.int .i64 t340, .int .i64 t341] 23 (0, 0)) (by (with_reducible repeat (first | apply blk_drewN | apply blk_drew | apply blk_alloc)); exact BK344.out) hb); have n1_ := Aside0.mk (blk_below (g := gb345) (o := .cells #[.int .i64 t342, .int .i64 t343] 23 (0, 0)) (by (with_reducible repeat (first | apply blk_drewN | apply blk_drew | apply blk_alloc)); exact BK345.out) hb); have n2_ := Aside0.mk (blk_below (g := gb349) (o := .cells #[.int .i64 t346, .int .i64 t347] 23 (0, 0)) (by (with_reducible repeat (first | apply blk_drewN | apply blk_drew | apply blk_alloc)); exact BK349.out) hb); have n3_ := Aside0.mk (blk_below (g := gb353) (o := .cells #[.int .i64 t350, .int .i64 t351] 23 (0, 0)) (by (with_reducible repeat (first | apply blk_drewN | apply blk_drew | apply blk_alloc)); exact BK353.out) hb); have n4_ := Aside0.mk (blk_below (g := gb357) (o := .cells #[.int .i64 t354, .int .i64 t355] 23 (0, 0)) (by (with_reducible repeat (first | apply blk_drewN | apply blk_drew | apply blk_alloc)); exact BK357.out) hb); have n5_ := Aside0.mk (blk_below (g := gb361) (o := .cells #[.int .i64 t358, .int .i64 t359] 23 (0, 0)) (by (with_reducible repeat (first | apply blk_drewN | apply blk_drew | apply blk_alloc)); exact BK361.out) hb); have n6_ := Aside0.mk (below_step (by repeat (first | (with_reducible first | exact HB.out | apply below_alloc | apply pw_below_drewN | apply below_drew1 | refine below_set ?_ GE344.out | refine below_set ?_ GE345.out | refine below_set ?_ GE349.out | refine below_set ?_ GE353.out | refine below_set ?_ GE357.out | refine below_set ?_ GE361.out) | exact HB.out)) hb); clear BK344; clear BK345; clear BK349; clear BK353; clear BK357; clear BK361; clear HB; have BK344 := n0_; have BK345 := n1_; have BK349 := n2_; have BK353 := n3_; have BK357 := n4_; have BK361 := n5_; have HB := n6_; clear n0_ n1_ n2_ n3_ n4_ n5_ n6_; (try clear hb); (try clear hb2); (try clear hk); (try clear hi)))
  (try simp only [Act.put, List.setIfInBounds_toArray, List.set_cons_zero, List.set_cons_succ])
  go_cut [25] (fun v25 wc => ∃ (kq : Nat) (x25_15 : Int), v25 = .int .i64 x25_15 ∧ Aside0 (soundservicelaw03_RatioOrder.j0 kq t348 t352 t356 t360 t362 t364 x25_15 t340 t341 t342 t343 t350 t351 t354 t355 t358 t359 = some r) ∧ Aside0 (kq ≤ k) ∧ Aside0 (wc.heap[gb344]? = some (.cells #[.int .i64 t340, .int .i64 t341] 23 (0, 0))) ∧ Aside0 (wc.heap[gb345]? = some (.cells #[.int .i64 t342, .int .i64 t343] 23 (0, 0))) ∧ Aside0 (wc.heap[gb349]? = some (.cells #[.int .i64 t346, .int .i64 t347] 23 (0, 0))) ∧ Aside0 (wc.heap[gb353]? = some (.cells #[.int .i64 t350, .int .i64 t351] 23 (0, 0))) ∧ Aside0 (wc.heap[gb357]? = some (.cells #[.int .i64 t354, .int .i64 t355] 23 (0, 0))) ∧ Aside0 (wc.heap[gb361]? = some (.cells #[.int .i64 t358, .int .i64 t359] 23 (0, 0))) ∧ Aside0 (Below w.heap.size w wc))
  case first =>
   have H := HC16.out
   clear HC16
   replace H := Option.bind_eq_some_iff.mp H
   obtain ⟨t366, A600, H⟩ := H
   replace H : (soundservicelaw03_RatioOrder.j0 k t348 t352 t356 t360 t362 t364 t366 t340 t341 t342 t343 t350 t351 t354 t355 t358 t359) = some r := H
   have A60 := Aside0.mk A600
   clear A600
   have H' := Aside0.mk H
   clear H
   have hnb61 := NB344_345.out
   have hnc61 := NB345_344.out
   have hnb62 := NB344_349.out
   have hnc62 := NB349_344.out
   have hnb63 := NB344_353.out
   have hnc63 := NB353_344.out
   have hnb64 := NB344_357.out
   have hnc64 := NB357_344.out
   have hnb65 := NB344_361.out
   have hnc65 := NB361_344.out
   have hcz66_0 : w59.cell? ⟨gb344, 0, none⟩ = some (.int .i64 t340) := (blk_cell BK344.out 0).trans rfl
   have hcz66_1 : w59.cell? ⟨gb344, 1, none⟩ = some (.int .i64 t341) := (blk_cell BK344.out 1).trans rfl
   have hfz66_0 := blk_frozen BK344.out 0
   have hfz66_1 := blk_frozen BK344.out 1
   have hnb67 := NB345_349.out
   have hnc67 := NB349_345.out
   have hnb68 := NB345_353.out
   have hnc68 := NB353_345.out
   have hnb69 := NB345_357.out
   have hnc69 := NB357_345.out
   have hnb70 := NB345_361.out
   have hnc70 := NB361_345.out
   have hcz71_0 : w59.cell? ⟨gb345, 0, none⟩ = some (.int .i64 t342) := (blk_cell BK345.out 0).trans rfl
   have hcz71_1 : w59.cell? ⟨gb345, 1, none⟩ = some (.int .i64 t343) := (blk_cell BK345.out 1).trans rfl
   have hfz71_0 := blk_frozen BK345.out 0
   have hfz71_1 := blk_frozen BK345.out 1
   go_wp2_with (first | ((with_reducible refine gate_callee (f := 26) rfl ?_); refine goesL_ (some 73) rfl rfl Try.func26 (by kernel_rfl) rfl #[.agg #[.int .i64 t340, .int .i64 t341], .agg #[.int .i64 t342, .int .i64 t343]] rfl (by (try simp only [List.map_toArray, List.map_cons, List.map_nil]); first | done | rfl | (simp only [List.length_drop, List.length_take]; rfl)) ?_; (with_reducible refine (ratio_Cmp.calls k t340 t341 t342 t343 t366 _ A60.out).mono ?_); rintro e w72 ⟨rfl, hb⟩; refine ⟨_, rfl, ?_⟩; have n0_ := Aside0.mk (blk_below (g := gb344) (o := .cells #[.int .i64 t340, .int .i64 t341] 23 (0, 0)) (by (with_reducible repeat (first | apply blk_drewN | apply blk_drew | apply blk_alloc)); exact BK344.out) hb); have n1_ := Aside0.mk (blk_below (g := gb345) (o := .cells #[.int .i64 t342, .int .i64 t343] 23 (0, 0)) (by (with_reducible repeat (first | apply blk_drewN | apply blk_drew | apply blk_alloc)); exact BK345.out) hb); have n2_ := Aside0.mk (blk_below (g := gb349) (o := .cells #[.int .i64 t346, .int .i64 t347] 23 (0, 0)) (by (with_reducible repeat (first | apply blk_drewN | apply blk_drew | apply blk_alloc)); exact BK349.out) hb); have n3_ := Aside0.mk (blk_below (g := gb353) (o := .cells #[.int .i64 t350, .int .i64 t351] 23 (0, 0)) (by (with_reducible repeat (first | apply blk_drewN | apply blk_drew | apply blk_alloc)); exact BK353.out) hb); have n4_ := Aside0.mk (blk_below (g := gb357) (o := .cells #[.int .i64 t354, .int .i64 t355] 23 (0, 0)) (by (with_reducible repeat (first | apply blk_drewN | apply blk_drew | apply blk_alloc)); exact BK357.out) hb); have n5_ := Aside0.mk (blk_below (g := gb361) (o := .cells #[.int .i64 t358, .int .i64 t359] 23 (0, 0)) (by (with_reducible repeat (first | apply blk_drewN | apply blk_drew | apply blk_alloc)); exact BK361.out) hb); have n6_ := Aside0.mk (below_step (by repeat (first | (with_reducible first | exact HB.out | apply below_alloc | apply pw_below_drewN | apply below_drew1 | refine below_set ?_ GE344.out | refine below_set ?_ GE345.out | refine below_set ?_ GE349.out | refine below_set ?_ GE353.out | refine below_set ?_ GE357.out | refine below_set ?_ GE361.out) | exact HB.out)) hb); clear BK344; clear BK345; clear BK349; clear BK353; clear BK357; clear BK361; clear HB; have BK344 := n0_; have BK345 := n1_; have BK349 := n2_; have BK353 := n3_; have BK357 := n4_; have BK361 := n5_; have HB := n6_; clear n0_ n1_ n2_ n3_ n4_ n5_ n6_; (try clear hb); (try clear hb2); (try clear hk); (try clear hi)))
   go_meet
   case rel => exact ⟨_, (t366), (by first | rfl | (simp; done) | (simp [*]; done)), H', ⟨by first | omega | exact Nat.le_refl _⟩, ⟨by (with_reducible repeat (first | apply blk_drewN | apply blk_drew | apply blk_alloc)); exact BK344.out⟩, ⟨by (with_reducible repeat (first | apply blk_drewN | apply blk_drew | apply blk_alloc)); exact BK345.out⟩, ⟨by (with_reducible repeat (first | apply blk_drewN | apply blk_drew | apply blk_alloc)); exact BK349.out⟩, ⟨by (with_reducible repeat (first | apply blk_drewN | apply blk_drew | apply blk_alloc)); exact BK353.out⟩, ⟨by (with_reducible repeat (first | apply blk_drewN | apply blk_drew | apply blk_alloc)); exact BK357.out⟩, ⟨by (with_reducible repeat (first | apply blk_drewN | apply blk_drew | apply blk_alloc)); exact BK361.out⟩, ⟨by repeat (first | (with_reducible first | exact HB.out | apply below_alloc | apply pw_below_drewN | apply below_drew1 | refine below_set ?_ GE344.out | refine below_set ?_ GE345.out | refine below_set ?_ GE349.out | refine below_set ?_ GE353.out | refine below_set ?_ GE357.out | refine below_set ?_ GE361.out) | exact HB.out)⟩⟩
  case rest =>
   clear HC16
   try clear c1
   try clear c2
   try clear p2
   try clear c3
   try clear c4
   try clear c5
   try clear c6
   try clear p6
   try clear c7
   try clear c9
   try clear c10
   try clear c15
   try clear c16
   try clear c22
   try clear c23
   try clear c26
   try clear c27
   try clear c28
   try clear c33
   try clear c34
   try clear c35
   try clear c41
   try clear c42
   try clear c43
   try clear c44
   try clear c50
   try clear c51
   try clear c52
   try clear c53
   try clear c54
   try clear c61
   try clear c62
   try clear c63
   try clear c64
   try clear p64
   try clear c65
   try clear c67
   try clear c68
   try clear c69
   try clear c70
   try clear hcz23_0
   try clear hcz23_1
   try clear hcz24_0
   try clear hcz24_1
   try clear hcz29_0
   try clear hcz29_1
   try clear hcz30_0
   try clear hcz30_1
   try clear hcz36_0
   try clear hcz36_1
   try clear hcz37_0
   try clear hcz37_1
   try clear hcz38_0
   try clear hcz38_1
   try clear hcz45_0
   try clear hcz45_1
   try clear hcz46_0
   try clear hcz46_1
   try clear hcz47_0
   try clear hcz47_1
   try clear hcz55_0
   try clear hcz55_1
   try clear hcz56_0
   try clear hcz56_1
   try clear hcz58_0
   try clear hcz58_1
   try clear hcz66_0
   try clear hcz66_1
   try clear hcz71_0
   try clear hcz71_1
   try clear hfz23_0
   try clear hfz23_1
   try clear hfz24_0
   try clear hfz24_1
   try clear hfz29_0
   try clear hfz29_1
   try clear hfz30_0
   try clear hfz30_1
   try clear hfz36_0
   try clear hfz36_1
   try clear hfz37_0
   try clear hfz37_1
   try clear hfz38_0
   try clear hfz38_1
   try clear hfz45_0
   try clear hfz45_1
   try clear hfz46_0
   try clear hfz46_1
   try clear hfz47_0
   try clear hfz47_1
   try clear hfz55_0
   try clear hfz55_1
   try clear hfz56_0
   try clear hfz56_1
   try clear hfz58_0
   try clear hfz58_1
   try clear hfz66_0
   try clear hfz66_1
   try clear hfz71_0
   try clear hfz71_1
   obtain ⟨kq, x25_15, rfl, HA, HJ15, BK344, BK345, BK349, BK353, BK357, BK361, HB⟩ := hcut
   cases kq with
   | zero => exact absurd HA.out (by simp [soundservicelaw03_RatioOrder.j0])
   | succ kj15 =>
    have H := HA.out
    clear HA
    simp only [soundservicelaw03_RatioOrder.j0] at H
    by_cases c73 : t348 = 0
    ·rw [if_pos c73] at H
     have c73b0 : (t348 == 0) = true := beq_iff_eq.mpr c73
     have c73b1 : (t348 != 0) = false := bne_eq_false_iff_eq.mpr c73
     clear c73
     by_cases c74 : t352 = 0
     ·rw [if_pos c74] at H
      have c74b0 : (t352 == 0) = true := beq_iff_eq.mpr c74
      have c74b1 : (t352 != 0) = false := bne_eq_false_iff_eq.mpr c74
      clear c74
      by_cases c75 : (t350 == 1 && (t351 == 1)) = true
      ·rw [if_pos c75] at H
       have c75b0 : (t350 == 1 && (t351 == 1)) = true := c75
       (try (have c75b1 : decide (t350 = 1 && (t351 == 1)) = true := by simpa using c75))
       (try (have c75b2 : (t350 == 1 && (t351 == 1)) = true := by simpa using c75))
       clear c75
       by_cases c76 : (t354 == t358 && (t355 == t359)) = true
       ·rw [if_pos c76] at H
        have c76b0 : (t354 == t358 && (t355 == t359)) = true := c76
        (try (have c76b1 : decide (t354 = t358 && (t355 == t359)) = true := by simpa using c76))
        (try (have c76b2 : (t354 == t358 && (t355 == t359)) = true := by simpa using c76))
        clear c76
        by_cases c77 : t356 = t360
        ·rw [if_pos c77] at H
         have c77b0 : (t356 == t360) = true := beq_iff_eq.mpr c77
         have c77b1 : (t356 != t360) = false := bne_eq_false_iff_eq.mpr c77
         clear c77
         replace H := Option.bind_eq_some_iff.mp H
         obtain ⟨t367, A780, H⟩ := H
         replace H : (if t367 = (wrap64 (-x25_15)) then (if ((x25_15 == 0) == (t340 == t342 && (t341 == t343))) = true then (if x25_15 > 0 then (some true) else (some (decide (t362 ≤ t364)))) else (some false)) else (some false)) = some r := H
         have A78 := Aside0.mk A780
         clear A780
         by_cases c79 : t367 = (wrap64 (-x25_15))
         ·rw [if_pos c79] at H
          have c79b0 : (t367 == (wrap64 (-x25_15))) = true := beq_iff_eq.mpr c79
          have c79b1 : (t367 != (wrap64 (-x25_15))) = false := bne_eq_false_iff_eq.mpr c79
          clear c79
          by_cases c80 : ((x25_15 == 0) == (t340 == t342 && (t341 == t343))) = true
          ·rw [if_pos c80] at H
           have c80b0 : ((x25_15 == 0) == (t340 == t342 && (t341 == t343))) = true := c80
           (try (have c80b1 : decide ((x25_15 == 0) = (t340 == t342 && (t341 == t343))) = true := by simpa using c80))
           (try (have c80b2 : ((x25_15 == 0) == (t340 == t342 && (t341 == t343))) = true := by simpa using c80))
           clear c80
           by_cases c81 : x25_15 > 0
           ·rw [if_pos c81] at H
            have c81b0 : decide (0 < x25_15) = true := decide_eq_true c81
            clear c81
            obtain rfl := Option.some.inj H
            have hnb82 := NB353_344.out
            have hnc82 := NB344_353.out
            have hnb83 := NB353_345.out
            have hnc83 := NB345_353.out
            have hnb84 := NB353_349.out
            have hnc84 := NB349_353.out
            have hnb85 := NB353_357.out
            have hnc85 := NB357_353.out
            have hnb86 := NB353_361.out
            have hnc86 := NB361_353.out
            have hcz87_0 : wc.cell? ⟨gb353, 0, none⟩ = some (.int .i64 t350) := (blk_cell BK353.out 0).trans rfl
            have hcz87_1 : wc.cell? ⟨gb353, 1, none⟩ = some (.int .i64 t351) := (blk_cell BK353.out 1).trans rfl
            have hfz87_0 := blk_frozen BK353.out 0
            have hfz87_1 := blk_frozen BK353.out 1
            have hnb88 := NB357_344.out
            have hnc88 := NB344_357.out
            have hnb89 := NB357_345.out
            have hnc89 := NB345_357.out
            have hnb90 := NB357_349.out
            have hnc90 := NB349_357.out
            have hnb91 := NB357_361.out
            have hnc91 := NB361_357.out
            have hcz92_0 : wc.cell? ⟨gb357, 0, none⟩ = some (.int .i64 t354) := (blk_cell BK357.out 0).trans rfl
            have hcz92_1 : wc.cell? ⟨gb357, 1, none⟩ = some (.int .i64 t355) := (blk_cell BK357.out 1).trans rfl
            have hfz92_0 := blk_frozen BK357.out 0
            have hfz92_1 := blk_frozen BK357.out 1
            have hnb93 := NB361_344.out
            have hnc93 := NB344_361.out
            have hnb94 := NB361_345.out
            have hnc94 := NB345_361.out
            have hnb95 := NB361_349.out
            have hnc95 := NB349_361.out
            have hcz96_0 : wc.cell? ⟨gb361, 0, none⟩ = some (.int .i64 t358) := (blk_cell BK361.out 0).trans rfl
            have hcz96_1 : wc.cell? ⟨gb361, 1, none⟩ = some (.int .i64 t359) := (blk_cell BK361.out 1).trans rfl
            have hfz96_0 := blk_frozen BK361.out 0
            have hfz96_1 := blk_frozen BK361.out 1
            have hnb97 := NB345_344.out
            have hnc97 := NB344_345.out
            have hnb98 := NB345_349.out
            have hnc98 := NB349_345.out
            have hcz99_0 : wc.cell? ⟨gb345, 0, none⟩ = some (.int .i64 t342) := (blk_cell BK345.out 0).trans rfl
            have hcz99_1 : wc.cell? ⟨gb345, 1, none⟩ = some (.int .i64 t343) := (blk_cell BK345.out 1).trans rfl
            have hfz99_0 := blk_frozen BK345.out 0
            have hfz99_1 := blk_frozen BK345.out 1
            have hnb100 := NB344_349.out
            have hnc100 := NB349_344.out
            have hcz101_0 : wc.cell? ⟨gb344, 0, none⟩ = some (.int .i64 t340) := (blk_cell BK344.out 0).trans rfl
            have hcz101_1 : wc.cell? ⟨gb344, 1, none⟩ = some (.int .i64 t341) := (blk_cell BK344.out 1).trans rfl
            have hfz101_0 := blk_frozen BK344.out 0
            have hfz101_1 := blk_frozen BK344.out 1
            go_wp2_with (first | (go_at_call 26; (with_reducible refine (ratio_Cmp.calls kj15 t342 t343 t340 t341 t367 _ A78.out).mono ?_); rintro e w102 ⟨rfl, hb⟩; have n0_ := Aside0.mk (blk_below (g := gb344) (o := .cells #[.int .i64 t340, .int .i64 t341] 23 (0, 0)) (by (with_reducible repeat (first | apply blk_drewN | apply blk_drew | apply blk_alloc)); exact BK344.out) hb); have n1_ := Aside0.mk (blk_below (g := gb345) (o := .cells #[.int .i64 t342, .int .i64 t343] 23 (0, 0)) (by (with_reducible repeat (first | apply blk_drewN | apply blk_drew | apply blk_alloc)); exact BK345.out) hb); have n2_ := Aside0.mk (blk_below (g := gb349) (o := .cells #[.int .i64 t346, .int .i64 t347] 23 (0, 0)) (by (with_reducible repeat (first | apply blk_drewN | apply blk_drew | apply blk_alloc)); exact BK349.out) hb); have n3_ := Aside0.mk (blk_below (g := gb353) (o := .cells #[.int .i64 t350, .int .i64 t351] 23 (0, 0)) (by (with_reducible repeat (first | apply blk_drewN | apply blk_drew | apply blk_alloc)); exact BK353.out) hb); have n4_ := Aside0.mk (blk_below (g := gb357) (o := .cells #[.int .i64 t354, .int .i64 t355] 23 (0, 0)) (by (with_reducible repeat (first | apply blk_drewN | apply blk_drew | apply blk_alloc)); exact BK357.out) hb); have n5_ := Aside0.mk (blk_below (g := gb361) (o := .cells #[.int .i64 t358, .int .i64 t359] 23 (0, 0)) (by (with_reducible repeat (first | apply blk_drewN | apply blk_drew | apply blk_alloc)); exact BK361.out) hb); have n6_ := Aside0.mk (below_step (by repeat (first | (with_reducible first | exact HB.out | apply below_alloc | apply pw_below_drewN | apply below_drew1 | refine below_set ?_ GE344.out | refine below_set ?_ GE345.out | refine below_set ?_ GE349.out | refine below_set ?_ GE353.out | refine below_set ?_ GE357.out | refine below_set ?_ GE361.out) | exact HB.out)) hb); clear BK344; clear BK345; clear BK349; clear BK353; clear BK357; clear BK361; clear HB; have BK344 := n0_; have BK345 := n1_; have BK349 := n2_; have BK353 := n3_; have BK357 := n4_; have BK361 := n5_; have HB := n6_; clear n0_ n1_ n2_ n3_ n4_ n5_ n6_; (try clear hb); (try clear hb2); (try clear hk); (try clear hi); have hcz103_0 : w102.cell? ⟨gb344, 0, none⟩ = some (.int .i64 t340) := (blk_cell BK344.out 0).trans rfl; have hcz103_1 : w102.cell? ⟨gb344, 1, none⟩ = some (.int .i64 t341) := (blk_cell BK344.out 1).trans rfl; have hfz103_0 := blk_frozen BK344.out 0; have hfz103_1 := blk_frozen BK344.out 1; have hcz104_0 : w102.cell? ⟨gb345, 0, none⟩ = some (.int .i64 t342) := (blk_cell BK345.out 0).trans rfl; have hcz104_1 : w102.cell? ⟨gb345, 1, none⟩ = some (.int .i64 t343) := (blk_cell BK345.out 1).trans rfl; have hfz104_0 := blk_frozen BK345.out 0; have hfz104_1 := blk_frozen BK345.out 1))
            go_ret
            exact ⟨by first | rfl | (simp [errW_none, errW_some] <;> rfl) | (simp [*, errW_none, errW_some] <;> rfl), by repeat (first | (with_reducible first | exact HB.out | apply below_alloc | apply pw_below_drewN | apply below_drew1 | refine below_set ?_ GE344.out | refine below_set ?_ GE345.out | refine below_set ?_ GE349.out | refine below_set ?_ GE353.out | refine below_set ?_ GE357.out | refine below_set ?_ GE361.out) | exact HB.out)⟩
           ·rw [if_neg c81] at H
            have c81b0 : decide (0 < x25_15) = false := decide_eq_false c81
            clear c81
            obtain rfl := Option.some.inj H
            have hnb105 := NB353_344.out
            have hnc105 := NB344_353.out
            have hnb106 := NB353_345.out
            have hnc106 := NB345_353.out
            have hnb107 := NB353_349.out
            have hnc107 := NB349_353.out
            have hnb108 := NB353_357.out
            have hnc108 := NB357_353.out
            have hnb109 := NB353_361.out
            have hnc109 := NB361_353.out
            have hcz110_0 : wc.cell? ⟨gb353, 0, none⟩ = some (.int .i64 t350) := (blk_cell BK353.out 0).trans rfl
            have hcz110_1 : wc.cell? ⟨gb353, 1, none⟩ = some (.int .i64 t351) := (blk_cell BK353.out 1).trans rfl
            have hfz110_0 := blk_frozen BK353.out 0
            have hfz110_1 := blk_frozen BK353.out 1
            have hnb111 := NB357_344.out
            have hnc111 := NB344_357.out
            have hnb112 := NB357_345.out
            have hnc112 := NB345_357.out
            have hnb113 := NB357_349.out
            have hnc113 := NB349_357.out
            have hnb114 := NB357_361.out
            have hnc114 := NB361_357.out
            have hcz115_0 : wc.cell? ⟨gb357, 0, none⟩ = some (.int .i64 t354) := (blk_cell BK357.out 0).trans rfl
            have hcz115_1 : wc.cell? ⟨gb357, 1, none⟩ = some (.int .i64 t355) := (blk_cell BK357.out 1).trans rfl
            have hfz115_0 := blk_frozen BK357.out 0
            have hfz115_1 := blk_frozen BK357.out 1
            have hnb116 := NB361_344.out
            have hnc116 := NB344_361.out
            have hnb117 := NB361_345.out
            have hnc117 := NB345_361.out
            have hnb118 := NB361_349.out
            have hnc118 := NB349_361.out
            have hcz119_0 : wc.cell? ⟨gb361, 0, none⟩ = some (.int .i64 t358) := (blk_cell BK361.out 0).trans rfl
            have hcz119_1 : wc.cell? ⟨gb361, 1, none⟩ = some (.int .i64 t359) := (blk_cell BK361.out 1).trans rfl
            have hfz119_0 := blk_frozen BK361.out 0
            have hfz119_1 := blk_frozen BK361.out 1
            have hnb120 := NB345_344.out
            have hnc120 := NB344_345.out
            have hnb121 := NB345_349.out
            have hnc121 := NB349_345.out
            have hcz122_0 : wc.cell? ⟨gb345, 0, none⟩ = some (.int .i64 t342) := (blk_cell BK345.out 0).trans rfl
            have hcz122_1 : wc.cell? ⟨gb345, 1, none⟩ = some (.int .i64 t343) := (blk_cell BK345.out 1).trans rfl
            have hfz122_0 := blk_frozen BK345.out 0
            have hfz122_1 := blk_frozen BK345.out 1
            have hnb123 := NB344_349.out
            have hnc123 := NB349_344.out
            have hcz124_0 : wc.cell? ⟨gb344, 0, none⟩ = some (.int .i64 t340) := (blk_cell BK344.out 0).trans rfl
            have hcz124_1 : wc.cell? ⟨gb344, 1, none⟩ = some (.int .i64 t341) := (blk_cell BK344.out 1).trans rfl
            have hfz124_0 := blk_frozen BK344.out 0
            have hfz124_1 := blk_frozen BK344.out 1
            go_wp2_with (first | (go_at_call 26; (with_reducible refine (ratio_Cmp.calls kj15 t342 t343 t340 t341 t367 _ A78.out).mono ?_); rintro e w125 ⟨rfl, hb⟩; have n0_ := Aside0.mk (blk_below (g := gb344) (o := .cells #[.int .i64 t340, .int .i64 t341] 23 (0, 0)) (by (with_reducible repeat (first | apply blk_drewN | apply blk_drew | apply blk_alloc)); exact BK344.out) hb); have n1_ := Aside0.mk (blk_below (g := gb345) (o := .cells #[.int .i64 t342, .int .i64 t343] 23 (0, 0)) (by (with_reducible repeat (first | apply blk_drewN | apply blk_drew | apply blk_alloc)); exact BK345.out) hb); have n2_ := Aside0.mk (blk_below (g := gb349) (o := .cells #[.int .i64 t346, .int .i64 t347] 23 (0, 0)) (by (with_reducible repeat (first | apply blk_drewN | apply blk_drew | apply blk_alloc)); exact BK349.out) hb); have n3_ := Aside0.mk (blk_below (g := gb353) (o := .cells #[.int .i64 t350, .int .i64 t351] 23 (0, 0)) (by (with_reducible repeat (first | apply blk_drewN | apply blk_drew | apply blk_alloc)); exact BK353.out) hb); have n4_ := Aside0.mk (blk_below (g := gb357) (o := .cells #[.int .i64 t354, .int .i64 t355] 23 (0, 0)) (by (with_reducible repeat (first | apply blk_drewN | apply blk_drew | apply blk_alloc)); exact BK357.out) hb); have n5_ := Aside0.mk (blk_below (g := gb361) (o := .cells #[.int .i64 t358, .int .i64 t359] 23 (0, 0)) (by (with_reducible repeat (first | apply blk_drewN | apply blk_drew | apply blk_alloc)); exact BK361.out) hb); have n6_ := Aside0.mk (below_step (by repeat (first | (with_reducible first | exact HB.out | apply below_alloc | apply pw_below_drewN | apply below_drew1 | refine below_set ?_ GE344.out | refine below_set ?_ GE345.out | refine below_set ?_ GE349.out | refine below_set ?_ GE353.out | refine below_set ?_ GE357.out | refine below_set ?_ GE361.out) | exact HB.out)) hb); clear BK344; clear BK345; clear BK349; clear BK353; clear BK357; clear BK361; clear HB; have BK344 := n0_; have BK345 := n1_; have BK349 := n2_; have BK353 := n3_; have BK357 := n4_; have BK361 := n5_; have HB := n6_; clear n0_ n1_ n2_ n3_ n4_ n5_ n6_; (try clear hb); (try clear hb2); (try clear hk); (try clear hi); have hcz126_0 : w125.cell? ⟨gb344, 0, none⟩ = some (.int .i64 t340) := (blk_cell BK344.out 0).trans rfl; have hcz126_1 : w125.cell? ⟨gb344, 1, none⟩ = some (.int .i64 t341) := (blk_cell BK344.out 1).trans rfl; have hfz126_0 := blk_frozen BK344.out 0; have hfz126_1 := blk_frozen BK344.out 1; have hcz127_0 : w125.cell? ⟨gb345, 0, none⟩ = some (.int .i64 t342) := (blk_cell BK345.out 0).trans rfl; have hcz127_1 : w125.cell? ⟨gb345, 1, none⟩ = some (.int .i64 t343) := (blk_cell BK345.out 1).trans rfl; have hfz127_0 := blk_frozen BK345.out 0; have hfz127_1 := blk_frozen BK345.out 1))
            go_ret
            exact ⟨by first | rfl | (simp [errW_none, errW_some] <;> rfl) | (simp [*, errW_none, errW_some] <;> rfl), by repeat (first | (with_reducible first | exact HB.out | apply below_alloc | apply pw_below_drewN | apply below_drew1 | refine below_set ?_ GE344.out | refine below_set ?_ GE345.out | refine below_set ?_ GE349.out | refine below_set ?_ GE353.out | refine below_set ?_ GE357.out | refine below_set ?_ GE361.out) | exact HB.out)⟩
          ·rw [if_neg c80] at H
           have c80b0 : ((x25_15 == 0) == (t340 == t342 && (t341 == t343))) = false := by simpa using c80
           (try (have c80b1 : decide ((x25_15 == 0) = (t340 == t342 && (t341 == t343))) = false := by simpa using c80))
           (try (have c80b2 : ((x25_15 == 0) == (t340 == t342 && (t341 == t343))) = false := by simpa using c80))
           (try (have c80b3 : ¬ ((x25_15 == 0) = (t340 == t342 && (t341 == t343))) := by simpa using c80))
           clear c80
           obtain rfl := Option.some.inj H
           have hnb128 := NB353_344.out
           have hnc128 := NB344_353.out
           have hnb129 := NB353_345.out
           have hnc129 := NB345_353.out
           have hnb130 := NB353_349.out
           have hnc130 := NB349_353.out
           have hnb131 := NB353_357.out
           have hnc131 := NB357_353.out
           have hnb132 := NB353_361.out
           have hnc132 := NB361_353.out
           have hcz133_0 : wc.cell? ⟨gb353, 0, none⟩ = some (.int .i64 t350) := (blk_cell BK353.out 0).trans rfl
           have hcz133_1 : wc.cell? ⟨gb353, 1, none⟩ = some (.int .i64 t351) := (blk_cell BK353.out 1).trans rfl
           have hfz133_0 := blk_frozen BK353.out 0
           have hfz133_1 := blk_frozen BK353.out 1
           have hnb134 := NB357_344.out
           have hnc134 := NB344_357.out
           have hnb135 := NB357_345.out
           have hnc135 := NB345_357.out
           have hnb136 := NB357_349.out
           have hnc136 := NB349_357.out
           have hnb137 := NB357_361.out
           have hnc137 := NB361_357.out
           have hcz138_0 : wc.cell? ⟨gb357, 0, none⟩ = some (.int .i64 t354) := (blk_cell BK357.out 0).trans rfl
           have hcz138_1 : wc.cell? ⟨gb357, 1, none⟩ = some (.int .i64 t355) := (blk_cell BK357.out 1).trans rfl
           have hfz138_0 := blk_frozen BK357.out 0
           have hfz138_1 := blk_frozen BK357.out 1
           have hnb139 := NB361_344.out
           have hnc139 := NB344_361.out
           have hnb140 := NB361_345.out
           have hnc140 := NB345_361.out
           have hnb141 := NB361_349.out
           have hnc141 := NB349_361.out
           have hcz142_0 : wc.cell? ⟨gb361, 0, none⟩ = some (.int .i64 t358) := (blk_cell BK361.out 0).trans rfl
           have hcz142_1 : wc.cell? ⟨gb361, 1, none⟩ = some (.int .i64 t359) := (blk_cell BK361.out 1).trans rfl
           have hfz142_0 := blk_frozen BK361.out 0
           have hfz142_1 := blk_frozen BK361.out 1
           have hnb143 := NB345_344.out
           have hnc143 := NB344_345.out
           have hnb144 := NB345_349.out
           have hnc144 := NB349_345.out
           have hcz145_0 : wc.cell? ⟨gb345, 0, none⟩ = some (.int .i64 t342) := (blk_cell BK345.out 0).trans rfl
           have hcz145_1 : wc.cell? ⟨gb345, 1, none⟩ = some (.int .i64 t343) := (blk_cell BK345.out 1).trans rfl
           have hfz145_0 := blk_frozen BK345.out 0
           have hfz145_1 := blk_frozen BK345.out 1
           have hnb146 := NB344_349.out
           have hnc146 := NB349_344.out
           have hcz147_0 : wc.cell? ⟨gb344, 0, none⟩ = some (.int .i64 t340) := (blk_cell BK344.out 0).trans rfl
           have hcz147_1 : wc.cell? ⟨gb344, 1, none⟩ = some (.int .i64 t341) := (blk_cell BK344.out 1).trans rfl
           have hfz147_0 := blk_frozen BK344.out 0
           have hfz147_1 := blk_frozen BK344.out 1
           go_wp2_with (first | (go_at_call 26; (with_reducible refine (ratio_Cmp.calls kj15 t342 t343 t340 t341 t367 _ A78.out).mono ?_); rintro e w148 ⟨rfl, hb⟩; have n0_ := Aside0.mk (blk_below (g := gb344) (o := .cells #[.int .i64 t340, .int .i64 t341] 23 (0, 0)) (by (with_reducible repeat (first | apply blk_drewN | apply blk_drew | apply blk_alloc)); exact BK344.out) hb); have n1_ := Aside0.mk (blk_below (g := gb345) (o := .cells #[.int .i64 t342, .int .i64 t343] 23 (0, 0)) (by (with_reducible repeat (first | apply blk_drewN | apply blk_drew | apply blk_alloc)); exact BK345.out) hb); have n2_ := Aside0.mk (blk_below (g := gb349) (o := .cells #[.int .i64 t346, .int .i64 t347] 23 (0, 0)) (by (with_reducible repeat (first | apply blk_drewN | apply blk_drew | apply blk_alloc)); exact BK349.out) hb); have n3_ := Aside0.mk (blk_below (g := gb353) (o := .cells #[.int .i64 t350, .int .i64 t351] 23 (0, 0)) (by (with_reducible repeat (first | apply blk_drewN | apply blk_drew | apply blk_alloc)); exact BK353.out) hb); have n4_ := Aside0.mk (blk_below (g := gb357) (o := .cells #[.int .i64 t354, .int .i64 t355] 23 (0, 0)) (by (with_reducible repeat (first | apply blk_drewN | apply blk_drew | apply blk_alloc)); exact BK357.out) hb); have n5_ := Aside0.mk (blk_below (g := gb361) (o := .cells #[.int .i64 t358, .int .i64 t359] 23 (0, 0)) (by (with_reducible repeat (first | apply blk_drewN | apply blk_drew | apply blk_alloc)); exact BK361.out) hb); have n6_ := Aside0.mk (below_step (by repeat (first | (with_reducible first | exact HB.out | apply below_alloc | apply pw_below_drewN | apply below_drew1 | refine below_set ?_ GE344.out | refine below_set ?_ GE345.out | refine below_set ?_ GE349.out | refine below_set ?_ GE353.out | refine below_set ?_ GE357.out | refine below_set ?_ GE361.out) | exact HB.out)) hb); clear BK344; clear BK345; clear BK349; clear BK353; clear BK357; clear BK361; clear HB; have BK344 := n0_; have BK345 := n1_; have BK349 := n2_; have BK353 := n3_; have BK357 := n4_; have BK361 := n5_; have HB := n6_; clear n0_ n1_ n2_ n3_ n4_ n5_ n6_; (try clear hb); (try clear hb2); (try clear hk); (try clear hi); have hcz149_0 : w148.cell? ⟨gb344, 0, none⟩ = some (.int .i64 t340) := (blk_cell BK344.out 0).trans rfl; have hcz149_1 : w148.cell? ⟨gb344, 1, none⟩ = some (.int .i64 t341) := (blk_cell BK344.out 1).trans rfl; have hfz149_0 := blk_frozen BK344.out 0; have hfz149_1 := blk_frozen BK344.out 1; have hcz150_0 : w148.cell? ⟨gb345, 0, none⟩ = some (.int .i64 t342) := (blk_cell BK345.out 0).trans rfl; have hcz150_1 : w148.cell? ⟨gb345, 1, none⟩ = some (.int .i64 t343) := (blk_cell BK345.out 1).trans rfl; have hfz150_0 := blk_frozen BK345.out 0; have hfz150_1 := blk_frozen BK345.out 1))
           go_ret
           exact ⟨by first | rfl | (simp [errW_none, errW_some] <;> rfl) | (simp [*, errW_none, errW_some] <;> rfl), by repeat (first | (with_reducible first | exact HB.out | apply below_alloc | apply pw_below_drewN | apply below_drew1 | refine below_set ?_ GE344.out | refine below_set ?_ GE345.out | refine below_set ?_ GE349.out | refine below_set ?_ GE353.out | refine below_set ?_ GE357.out | refine below_set ?_ GE361.out) | exact HB.out)⟩
         ·rw [if_neg c79] at H
          have c79b0 : (t367 == (wrap64 (-x25_15))) = false := beq_eq_false_iff_ne.mpr c79
          have c79b1 : (t367 != (wrap64 (-x25_15))) = true := bne_iff_ne.mpr c79
          obtain rfl := Option.some.inj H
          have hnb151 := NB353_344.out
          have hnc151 := NB344_353.out
          have hnb152 := NB353_345.out
          have hnc152 := NB345_353.out
          have hnb153 := NB353_349.out
          have hnc153 := NB349_353.out
          have hnb154 := NB353_357.out
          have hnc154 := NB357_353.out
          have hnb155 := NB353_361.out
          have hnc155 := NB361_353.out
          have hcz156_0 : wc.cell? ⟨gb353, 0, none⟩ = some (.int .i64 t350) := (blk_cell BK353.out 0).trans rfl
          have hcz156_1 : wc.cell? ⟨gb353, 1, none⟩ = some (.int .i64 t351) := (blk_cell BK353.out 1).trans rfl
          have hfz156_0 := blk_frozen BK353.out 0
          have hfz156_1 := blk_frozen BK353.out 1
          have hnb157 := NB357_344.out
          have hnc157 := NB344_357.out
          have hnb158 := NB357_345.out
          have hnc158 := NB345_357.out
          have hnb159 := NB357_349.out
          have hnc159 := NB349_357.out
          have hnb160 := NB357_361.out
          have hnc160 := NB361_357.out
          have hcz161_0 : wc.cell? ⟨gb357, 0, none⟩ = some (.int .i64 t354) := (blk_cell BK357.out 0).trans rfl
          have hcz161_1 : wc.cell? ⟨gb357, 1, none⟩ = some (.int .i64 t355) := (blk_cell BK357.out 1).trans rfl
          have hfz161_0 := blk_frozen BK357.out 0
          have hfz161_1 := blk_frozen BK357.out 1
          have hnb162 := NB361_344.out
          have hnc162 := NB344_361.out
          have hnb163 := NB361_345.out
          have hnc163 := NB345_361.out
          have hnb164 := NB361_349.out
          have hnc164 := NB349_361.out
          have hcz165_0 : wc.cell? ⟨gb361, 0, none⟩ = some (.int .i64 t358) := (blk_cell BK361.out 0).trans rfl
          have hcz165_1 : wc.cell? ⟨gb361, 1, none⟩ = some (.int .i64 t359) := (blk_cell BK361.out 1).trans rfl
          have hfz165_0 := blk_frozen BK361.out 0
          have hfz165_1 := blk_frozen BK361.out 1
          have hnb166 := NB345_344.out
          have hnc166 := NB344_345.out
          have hnb167 := NB345_349.out
          have hnc167 := NB349_345.out
          have hcz168_0 : wc.cell? ⟨gb345, 0, none⟩ = some (.int .i64 t342) := (blk_cell BK345.out 0).trans rfl
          have hcz168_1 : wc.cell? ⟨gb345, 1, none⟩ = some (.int .i64 t343) := (blk_cell BK345.out 1).trans rfl
          have hfz168_0 := blk_frozen BK345.out 0
          have hfz168_1 := blk_frozen BK345.out 1
          have hnb169 := NB344_349.out
          have hnc169 := NB349_344.out
          have hcz170_0 : wc.cell? ⟨gb344, 0, none⟩ = some (.int .i64 t340) := (blk_cell BK344.out 0).trans rfl
          have hcz170_1 : wc.cell? ⟨gb344, 1, none⟩ = some (.int .i64 t341) := (blk_cell BK344.out 1).trans rfl
          have hfz170_0 := blk_frozen BK344.out 0
          have hfz170_1 := blk_frozen BK344.out 1
          go_wp2_with (first | (go_at_call 26; (with_reducible refine (ratio_Cmp.calls kj15 t342 t343 t340 t341 t367 _ A78.out).mono ?_); rintro e w171 ⟨rfl, hb⟩; have n0_ := Aside0.mk (blk_below (g := gb344) (o := .cells #[.int .i64 t340, .int .i64 t341] 23 (0, 0)) (by (with_reducible repeat (first | apply blk_drewN | apply blk_drew | apply blk_alloc)); exact BK344.out) hb); have n1_ := Aside0.mk (blk_below (g := gb345) (o := .cells #[.int .i64 t342, .int .i64 t343] 23 (0, 0)) (by (with_reducible repeat (first | apply blk_drewN | apply blk_drew | apply blk_alloc)); exact BK345.out) hb); have n2_ := Aside0.mk (blk_below (g := gb349) (o := .cells #[.int .i64 t346, .int .i64 t347] 23 (0, 0)) (by (with_reducible repeat (first | apply blk_drewN | apply blk_drew | apply blk_alloc)); exact BK349.out) hb); have n3_ := Aside0.mk (blk_below (g := gb353) (o := .cells #[.int .i64 t350, .int .i64 t351] 23 (0, 0)) (by (with_reducible repeat (first | apply blk_drewN | apply blk_drew | apply blk_alloc)); exact BK353.out) hb); have n4_ := Aside0.mk (blk_below (g := gb357) (o := .cells #[.int .i64 t354, .int .i64 t355] 23 (0, 0)) (by (with_reducible repeat (first | apply blk_drewN | apply blk_drew | apply blk_alloc)); exact BK357.out) hb); have n5_ := Aside0.mk (blk_below (g := gb361) (o := .cells #[.int .i64 t358, .int .i64 t359] 23 (0, 0)) (by (with_reducible repeat (first | apply blk_drewN | apply blk_drew | apply blk_alloc)); exact BK361.out) hb); have n6_ := Aside0.mk (below_step (by repeat (first | (with_reducible first | exact HB.out | apply below_alloc | apply pw_below_drewN | apply below_drew1 | refine below_set ?_ GE344.out | refine below_set ?_ GE345.out | refine below_set ?_ GE349.out | refine below_set ?_ GE353.out | refine below_set ?_ GE357.out | refine below_set ?_ GE361.out) | exact HB.out)) hb); clear BK344; clear BK345; clear BK349; clear BK353; clear BK357; clear BK361; clear HB; have BK344 := n0_; have BK345 := n1_; have BK349 := n2_; have BK353 := n3_; have BK357 := n4_; have BK361 := n5_; have HB := n6_; clear n0_ n1_ n2_ n3_ n4_ n5_ n6_; (try clear hb); (try clear hb2); (try clear hk); (try clear hi)))
          go_ret
          exact ⟨by first | rfl | (simp [errW_none, errW_some] <;> rfl) | (simp [*, errW_none, errW_some] <;> rfl), by repeat (first | (with_reducible first | exact HB.out | apply below_alloc | apply pw_below_drewN | apply below_drew1 | refine below_set ?_ GE344.out | refine below_set ?_ GE345.out | refine below_set ?_ GE349.out | refine below_set ?_ GE353.out | refine below_set ?_ GE357.out | refine below_set ?_ GE361.out) | exact HB.out)⟩
        ·rw [if_neg c77] at H
         have c77b0 : (t356 == t360) = false := beq_eq_false_iff_ne.mpr c77
         have c77b1 : (t356 != t360) = true := bne_iff_ne.mpr c77
         obtain rfl := Option.some.inj H
         have hnb172 := NB353_344.out
         have hnc172 := NB344_353.out
         have hnb173 := NB353_345.out
         have hnc173 := NB345_353.out
         have hnb174 := NB353_349.out
         have hnc174 := NB349_353.out
         have hnb175 := NB353_357.out
         have hnc175 := NB357_353.out
         have hnb176 := NB353_361.out
         have hnc176 := NB361_353.out
         have hcz177_0 : wc.cell? ⟨gb353, 0, none⟩ = some (.int .i64 t350) := (blk_cell BK353.out 0).trans rfl
         have hcz177_1 : wc.cell? ⟨gb353, 1, none⟩ = some (.int .i64 t351) := (blk_cell BK353.out 1).trans rfl
         have hfz177_0 := blk_frozen BK353.out 0
         have hfz177_1 := blk_frozen BK353.out 1
         have hnb178 := NB357_344.out
         have hnc178 := NB344_357.out
         have hnb179 := NB357_345.out
         have hnc179 := NB345_357.out
         have hnb180 := NB357_349.out
         have hnc180 := NB349_357.out
         have hnb181 := NB357_361.out
         have hnc181 := NB361_357.out
         have hcz182_0 : wc.cell? ⟨gb357, 0, none⟩ = some (.int .i64 t354) := (blk_cell BK357.out 0).trans rfl
         have hcz182_1 : wc.cell? ⟨gb357, 1, none⟩ = some (.int .i64 t355) := (blk_cell BK357.out 1).trans rfl
         have hfz182_0 := blk_frozen BK357.out 0
         have hfz182_1 := blk_frozen BK357.out 1
         have hnb183 := NB361_344.out
         have hnc183 := NB344_361.out
         have hnb184 := NB361_345.out
         have hnc184 := NB345_361.out
         have hnb185 := NB361_349.out
         have hnc185 := NB349_361.out
         have hcz186_0 : wc.cell? ⟨gb361, 0, none⟩ = some (.int .i64 t358) := (blk_cell BK361.out 0).trans rfl
         have hcz186_1 : wc.cell? ⟨gb361, 1, none⟩ = some (.int .i64 t359) := (blk_cell BK361.out 1).trans rfl
         have hfz186_0 := blk_frozen BK361.out 0
         have hfz186_1 := blk_frozen BK361.out 1
         go_wp2
         go_ret
         exact ⟨by first | rfl | (simp [errW_none, errW_some] <;> rfl) | (simp [*, errW_none, errW_some] <;> rfl), by repeat (first | (with_reducible first | exact HB.out | apply below_alloc | apply pw_below_drewN | apply below_drew1 | refine below_set ?_ GE344.out | refine below_set ?_ GE345.out | refine below_set ?_ GE349.out | refine below_set ?_ GE353.out | refine below_set ?_ GE357.out | refine below_set ?_ GE361.out) | exact HB.out)⟩
       ·rw [if_neg c76] at H
        have c76b0 : (t354 == t358 && (t355 == t359)) = false := by simpa using c76
        (try (have c76b1 : decide (t354 = t358 && (t355 == t359)) = false := by simpa using c76))
        (try (have c76b2 : (t354 == t358 && (t355 == t359)) = false := by simpa using c76))
        (try (have c76b3 : ¬ (t354 = t358 && (t355 == t359)) := by simpa using c76))
        clear c76
        obtain rfl := Option.some.inj H
        have hnb187 := NB353_344.out
        have hnc187 := NB344_353.out
        have hnb188 := NB353_345.out
        have hnc188 := NB345_353.out
        have hnb189 := NB353_349.out
        have hnc189 := NB349_353.out
        have hnb190 := NB353_357.out
        have hnc190 := NB357_353.out
        have hnb191 := NB353_361.out
        have hnc191 := NB361_353.out
        have hcz192_0 : wc.cell? ⟨gb353, 0, none⟩ = some (.int .i64 t350) := (blk_cell BK353.out 0).trans rfl
        have hcz192_1 : wc.cell? ⟨gb353, 1, none⟩ = some (.int .i64 t351) := (blk_cell BK353.out 1).trans rfl
        have hfz192_0 := blk_frozen BK353.out 0
        have hfz192_1 := blk_frozen BK353.out 1
        have hnb193 := NB357_344.out
        have hnc193 := NB344_357.out
        have hnb194 := NB357_345.out
        have hnc194 := NB345_357.out
        have hnb195 := NB357_349.out
        have hnc195 := NB349_357.out
        have hnb196 := NB357_361.out
        have hnc196 := NB361_357.out
        have hcz197_0 : wc.cell? ⟨gb357, 0, none⟩ = some (.int .i64 t354) := (blk_cell BK357.out 0).trans rfl
        have hcz197_1 : wc.cell? ⟨gb357, 1, none⟩ = some (.int .i64 t355) := (blk_cell BK357.out 1).trans rfl
        have hfz197_0 := blk_frozen BK357.out 0
        have hfz197_1 := blk_frozen BK357.out 1
        have hnb198 := NB361_344.out
        have hnc198 := NB344_361.out
        have hnb199 := NB361_345.out
        have hnc199 := NB345_361.out
        have hnb200 := NB361_349.out
        have hnc200 := NB349_361.out
        have hcz201_0 : wc.cell? ⟨gb361, 0, none⟩ = some (.int .i64 t358) := (blk_cell BK361.out 0).trans rfl
        have hcz201_1 : wc.cell? ⟨gb361, 1, none⟩ = some (.int .i64 t359) := (blk_cell BK361.out 1).trans rfl
        have hfz201_0 := blk_frozen BK361.out 0
        have hfz201_1 := blk_frozen BK361.out 1
        go_wp2
        go_ret
        exact ⟨by first | rfl | (simp [errW_none, errW_some] <;> rfl) | (simp [*, errW_none, errW_some] <;> rfl), by repeat (first | (with_reducible first | exact HB.out | apply below_alloc | apply pw_below_drewN | apply below_drew1 | refine below_set ?_ GE344.out | refine below_set ?_ GE345.out | refine below_set ?_ GE349.out | refine below_set ?_ GE353.out | refine below_set ?_ GE357.out | refine below_set ?_ GE361.out) | exact HB.out)⟩
      ·rw [if_neg c75] at H
       have c75b0 : (t350 == 1 && (t351 == 1)) = false := by simpa using c75
       (try (have c75b1 : decide (t350 = 1 && (t351 == 1)) = false := by simpa using c75))
       (try (have c75b2 : (t350 == 1 && (t351 == 1)) = false := by simpa using c75))
       (try (have c75b3 : ¬ (t350 = 1 && (t351 == 1)) := by simpa using c75))
       clear c75
       obtain rfl := Option.some.inj H
       have hnb202 := NB353_344.out
       have hnc202 := NB344_353.out
       have hnb203 := NB353_345.out
       have hnc203 := NB345_353.out
       have hnb204 := NB353_349.out
       have hnc204 := NB349_353.out
       have hnb205 := NB353_357.out
       have hnc205 := NB357_353.out
       have hnb206 := NB353_361.out
       have hnc206 := NB361_353.out
       have hcz207_0 : wc.cell? ⟨gb353, 0, none⟩ = some (.int .i64 t350) := (blk_cell BK353.out 0).trans rfl
       have hcz207_1 : wc.cell? ⟨gb353, 1, none⟩ = some (.int .i64 t351) := (blk_cell BK353.out 1).trans rfl
       have hfz207_0 := blk_frozen BK353.out 0
       have hfz207_1 := blk_frozen BK353.out 1
       go_wp2
       go_ret
       exact ⟨by first | rfl | (simp [errW_none, errW_some] <;> rfl) | (simp [*, errW_none, errW_some] <;> rfl), by repeat (first | (with_reducible first | exact HB.out | apply below_alloc | apply pw_below_drewN | apply below_drew1 | refine below_set ?_ GE344.out | refine below_set ?_ GE345.out | refine below_set ?_ GE349.out | refine below_set ?_ GE353.out | refine below_set ?_ GE357.out | refine below_set ?_ GE361.out) | exact HB.out)⟩
     ·rw [if_neg c74] at H
      have c74b0 : (t352 == 0) = false := beq_eq_false_iff_ne.mpr c74
      have c74b1 : (t352 != 0) = true := bne_iff_ne.mpr c74
      obtain rfl := Option.some.inj H
      go_wp2
      go_ret
      exact ⟨by first | rfl | (simp [errW_none, errW_some] <;> rfl) | (simp [*, errW_none, errW_some] <;> rfl), by repeat (first | (with_reducible first | exact HB.out | apply below_alloc | apply pw_below_drewN | apply below_drew1 | refine below_set ?_ GE344.out | refine below_set ?_ GE345.out | refine below_set ?_ GE349.out | refine below_set ?_ GE353.out | refine below_set ?_ GE357.out | refine below_set ?_ GE361.out) | exact HB.out)⟩
    ·rw [if_neg c73] at H
     have c73b0 : (t348 == 0) = false := beq_eq_false_iff_ne.mpr c73
     have c73b1 : (t348 != 0) = true := bne_iff_ne.mpr c73
     obtain rfl := Option.some.inj H
     go_wp2
     go_ret
     exact ⟨by first | rfl | (simp [errW_none, errW_some] <;> rfl) | (simp [*, errW_none, errW_some] <;> rfl), by repeat (first | (with_reducible first | exact HB.out | apply below_alloc | apply pw_below_drewN | apply below_drew1 | refine below_set ?_ GE344.out | refine below_set ?_ GE345.out | refine below_set ?_ GE349.out | refine below_set ?_ GE353.out | refine below_set ?_ GE357.out | refine below_set ?_ GE361.out) | exact HB.out)⟩
 ·replace c7 := Bool.eq_false_iff.mpr c7
  subst c7
  have H1 : (some false) = some r := by rw [if_neg (show ¬ (false = true) by decide)] at H; exact H
  clear H
  have H := H1
  clear H1
  obtain rfl := Option.some.inj H
  go_enter Try.func9, Try.ntmps9
  go_wp2_with (first | ((with_reducible refine gate_callee (f := 10) rfl ?_); refine goesL_ (some 26) rfl rfl Try.func10 (by kernel_rfl) rfl #[] rfl (by (try simp only [List.map_toArray, List.map_cons, List.map_nil]); first | done | rfl | (simp only [List.length_drop, List.length_take]; rfl)) ?_; (with_reducible refine (soundservicelaw03_sane.calls k  false _ A6.out).mono ?_); rintro e w208 ⟨rfl, hb⟩; refine ⟨_, rfl, ?_⟩; have n0_ := Aside0.mk (below_step (by repeat (first | (with_reducible first | exact HB.out | apply below_alloc | apply pw_below_drewN | apply below_drew1) | exact HB.out)) hb); clear HB; have HB := n0_; clear n0_; (try clear hb); (try clear hb2); (try clear hk); (try clear hi)))
  go_ret
  exact ⟨by first | rfl | (simp [errW_none, errW_some] <;> rfl) | (simp [*, errW_none, errW_some] <;> rfl), by repeat (first | (with_reducible first | exact HB.out | apply below_alloc | apply pw_below_drewN | apply below_drew1) | exact HB.out)⟩

/-- THE ONE PURE STATEMENT of soundservicelaw03_RatioOrder: yours. -/
def soundservicelaw03_RatioOrder.Pure : Prop := ∀ (a0 : Int) (a1 : Int) (a2 : Int) (a3 : Int) (a4 : Int), (Lit.int .i64 a0).wf = true → (Lit.int .i64 a1).wf = true → (Lit.int .i64 a2).wf = true → (Lit.int .i64 a3).wf = true → (Lit.int .u16 a4).wf = true → ∃ k, soundservicelaw03_RatioOrder.f k a0 a1 a2 a3 a4 = some true
theorem soundservicelaw03_RatioOrder.walk (P : soundservicelaw03_RatioOrder.Pure) (a0 : Int) (a1 : Int) (a2 : Int) (a3 : Int) (a4 : Int) (w : World) (w0 : (Lit.int .i64 a0).wf = true) (w1 : (Lit.int .i64 a1).wf = true) (w2 : (Lit.int .i64 a2).wf = true) (w3 : (Lit.int .i64 a3).wf = true) (w4 : (Lit.int .u16 a4).wf = true) :
  Calls Try.prog 9 #[.int .i64 a0, .int .i64 a1, .int .i64 a2, .int .i64 a3, .int .u16 a4] w fun e w' => e = .returned (.bool true) ∧ Below w.heap.size w w' := by
 obtain ⟨k, h⟩ := P a0 a1 a2 a3 a4 w0 w1 w2 w3 w4
 refine (soundservicelaw03_RatioOrder.calls k a0 a1 a2 a3 a4 true w h).mono ?_
 rintro e w' ⟨rfl, hd⟩
 exact ⟨rfl, hd⟩

end Go.Proofs.Ytoolpnpmfagngaa.PA
