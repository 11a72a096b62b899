/- Walks of functions of the program: each does what its Lean function says. Written by a program of this session (wip/xprint), which runs the printer of the kit with changes. -/
import Derived.Test.YtoolpnpmfagngaaPAx0
import Derived.Test.YtoolpnpmfagngaaPAx5
import Derived.Test.YtoolpnpmfagngaaPAx6
import Derived.Test.YtoolpnpmfagngaaPAx8
import Derived.Test.YtoolpnpmfagngaaPAx16
namespace Go.Proofs.Ytoolpnpmfagngaa.PA
open Go.RowKit Go.Proofs.YtoolpnpmfagngaaW.PrintWords Go.Proofs.YtoolpnpmfagngaaW.PrintLast Go.Proofs.YtoolpnpmfagngaaW.PrintMore
attribute [local go_sem] max2_int min2_int max_two min_two max_three min_three max_four min_four   -- for this text's walks alone
set_option linter.unusedVariables false
set_option linter.unusedSimpArgs false

/-! ### soundservicelaw03_RatioChains: function 7 -/
def soundservicelaw03_RatioChains.j0 : Nat → Int → Int → Bool → Int → Int → Int → Int → Option (Bool)
 | 0, _, _, _, _, _, _, _ => none
 | k + 1, x0, x17, x98, x264000, x264001, x268000, x268001 => if x98 = true then (some false) else ((ratio_Floor.f k x17 x264000 x264001).bind fun bt274 => ((ratio_Floor.f k (wrap64 (x0)) x268000 x268001).bind fun bt276 => (if bt274.2 = 0 then (if bt276.2 = 0 then (some (decide (bt274.1 ≤ bt276.1))) else (some true)) else (some true))))
def soundservicelaw03_RatioChains.f (k : Nat) (a0 : Int) (a1 : Int) (a2 : Int) (a3 : Int) (a4 : Int) (a5 : Int) : Option (Bool) := (soundservicelaw03_sane.f k).bind fun t257 => (if t257 = true then ((soundservicelaw03_made.f k (Int.tmod a2 65536) (Int.tmod a3 65536)).bind fun bt258 => ((soundservicelaw03_made.f k (Int.tmod a4 65536) (Int.tmod a5 65536)).bind fun bt260 => ((ratio_Mul.f k bt258.1 bt258.2 bt260.1 bt260.2).bind fun bt264 => ((ratio_Floor.f k (wrap64 (a0)) bt258.1 bt258.2).bind fun bt268 => ((ratio_Floor.f k (wrap64 (a1)) bt258.1 bt258.2).bind fun bt270 => ((ratio_Floor.f k (wrap64 ((wrap64 (a0)) + (wrap64 (a1)))) bt258.1 bt258.2).bind fun bt272 => (if bt264.2.2 = 0 then (if bt268.2 = 0 then (if bt270.2 = 0 then (if bt272.2 = 0 then (if (wrap64 ((wrap64 (bt272.1 - bt268.1)) - bt270.1)) = 0 then (soundservicelaw03_RatioChains.j0 k a0 bt268.1 false bt260.1 bt260.2 bt264.1 bt264.2.1) else (soundservicelaw03_RatioChains.j0 k a0 bt268.1 ((wrap64 ((wrap64 (bt272.1 - bt268.1)) - bt270.1)) != 1) bt260.1 bt260.2 bt264.1 bt264.2.1)) else (soundservicelaw03_RatioChains.j0 k a0 bt268.1 true bt260.1 bt260.2 bt264.1 bt264.2.1)) else (soundservicelaw03_RatioChains.j0 k a0 bt268.1 true bt260.1 bt260.2 bt264.1 bt264.2.1)) else (soundservicelaw03_RatioChains.j0 k a0 bt268.1 true bt260.1 bt260.2 bt264.1 bt264.2.1)) else (soundservicelaw03_RatioChains.j0 k a0 bt268.1 true bt260.1 bt260.2 bt264.1 bt264.2.1)))))))) else (some false))
theorem soundservicelaw03_RatioChains.mono_l : ∀ k, (∀ y0 y1 y2 y3 y4 y5 y6, LeO (soundservicelaw03_RatioChains.j0 k y0 y1 y2 y3 y4 y5 y6) (soundservicelaw03_RatioChains.j0 (k + 1) y0 y1 y2 y3 y4 y5 y6))
 | 0 => fun _ _ _ _ _ _ _ r h => by simp [soundservicelaw03_RatioChains.j0] at h
 | k + 1 => by
  have ih0 := soundservicelaw03_RatioChains.mono_l k
  ·intro y0 y1 y2 y3 y4 y5 y6
   unfold soundservicelaw03_RatioChains.j0
   repeat' first
   | (with_reducible exact ih0 _ _ _ _ _ _ _)
   | (with_reducible exact ratio_Floor.mono _ _ _ _)
   | (with_reducible exact ratio_Mul.mono _ _ _ _ _)
   | (with_reducible exact soundservicelaw03_made.mono _ _ _)
   | (with_reducible exact soundservicelaw03_sane.mono _)
   | (with_reducible exact LeO.refl _)
   | (with_reducible exact LeO.none _)
   | (with_reducible refine LeO.ite ?_ ?_)
   | (with_reducible refine LeO.bind ?_ (fun _ => ?_))
   | exact ih0 _ _ _ _ _ _ _
   | exact ratio_Floor.mono _ _ _ _
   | exact ratio_Mul.mono _ _ _ _ _
   | exact soundservicelaw03_made.mono _ _ _
   | exact soundservicelaw03_sane.mono _
   | exact LeO.none _
   | refine LeO.ite ?_ ?_
   | refine LeO.bind ?_ (fun _ => ?_)
theorem soundservicelaw03_RatioChains.mono : ∀ a0 a1 a2 a3 a4 a5 k, LeO (soundservicelaw03_RatioChains.f k a0 a1 a2 a3 a4 a5) (soundservicelaw03_RatioChains.f (k + 1) a0 a1 a2 a3 a4 a5) := by
 intro a0 a1 a2 a3 a4 a5 k
 have ih0 := soundservicelaw03_RatioChains.mono_l k
 unfold soundservicelaw03_RatioChains.f
 repeat' first
   | (with_reducible exact ih0 _ _ _ _ _ _ _)
   | (with_reducible exact ratio_Floor.mono _ _ _ _)
   | (with_reducible exact ratio_Mul.mono _ _ _ _ _)
   | (with_reducible exact soundservicelaw03_made.mono _ _ _)
   | (with_reducible exact soundservicelaw03_sane.mono _)
   | (with_reducible exact LeO.refl _)
   | (with_reducible exact LeO.none _)
   | (with_reducible refine LeO.ite ?_ ?_)
   | (with_reducible refine LeO.bind ?_ (fun _ => ?_))
   | exact ih0 _ _ _ _ _ _ _
   | exact ratio_Floor.mono _ _ _ _
   | exact ratio_Mul.mono _ _ _ _ _
   | exact soundservicelaw03_made.mono _ _ _
   | exact soundservicelaw03_sane.mono _
   | exact LeO.none _
   | refine LeO.ite ?_ ?_
   | refine LeO.bind ?_ (fun _ => ?_)
set_option maxHeartbeats 8000000 in
set_option maxRecDepth 100000 in
theorem soundservicelaw03_RatioChains.calls (k : Nat) (a0 : Int) (a1 : Int) (a2 : Int) (a3 : Int) (a4 : Int) (a5 : Int) (r : Bool) (w : World) (h : soundservicelaw03_RatioChains.f k a0 a1 a2 a3 a4 a5 = some r) :
  Calls Try.prog 7 #[.int .u32 a0, .int .u32 a1, .int .i64 a2, .int .i64 a3, .int .i64 a4, .int .i64 a5] w fun e w' => e = .returned (.bool r) ∧ Below w.heap.size w w' := by
 have hu23 := Try.underlying23
 have HB := Aside0.mk (Below.refl w.heap.size w)
 have H : ((soundservicelaw03_sane.f k).bind fun t257 => (if t257 = true then ((soundservicelaw03_made.f k (Int.tmod a2 65536) (Int.tmod a3 65536)).bind fun bt258 => ((soundservicelaw03_made.f k (Int.tmod a4 65536) (Int.tmod a5 65536)).bind fun bt260 => ((ratio_Mul.f k bt258.1 bt258.2 bt260.1 bt260.2).bind fun bt264 => ((ratio_Floor.f k (wrap64 (a0)) bt258.1 bt258.2).bind fun bt268 => ((ratio_Floor.f k (wrap64 (a1)) bt258.1 bt258.2).bind fun bt270 => ((ratio_Floor.f k (wrap64 ((wrap64 (a0)) + (wrap64 (a1)))) bt258.1 bt258.2).bind fun bt272 => (if bt264.2.2 = 0 then (if bt268.2 = 0 then (if bt270.2 = 0 then (if bt272.2 = 0 then (if (wrap64 ((wrap64 (bt272.1 - bt268.1)) - bt270.1)) = 0 then (soundservicelaw03_RatioChains.j0 k a0 bt268.1 false bt260.1 bt260.2 bt264.1 bt264.2.1) else (soundservicelaw03_RatioChains.j0 k a0 bt268.1 ((wrap64 ((wrap64 (bt272.1 - bt268.1)) - bt270.1)) != 1) bt260.1 bt260.2 bt264.1 bt264.2.1)) else (soundservicelaw03_RatioChains.j0 k a0 bt268.1 true bt260.1 bt260.2 bt264.1 bt264.2.1)) else (soundservicelaw03_RatioChains.j0 k a0 bt268.1 true bt260.1 bt260.2 bt264.1 bt264.2.1)) else (soundservicelaw03_RatioChains.j0 k a0 bt268.1 true bt260.1 bt260.2 bt264.1 bt264.2.1)) else (soundservicelaw03_RatioChains.j0 k a0 bt268.1 true bt260.1 bt260.2 bt264.1 bt264.2.1)))))))) else (some false))) = some r := h
 clear h
 replace H := Option.bind_eq_some_iff.mp H
 obtain ⟨t257, A70, H⟩ := H
 replace H : (if t257 = true then ((soundservicelaw03_made.f k (Int.tmod a2 65536) (Int.tmod a3 65536)).bind fun bt258 => ((soundservicelaw03_made.f k (Int.tmod a4 65536) (Int.tmod a5 65536)).bind fun bt260 => ((ratio_Mul.f k bt258.1 bt258.2 bt260.1 bt260.2).bind fun bt264 => ((ratio_Floor.f k (wrap64 (a0)) bt258.1 bt258.2).bind fun bt268 => ((ratio_Floor.f k (wrap64 (a1)) bt258.1 bt258.2).bind fun bt270 => ((ratio_Floor.f k (wrap64 ((wrap64 (a0)) + (wrap64 (a1)))) bt258.1 bt258.2).bind fun bt272 => (if bt264.2.2 = 0 then (if bt268.2 = 0 then (if bt270.2 = 0 then (if bt272.2 = 0 then (if (wrap64 ((wrap64 (bt272.1 - bt268.1)) - bt270.1)) = 0 then (soundservicelaw03_RatioChains.j0 k a0 bt268.1 false bt260.1 bt260.2 bt264.1 bt264.2.1) else (soundservicelaw03_RatioChains.j0 k a0 bt268.1 ((wrap64 ((wrap64 (bt272.1 - bt268.1)) - bt270.1)) != 1) bt260.1 bt260.2 bt264.1 bt264.2.1)) else (soundservicelaw03_RatioChains.j0 k a0 bt268.1 true bt260.1 bt260.2 bt264.1 bt264.2.1)) else (soundservicelaw03_RatioChains.j0 k a0 bt268.1 true bt260.1 bt260.2 bt264.1 bt264.2.1)) else (soundservicelaw03_RatioChains.j0 k a0 bt268.1 true bt260.1 bt260.2 bt264.1 bt264.2.1)) else (soundservicelaw03_RatioChains.j0 k a0 bt268.1 true bt260.1 bt260.2 bt264.1 bt264.2.1)))))))) else (some false)) = some r := H
 have A7 := Aside0.mk A70
 clear A70
 by_cases c8 : t257 = true
 ·subst c8
  have H1 : ((soundservicelaw03_made.f k (Int.tmod a2 65536) (Int.tmod a3 65536)).bind fun bt258 => ((soundservicelaw03_made.f k (Int.tmod a4 65536) (Int.tmod a5 65536)).bind fun bt260 => ((ratio_Mul.f k bt258.1 bt258.2 bt260.1 bt260.2).bind fun bt264 => ((ratio_Floor.f k (wrap64 (a0)) bt258.1 bt258.2).bind fun bt268 => ((ratio_Floor.f k (wrap64 (a1)) bt258.1 bt258.2).bind fun bt270 => ((ratio_Floor.f k (wrap64 ((wrap64 (a0)) + (wrap64 (a1)))) bt258.1 bt258.2).bind fun bt272 => (if bt264.2.2 = 0 then (if bt268.2 = 0 then (if bt270.2 = 0 then (if bt272.2 = 0 then (if (wrap64 ((wrap64 (bt272.1 - bt268.1)) - bt270.1)) = 0 then (soundservicelaw03_RatioChains.j0 k a0 bt268.1 false bt260.1 bt260.2 bt264.1 bt264.2.1) else (soundservicelaw03_RatioChains.j0 k a0 bt268.1 ((wrap64 ((wrap64 (bt272.1 - bt268.1)) - bt270.1)) != 1) bt260.1 bt260.2 bt264.1 bt264.2.1)) else (soundservicelaw03_RatioChains.j0 k a0 bt268.1 true bt260.1 bt260.2 bt264.1 bt264.2.1)) else (soundservicelaw03_RatioChains.j0 k a0 bt268.1 true bt260.1 bt260.2 bt264.1 bt264.2.1)) else (soundservicelaw03_RatioChains.j0 k a0 bt268.1 true bt260.1 bt260.2 bt264.1 bt264.2.1)) else (soundservicelaw03_RatioChains.j0 k a0 bt268.1 true bt260.1 bt260.2 bt264.1 bt264.2.1)))))))) = some r := by rw [if_pos rfl] at H; exact H
  clear H
  have H := H1
  clear H1
  replace H := Option.bind_eq_some_iff.mp H
  obtain ⟨⟨t258, t259⟩, A90, H⟩ := H
  replace H : ((soundservicelaw03_made.f k (Int.tmod a4 65536) (Int.tmod a5 65536)).bind fun bt260 => ((ratio_Mul.f k t258 t259 bt260.1 bt260.2).bind fun bt264 => ((ratio_Floor.f k (wrap64 (a0)) t258 t259).bind fun bt268 => ((ratio_Floor.f k (wrap64 (a1)) t258 t259).bind fun bt270 => ((ratio_Floor.f k (wrap64 ((wrap64 (a0)) + (wrap64 (a1)))) t258 t259).bind fun bt272 => (if bt264.2.2 = 0 then (if bt268.2 = 0 then (if bt270.2 = 0 then (if bt272.2 = 0 then (if (wrap64 ((wrap64 (bt272.1 - bt268.1)) - bt270.1)) = 0 then (soundservicelaw03_RatioChains.j0 k a0 bt268.1 false bt260.1 bt260.2 bt264.1 bt264.2.1) else (soundservicelaw03_RatioChains.j0 k a0 bt268.1 ((wrap64 ((wrap64 (bt272.1 - bt268.1)) - bt270.1)) != 1) bt260.1 bt260.2 bt264.1 bt264.2.1)) else (soundservicelaw03_RatioChains.j0 k a0 bt268.1 true bt260.1 bt260.2 bt264.1 bt264.2.1)) else (soundservicelaw03_RatioChains.j0 k a0 bt268.1 true bt260.1 bt260.2 bt264.1 bt264.2.1)) else (soundservicelaw03_RatioChains.j0 k a0 bt268.1 true bt260.1 bt260.2 bt264.1 bt264.2.1)) else (soundservicelaw03_RatioChains.j0 k a0 bt268.1 true bt260.1 bt260.2 bt264.1 bt264.2.1))))))) = some r := H
  have A9 := Aside0.mk A90
  clear A90
  replace H := Option.bind_eq_some_iff.mp H
  obtain ⟨⟨t260, t261⟩, A100, H⟩ := H
  replace H : ((ratio_Mul.f k t258 t259 t260 t261).bind fun bt264 => ((ratio_Floor.f k (wrap64 (a0)) t258 t259).bind fun bt268 => ((ratio_Floor.f k (wrap64 (a1)) t258 t259).bind fun bt270 => ((ratio_Floor.f k (wrap64 ((wrap64 (a0)) + (wrap64 (a1)))) t258 t259).bind fun bt272 => (if bt264.2.2 = 0 then (if bt268.2 = 0 then (if bt270.2 = 0 then (if bt272.2 = 0 then (if (wrap64 ((wrap64 (bt272.1 - bt268.1)) - bt270.1)) = 0 then (soundservicelaw03_RatioChains.j0 k a0 bt268.1 false t260 t261 bt264.1 bt264.2.1) else (soundservicelaw03_RatioChains.j0 k a0 bt268.1 ((wrap64 ((wrap64 (bt272.1 - bt268.1)) - bt270.1)) != 1) t260 t261 bt264.1 bt264.2.1)) else (soundservicelaw03_RatioChains.j0 k a0 bt268.1 true t260 t261 bt264.1 bt264.2.1)) else (soundservicelaw03_RatioChains.j0 k a0 bt268.1 true t260 t261 bt264.1 bt264.2.1)) else (soundservicelaw03_RatioChains.j0 k a0 bt268.1 true t260 t261 bt264.1 bt264.2.1)) else (soundservicelaw03_RatioChains.j0 k a0 bt268.1 true t260 t261 bt264.1 bt264.2.1)))))) = some r := H
  have A10 := Aside0.mk A100
  clear A100
  replace H := Option.bind_eq_some_iff.mp H
  obtain ⟨⟨t264, t265, t266⟩, A110, H⟩ := H
  replace H : ((ratio_Floor.f k (wrap64 (a0)) t258 t259).bind fun bt268 => ((ratio_Floor.f k (wrap64 (a1)) t258 t259).bind fun bt270 => ((ratio_Floor.f k (wrap64 ((wrap64 (a0)) + (wrap64 (a1)))) t258 t259).bind fun bt272 => (if t266 = 0 then (if bt268.2 = 0 then (if bt270.2 = 0 then (if bt272.2 = 0 then (if (wrap64 ((wrap64 (bt272.1 - bt268.1)) - bt270.1)) = 0 then (soundservicelaw03_RatioChains.j0 k a0 bt268.1 false t260 t261 t264 t265) else (soundservicelaw03_RatioChains.j0 k a0 bt268.1 ((wrap64 ((wrap64 (bt272.1 - bt268.1)) - bt270.1)) != 1) t260 t261 t264 t265)) else (soundservicelaw03_RatioChains.j0 k a0 bt268.1 true t260 t261 t264 t265)) else (soundservicelaw03_RatioChains.j0 k a0 bt268.1 true t260 t261 t264 t265)) else (soundservicelaw03_RatioChains.j0 k a0 bt268.1 true t260 t261 t264 t265)) else (soundservicelaw03_RatioChains.j0 k a0 bt268.1 true t260 t261 t264 t265))))) = some r := H
  have A11 := Aside0.mk A110
  clear A110
  replace H := Option.bind_eq_some_iff.mp H
  obtain ⟨⟨t268, t269⟩, A120, H⟩ := H
  replace H : ((ratio_Floor.f k (wrap64 (a1)) t258 t259).bind fun bt270 => ((ratio_Floor.f k (wrap64 ((wrap64 (a0)) + (wrap64 (a1)))) t258 t259).bind fun bt272 => (if t266 = 0 then (if t269 = 0 then (if bt270.2 = 0 then (if bt272.2 = 0 then (if (wrap64 ((wrap64 (bt272.1 - t268)) - bt270.1)) = 0 then (soundservicelaw03_RatioChains.j0 k a0 t268 false t260 t261 t264 t265) else (soundservicelaw03_RatioChains.j0 k a0 t268 ((wrap64 ((wrap64 (bt272.1 - t268)) - bt270.1)) != 1) t260 t261 t264 t265)) else (soundservicelaw03_RatioChains.j0 k a0 t268 true t260 t261 t264 t265)) else (soundservicelaw03_RatioChains.j0 k a0 t268 true t260 t261 t264 t265)) else (soundservicelaw03_RatioChains.j0 k a0 t268 true t260 t261 t264 t265)) else (soundservicelaw03_RatioChains.j0 k a0 t268 true t260 t261 t264 t265)))) = some r := H
  have A12 := Aside0.mk A120
  clear A120
  replace H := Option.bind_eq_some_iff.mp H
  obtain ⟨⟨t270, t271⟩, A130, H⟩ := H
  replace H : ((ratio_Floor.f k (wrap64 ((wrap64 (a0)) + (wrap64 (a1)))) t258 t259).bind fun bt272 => (if t266 = 0 then (if t269 = 0 then (if t271 = 0 then (if bt272.2 = 0 then (if (wrap64 ((wrap64 (bt272.1 - t268)) - t270)) = 0 then (soundservicelaw03_RatioChains.j0 k a0 t268 false t260 t261 t264 t265) else (soundservicelaw03_RatioChains.j0 k a0 t268 ((wrap64 ((wrap64 (bt272.1 - t268)) - t270)) != 1) t260 t261 t264 t265)) else (soundservicelaw03_RatioChains.j0 k a0 t268 true t260 t261 t264 t265)) else (soundservicelaw03_RatioChains.j0 k a0 t268 true t260 t261 t264 t265)) else (soundservicelaw03_RatioChains.j0 k a0 t268 true t260 t261 t264 t265)) else (soundservicelaw03_RatioChains.j0 k a0 t268 true t260 t261 t264 t265))) = some r := H
  have A13 := Aside0.mk A130
  clear A130
  replace H := Option.bind_eq_some_iff.mp H
  obtain ⟨⟨t272, t273⟩, A140, H⟩ := H
  replace H : (if t266 = 0 then (if t269 = 0 then (if t271 = 0 then (if t273 = 0 then (if (wrap64 ((wrap64 (t272 - t268)) - t270)) = 0 then (soundservicelaw03_RatioChains.j0 k a0 t268 false t260 t261 t264 t265) else (soundservicelaw03_RatioChains.j0 k a0 t268 ((wrap64 ((wrap64 (t272 - t268)) - t270)) != 1) t260 t261 t264 t265)) else (soundservicelaw03_RatioChains.j0 k a0 t268 true t260 t261 t264 t265)) else (soundservicelaw03_RatioChains.j0 k a0 t268 true t260 t261 t264 t265)) else (soundservicelaw03_RatioChains.j0 k a0 t268 true t260 t261 t264 t265)) else (soundservicelaw03_RatioChains.j0 k a0 t268 true t260 t261 t264 t265)) = some r := H
  have A14 := Aside0.mk A140
  clear A140
  have HC15 := Aside0.mk H
  clear H
  go_enter Try.func7, Try.ntmps7
  go_upto_region 8 with (first | ((with_reducible refine gate_callee (f := 10) rfl ?_); refine goesL_ (some 27) rfl rfl Try.func10 (by kernel_rfl) rfl #[] rfl (by (try simp only [List.map_toArray, List.map_cons, List.map_nil]); first | done | rfl | (simp only [List.length_drop, List.length_take]; rfl)) ?_; (with_reducible refine (soundservicelaw03_sane.calls k  true _ A7.out).mono ?_); rintro e w16 ⟨rfl, hb⟩; refine ⟨_, rfl, ?_⟩; have n0_ := Aside0.mk (below_step (by repeat (first | (with_reducible first | exact HB.out | apply below_alloc | apply pw_below_drewN | apply below_drew1) | exact HB.out)) hb); clear HB; have HB := n0_; clear n0_; (try clear hb); (try clear hb2); (try clear hk); (try clear hi)) | ((with_reducible refine gate_callee (f := 15) rfl ?_); refine goesL_ (some 33) rfl rfl Try.func15 (by kernel_rfl) rfl #[.int .i64 (Int.tmod a2 65536), .int .i64 (Int.tmod a3 65536)] rfl (by (try simp only [List.map_toArray, List.map_cons, List.map_nil]); first | done | rfl | (simp only [List.length_drop, List.length_take]; rfl)) ?_; (with_reducible refine (soundservicelaw03_made.calls k (Int.tmod a2 65536) (Int.tmod a3 65536) t258 t259 _ A9.out).mono ?_); rintro e w17 ⟨rfl, hb⟩; refine ⟨_, rfl, ?_⟩; have n0_ := Aside0.mk (below_step (by repeat (first | (with_reducible first | exact HB.out | apply below_alloc | apply pw_below_drewN | apply below_drew1) | exact HB.out)) hb); clear HB; have HB := n0_; clear n0_; (try clear hb); (try clear hb2); (try clear hk); (try clear hi)) | ((with_reducible refine gate_callee (f := 15) rfl ?_); refine goesL_ (some 38) rfl rfl Try.func15 (by kernel_rfl) rfl #[.int .i64 (Int.tmod a4 65536), .int .i64 (Int.tmod a5 65536)] rfl (by (try simp only [List.map_toArray, List.map_cons, List.map_nil]); first | done | rfl | (simp only [List.length_drop, List.length_take]; rfl)) ?_; (with_reducible refine (soundservicelaw03_made.calls k (Int.tmod a4 65536) (Int.tmod a5 65536) t260 t261 _ A10.out).mono ?_); rintro e w18 ⟨rfl, hb⟩; refine ⟨_, rfl, ?_⟩; have n0_ := Aside0.mk (below_step (by repeat (first | (with_reducible first | exact HB.out | apply below_alloc | apply pw_below_drewN | apply below_drew1) | exact HB.out)) hb); clear HB; have HB := n0_; clear n0_; (try clear hb); (try clear hb2); (try clear hk); (try clear hi)) | ((with_reducible refine gate_dst (N := 13) rfl ?_); refine box_event ?hg (N := 13) ?hd (cs := #[.int .i64 0, .int .i64 0]) (t := 23) ?hr ?_; (case hd => rfl); (case hg => rfl); (case hr => first | (go_simp; done) | (go_simp; rfl)); intro gb262 hg w19 hbox hb; have n0_ := Aside0.mk (below_step (by repeat (first | (with_reducible first | exact HB.out | apply below_alloc | apply pw_below_drewN | apply below_drew1) | exact HB.out)) hb); have n1_ := Aside0.mk (hbox); have n2_ := Aside0.mk ((by rw [hg]; exact (below_size (by repeat (first | (with_reducible first | exact HB.out | apply below_alloc | apply pw_below_drewN | apply below_drew1) | exact HB.out))) : w.heap.size ≤ gb262)); have n3_ := Aside0.mk ((by rw [hg]; exact (below_size (by repeat (first | (with_reducible first | exact HB.out | apply below_alloc | apply pw_below_drewN | apply below_drew1) | exact HB.out))) : w.heap.size ≤ gb262)); clear HB; have HB := n0_; have BK262 := n1_; have GW262 := n2_; have GE262 := n3_; clear n0_ n1_ n2_ n3_; clear hb hbox hg) | ((with_reducible refine gate_dst (N := 14) rfl ?_); refine box_event ?hg (N := 14) ?hd (cs := #[.int .i64 0, .int .i64 0]) (t := 23) ?hr ?_; (case hd => rfl); (case hg => rfl); (case hr => first | (go_simp; done) | (go_simp; rfl)); intro gb263 hg w20 hbox hb; have n0_ := Aside0.mk (blk_below (g := gb262) (o := .cells #[.int .i64 0, .int .i64 0] 23 (0, 0)) (by (with_reducible repeat (first | apply blk_drewN | apply blk_drew | apply blk_alloc)); exact BK262.out) hb); have n1_ := Aside0.mk (below_step (by repeat (first | (with_reducible first | exact HB.out | apply below_alloc | apply pw_below_drewN | apply below_drew1 | refine below_set ?_ GE262.out) | exact HB.out)) hb); have n2_ := Aside0.mk (hbox); have n3_ := Aside0.mk ((by rw [hg]; exact (below_size (by repeat (first | (with_reducible first | exact HB.out | apply below_alloc | apply pw_below_drewN | apply below_drew1 | refine below_set ?_ GE262.out) | exact HB.out))) : w.heap.size ≤ gb263)); have n4_ := Aside0.mk ((by rw [hg]; exact (below_size (by repeat (first | (with_reducible first | exact HB.out | apply below_alloc | apply pw_below_drewN | apply below_drew1 | refine below_set ?_ GE262.out) | exact HB.out))) : w.heap.size ≤ gb263)); have n5_ := Aside0.mk ((by rw [hg]; exact Nat.ne_of_lt (blk_lt (g := gb262) (o := .cells #[.int .i64 0, .int .i64 0] 23 (0, 0)) (by (with_reducible repeat (first | apply blk_drewN | apply blk_drew | apply blk_alloc)); exact BK262.out)) : gb262 ≠ gb263)); have n6_ := Aside0.mk ((by rw [hg]; exact Nat.ne_of_gt (blk_lt (g := gb262) (o := .cells #[.int .i64 0, .int .i64 0] 23 (0, 0)) (by (with_reducible repeat (first | apply blk_drewN | apply blk_drew | apply blk_alloc)); exact BK262.out)) : gb263 ≠ gb262)); clear BK262; clear HB; have BK262 := n0_; have HB := n1_; have BK263 := n2_; have GW263 := n3_; have GE263 := n4_; have NB262_263 := n5_; have NB263_262 := n6_; clear n0_ n1_ n2_ n3_ n4_ n5_ n6_; clear hb hbox hg; have hnb21 := NB262_263.out; have hnc21 := NB263_262.out; have hcz22_0 : w20.cell? ⟨gb262, 0, none⟩ = some (.int .i64 0) := (blk_cell BK262.out 0).trans rfl; have hcz22_1 : w20.cell? ⟨gb262, 1, none⟩ = some (.int .i64 0) := (blk_cell BK262.out 1).trans rfl; have hfz22_0 := blk_frozen BK262.out 0; have hfz22_1 := blk_frozen BK262.out 1; have hcz23_0 : w20.cell? ⟨gb263, 0, none⟩ = some (.int .i64 0) := (blk_cell BK263.out 0).trans rfl; have hcz23_1 : w20.cell? ⟨gb263, 1, none⟩ = some (.int .i64 0) := (blk_cell BK263.out 1).trans rfl; have hfz23_0 := blk_frozen BK263.out 0; have hfz23_1 := blk_frozen BK263.out 1) | ((with_reducible refine gate_callee (f := 23) rfl ?_); refine goesL_ (some 42) rfl rfl Try.func23 (by kernel_rfl) rfl #[.agg #[.int .i64 t258, .int .i64 t259], .agg #[.int .i64 t260, .int .i64 t261]] rfl (by (try simp only [List.map_toArray, List.map_cons, List.map_nil]); first | done | rfl | (simp only [List.length_drop, List.length_take]; rfl)) ?_; (with_reducible refine (ratio_Mul.calls k t258 t259 t260 t261 t264 t265 t266 _ A11.out).mono ?_); rintro e w24 ⟨rfl, hb⟩; refine ⟨_, rfl, ?_⟩; have n0_ := Aside0.mk (blk_below (g := gb262) (o := .cells #[.int .i64 t258, .int .i64 t259] 23 (0, 0)) (by (with_reducible repeat (first | apply blk_drewN | apply blk_drew | apply blk_alloc)); refine blk_far ?_ NB262_263.out _; (with_reducible repeat (first | apply blk_drewN | apply blk_drew | apply blk_alloc)); refine blk_far ?_ NB262_263.out _; (with_reducible repeat (first | apply blk_drewN | apply blk_drew | apply blk_alloc)); refine blk_put (cs := #[.int .i64 t258, .int .i64 0]) ?_ 1 _ rfl; (with_reducible repeat (first | apply blk_drewN | apply blk_drew | apply blk_alloc)); refine blk_put (cs := #[.int .i64 0, .int .i64 0]) ?_ 0 _ rfl; (with_reducible repeat (first | apply blk_drewN | apply blk_drew | apply blk_alloc)); exact BK262.out) hb); have n1_ := Aside0.mk (blk_below (g := gb263) (o := .cells #[.int .i64 t260, .int .i64 t261] 23 (0, 0)) (by (with_reducible repeat (first | apply blk_drewN | apply blk_drew | apply blk_alloc)); refine blk_put (cs := #[.int .i64 t260, .int .i64 0]) ?_ 1 _ rfl; (with_reducible repeat (first | apply blk_drewN | apply blk_drew | apply blk_alloc)); refine blk_put (cs := #[.int .i64 0, .int .i64 0]) ?_ 0 _ rfl; (with_reducible repeat (first | apply blk_drewN | apply blk_drew | apply blk_alloc)); refine blk_far ?_ NB263_262.out _; (with_reducible repeat (first | apply blk_drewN | apply blk_drew | apply blk_alloc)); refine blk_far ?_ NB263_262.out _; (with_reducible repeat (first | apply blk_drewN | apply blk_drew | apply blk_alloc)); exact BK263.out) hb); have n2_ := Aside0.mk (below_step (by repeat (first | (with_reducible first | exact HB.out | apply below_alloc | apply pw_below_drewN | apply below_drew1 | refine below_set ?_ GE262.out | refine below_set ?_ GE263.out) | exact HB.out)) hb); clear BK262; clear BK263; clear HB; have BK262 := n0_; have BK263 := n1_; have HB := n2_; clear n0_ n1_ n2_; (try clear hb); (try clear hb2); (try clear hk); (try clear hi)) | ((with_reducible refine gate_dst (N := 15) rfl ?_); refine box_event ?hg (N := 15) ?hd (cs := #[.int .i64 0, .int .i64 0]) (t := 23) ?hr ?_; (case hd => rfl); (case hg => rfl); (case hr => first | (go_simp; done) | (go_simp; rfl)); intro gb267 hg w25 hbox hb; have n0_ := Aside0.mk (blk_below (g := gb262) (o := .cells #[.int .i64 t258, .int .i64 t259] 23 (0, 0)) (by (with_reducible repeat (first | apply blk_drewN | apply blk_drew | apply blk_alloc)); exact BK262.out) hb); have n1_ := Aside0.mk (blk_below (g := gb263) (o := .cells #[.int .i64 t260, .int .i64 t261] 23 (0, 0)) (by (with_reducible repeat (first | apply blk_drewN | apply blk_drew | apply blk_alloc)); exact BK263.out) hb); have n2_ := Aside0.mk (below_step (by repeat (first | (with_reducible first | exact HB.out | apply below_alloc | apply pw_below_drewN | apply below_drew1 | refine below_set ?_ GE262.out | refine below_set ?_ GE263.out) | exact HB.out)) hb); have n3_ := Aside0.mk (hbox); have n4_ := Aside0.mk ((by rw [hg]; exact (below_size (by repeat (first | (with_reducible first | exact HB.out | apply below_alloc | apply pw_below_drewN | apply below_drew1 | refine below_set ?_ GE262.out | refine below_set ?_ GE263.out) | exact HB.out))) : w.heap.size ≤ gb267)); have n5_ := Aside0.mk ((by rw [hg]; exact (below_size (by repeat (first | (with_reducible first | exact HB.out | apply below_alloc | apply pw_below_drewN | apply below_drew1 | refine below_set ?_ GE262.out | refine below_set ?_ GE263.out) | exact HB.out))) : w.heap.size ≤ gb267)); have n6_ := Aside0.mk ((by rw [hg]; exact Nat.ne_of_lt (blk_lt (g := gb262) (o := .cells #[.int .i64 t258, .int .i64 t259] 23 (0, 0)) (by (with_reducible repeat (first | apply blk_drewN | apply blk_drew | apply blk_alloc)); exact BK262.out)) : gb262 ≠ gb267)); have n7_ := Aside0.mk ((by rw [hg]; exact Nat.ne_of_gt (blk_lt (g := gb262) (o := .cells #[.int .i64 t258, .int .i64 t259] 23 (0, 0)) (by (with_reducible repeat (first | apply blk_drewN | apply blk_drew | apply blk_alloc)); exact BK262.out)) : gb267 ≠ gb262)); have n8_ := Aside0.mk ((by rw [hg]; exact Nat.ne_of_lt (blk_lt (g := gb263) (o := .cells #[.int .i64 t260, .int .i64 t261] 23 (0, 0)) (by (with_reducible repeat (first | apply blk_drewN | apply blk_drew | apply blk_alloc)); exact BK263.out)) : gb263 ≠ gb267)); have n9_ := Aside0.mk ((by rw [hg]; exact Nat.ne_of_gt (blk_lt (g := gb263) (o := .cells #[.int .i64 t260, .int .i64 t261] 23 (0, 0)) (by (with_reducible repeat (first | apply blk_drewN | apply blk_drew | apply blk_alloc)); exact BK263.out)) : gb267 ≠ gb263)); clear BK262; clear BK263; clear HB; have BK262 := n0_; have BK263 := n1_; have HB := n2_; have BK267 := n3_; have GW267 := n4_; have GE267 := n5_; have NB262_267 := n6_; have NB267_262 := n7_; have NB263_267 := n8_; have NB267_263 := n9_; clear n0_ n1_ n2_ n3_ n4_ n5_ n6_ n7_ n8_ n9_; clear hb hbox hg; have hnb26 := NB267_262.out; have hnc26 := NB262_267.out; have hnb27 := NB267_263.out; have hnc27 := NB263_267.out; have hcz28_0 : w25.cell? ⟨gb267, 0, none⟩ = some (.int .i64 0) := (blk_cell BK267.out 0).trans rfl; have hcz28_1 : w25.cell? ⟨gb267, 1, none⟩ = some (.int .i64 0) := (blk_cell BK267.out 1).trans rfl; have hfz28_0 := blk_frozen BK267.out 0; have hfz28_1 := blk_frozen BK267.out 1; have hcz29_0 : w25.cell? ⟨gb262, 0, none⟩ = some (.int .i64 t258) := (blk_cell BK262.out 0).trans rfl; have hcz29_1 : w25.cell? ⟨gb262, 1, none⟩ = some (.int .i64 t259) := (blk_cell BK262.out 1).trans rfl; have hfz29_0 := blk_frozen BK262.out 0; have hfz29_1 := blk_frozen BK262.out 1) | ((with_reducible refine gate_callee (f := 16) rfl ?_); refine goesL_ (some 49) rfl rfl Try.func16 (by kernel_rfl) rfl #[.int .i64 (wrap64 (a0)), .agg #[.int .i64 t258, .int .i64 t259]] rfl (by (try simp only [List.map_toArray, List.map_cons, List.map_nil]); first | done | rfl | (simp only [List.length_drop, List.length_take]; rfl)) ?_; (with_reducible refine (ratio_Floor.calls k (wrap64 (a0)) t258 t259 t268 t269 _ A12.out).mono ?_); rintro e w30 ⟨rfl, hb⟩; refine ⟨_, rfl, ?_⟩; have n0_ := Aside0.mk (blk_below (g := gb262) (o := .cells #[.int .i64 t258, .int .i64 t259] 23 (0, 0)) (by (with_reducible repeat (first | apply blk_drewN | apply blk_drew | apply blk_alloc)); refine blk_far ?_ NB262_267.out _; (with_reducible repeat (first | apply blk_drewN | apply blk_drew | apply blk_alloc)); refine blk_far ?_ NB262_267.out _; (with_reducible repeat (first | apply blk_drewN | apply blk_drew | apply blk_alloc)); exact BK262.out) hb); have n1_ := Aside0.mk (blk_below (g := gb263) (o := .cells #[.int .i64 t260, .int .i64 t261] 23 (0, 0)) (by (with_reducible repeat (first | apply blk_drewN | apply blk_drew | apply blk_alloc)); refine blk_far ?_ NB263_267.out _; (with_reducible repeat (first | apply blk_drewN | apply blk_drew | apply blk_alloc)); refine blk_far ?_ NB263_267.out _; (with_reducible repeat (first | apply blk_drewN | apply blk_drew | apply blk_alloc)); exact BK263.out) hb); have n2_ := Aside0.mk (blk_below (g := gb267) (o := .cells #[.int .i64 t264, .int .i64 t265] 23 (0, 0)) (by (with_reducible repeat (first | apply blk_drewN | apply blk_drew | apply blk_alloc)); refine blk_put (cs := #[.int .i64 t264, .int .i64 0]) ?_ 1 _ rfl; (with_reducible repeat (first | apply blk_drewN | apply blk_drew | apply blk_alloc)); refine blk_put (cs := #[.int .i64 0, .int .i64 0]) ?_ 0 _ rfl; (with_reducible repeat (first | apply blk_drewN | apply blk_drew | apply blk_alloc)); exact BK267.out) hb); have n3_ := Aside0.mk (below_step (by repeat (first | (with_reducible first | exact HB.out | apply below_alloc | apply pw_below_drewN | apply below_drew1 | refine below_set ?_ GE262.out | refine below_set ?_ GE263.out | refine below_set ?_ GE267.out) | exact HB.out)) hb); clear BK262; clear BK263; clear BK267; clear HB; have BK262 := n0_; have BK263 := n1_; have BK267 := n2_; have HB := n3_; clear n0_ n1_ n2_ n3_; (try clear hb); (try clear hb2); (try clear hk); (try clear hi); have hcz31_0 : w30.cell? ⟨gb262, 0, none⟩ = some (.int .i64 t258) := (blk_cell BK262.out 0).trans rfl; have hcz31_1 : w30.cell? ⟨gb262, 1, none⟩ = some (.int .i64 t259) := (blk_cell BK262.out 1).trans rfl; have hfz31_0 := blk_frozen BK262.out 0; have hfz31_1 := blk_frozen BK262.out 1) | ((with_reducible refine gate_callee (f := 16) rfl ?_); refine goesL_ (some 56) rfl rfl Try.func16 (by kernel_rfl) rfl #[.int .i64 (wrap64 (a1)), .agg #[.int .i64 t258, .int .i64 t259]] rfl (by (try simp only [List.map_toArray, List.map_cons, List.map_nil]); first | done | rfl | (simp only [List.length_drop, List.length_take]; rfl)) ?_; (with_reducible refine (ratio_Floor.calls k (wrap64 (a1)) t258 t259 t270 t271 _ A13.out).mono ?_); rintro e w32 ⟨rfl, hb⟩; refine ⟨_, rfl, ?_⟩; have n0_ := Aside0.mk (blk_below (g := gb262) (o := .cells #[.int .i64 t258, .int .i64 t259] 23 (0, 0)) (by (with_reducible repeat (first | apply blk_drewN | apply blk_drew | apply blk_alloc)); exact BK262.out) hb); have n1_ := Aside0.mk (blk_below (g := gb263) (o := .cells #[.int .i64 t260, .int .i64 t261] 23 (0, 0)) (by (with_reducible repeat (first | apply blk_drewN | apply blk_drew | apply blk_alloc)); exact BK263.out) hb); have n2_ := Aside0.mk (blk_below (g := gb267) (o := .cells #[.int .i64 t264, .int .i64 t265] 23 (0, 0)) (by (with_reducible repeat (first | apply blk_drewN | apply blk_drew | apply blk_alloc)); exact BK267.out) hb); have n3_ := Aside0.mk (below_step (by repeat (first | (with_reducible first | exact HB.out | apply below_alloc | apply pw_below_drewN | apply below_drew1 | refine below_set ?_ GE262.out | refine below_set ?_ GE263.out | refine below_set ?_ GE267.out) | exact HB.out)) hb); clear BK262; clear BK263; clear BK267; clear HB; have BK262 := n0_; have BK263 := n1_; have BK267 := n2_; have HB := n3_; clear n0_ n1_ n2_ n3_; (try clear hb); (try clear hb2); (try clear hk); (try clear hi); have hcz33_0 : w32.cell? ⟨gb262, 0, none⟩ = some (.int .i64 t258) := (blk_cell BK262.out 0).trans rfl; have hcz33_1 : w32.cell? ⟨gb262, 1, none⟩ = some (.int .i64 t259) := (blk_cell BK262.out 1).trans rfl; have hfz33_0 := blk_frozen BK262.out 0; have hfz33_1 := blk_frozen BK262.out 1) | ((with_reducible refine gate_callee (f := 16) rfl ?_); refine goesL_ (some 66) rfl rfl Try.func16 (by kernel_rfl) rfl #[.int .i64 (wrap64 ((wrap64 (a0)) + (wrap64 (a1)))), .agg #[.int .i64 t258, .int .i64 t259]] rfl (by (try simp only [List.map_toArray, List.map_cons, List.map_nil]); first | done | rfl | (simp only [List.length_drop, List.length_take]; rfl)) ?_; (with_reducible refine (ratio_Floor.calls k (wrap64 ((wrap64 (a0)) + (wrap64 (a1)))) t258 t259 t272 t273 _ A14.out).mono ?_); rintro e w34 ⟨rfl, hb⟩; refine ⟨_, rfl, ?_⟩; have n0_ := Aside0.mk (blk_below (g := gb262) (o := .cells #[.int .i64 t258, .int .i64 t259] 23 (0, 0)) (by (with_reducible repeat (first | apply blk_drewN | apply blk_drew | apply blk_alloc)); exact BK262.out) hb); have n1_ := Aside0.mk (blk_below (g := gb263) (o := .cells #[.int .i64 t260, .int .i64 t261] 23 (0, 0)) (by (with_reducible repeat (first | apply blk_drewN | apply blk_drew | apply blk_alloc)); exact BK263.out) hb); have n2_ := Aside0.mk (blk_below (g := gb267) (o := .cells #[.int .i64 t264, .int .i64 t265] 23 (0, 0)) (by (with_reducible repeat (first | apply blk_drewN | apply blk_drew | apply blk_alloc)); exact BK267.out) hb); have n3_ := Aside0.mk (below_step (by repeat (first | (with_reducible first | exact HB.out | apply below_alloc | apply pw_below_drewN | apply below_drew1 | refine below_set ?_ GE262.out | refine below_set ?_ GE263.out | refine below_set ?_ GE267.out) | exact HB.out)) hb); clear BK262; clear BK263; clear BK267; clear HB; have BK262 := n0_; have BK263 := n1_; have BK267 := n2_; have HB := n3_; clear n0_ n1_ n2_ n3_; (try clear hb); (try clear hb2); (try clear hk); (try clear hi)))
  (try simp only [Act.put, List.setIfInBounds_toArray, List.set_cons_zero, List.set_cons_succ])
  go_cut [98] (fun v98 wc => ∃ (kq : Nat) (x98_14 : Bool), v98 = .bool x98_14 ∧ Aside0 (soundservicelaw03_RatioChains.j0 kq a0 t268 x98_14 t260 t261 t264 t265 = some r) ∧ Aside0 (kq ≤ k) ∧ Aside0 (wc.heap[gb262]? = some (.cells #[.int .i64 t258, .int .i64 t259] 23 (0, 0))) ∧ Aside0 (wc.heap[gb263]? = some (.cells #[.int .i64 t260, .int .i64 t261] 23 (0, 0))) ∧ Aside0 (wc.heap[gb267]? = some (.cells #[.int .i64 t264, .int .i64 t265] 23 (0, 0))) ∧ Aside0 (Below w.heap.size w wc))
  case first =>
   have H := HC15.out
   clear HC15
   by_cases c35 : t266 = 0
   ·rw [if_pos c35] at H
    have c35b0 : (t266 == 0) = true := beq_iff_eq.mpr c35
    have c35b1 : (t266 != 0) = false := bne_eq_false_iff_eq.mpr c35
    clear c35
    (first | rw [c35b0] | (simp only [i64_w, i32_w]; rw [c35b0]) | skip)
    by_cases c36 : t269 = 0
    ·rw [if_pos c36] at H
     have c36b0 : (t269 == 0) = true := beq_iff_eq.mpr c36
     have c36b1 : (t269 != 0) = false := bne_eq_false_iff_eq.mpr c36
     clear c36
     by_cases c37 : t271 = 0
     ·rw [if_pos c37] at H
      have c37b0 : (t271 == 0) = true := beq_iff_eq.mpr c37
      have c37b1 : (t271 != 0) = false := bne_eq_false_iff_eq.mpr c37
      clear c37
      by_cases c38 : t273 = 0
      ·rw [if_pos c38] at H
       have c38b0 : (t273 == 0) = true := beq_iff_eq.mpr c38
       have c38b1 : (t273 != 0) = false := bne_eq_false_iff_eq.mpr c38
       clear c38
       by_cases c39 : (wrap64 ((wrap64 (t272 - t268)) - t270)) = 0
       ·rw [if_pos c39] at H
        have c39b0 : ((wrap64 ((wrap64 (t272 - t268)) - t270)) == 0) = true := beq_iff_eq.mpr c39
        have c39b1 : ((wrap64 ((wrap64 (t272 - t268)) - t270)) != 0) = false := bne_eq_false_iff_eq.mpr c39
        clear c39
        have H' := Aside0.mk H
        clear H
        go_wp2
        go_meet
        case rel => exact ⟨_, (false), (by first | rfl | (simp; done) | (simp [*]; done)), H', ⟨by first | omega | exact Nat.le_refl _⟩, ⟨by (with_reducible repeat (first | apply blk_drewN | apply blk_drew | apply blk_alloc)); exact BK262.out⟩, ⟨by (with_reducible repeat (first | apply blk_drewN | apply blk_drew | apply blk_alloc)); exact BK263.out⟩, ⟨by (with_reducible repeat (first | apply blk_drewN | apply blk_drew | apply blk_alloc)); exact BK267.out⟩, ⟨by repeat (first | (with_reducible first | exact HB.out | apply below_alloc | apply pw_below_drewN | apply below_drew1 | refine below_set ?_ GE262.out | refine below_set ?_ GE263.out | refine below_set ?_ GE267.out) | exact HB.out)⟩⟩
       ·rw [if_neg c39] at H
        have c39b0 : ((wrap64 ((wrap64 (t272 - t268)) - t270)) == 0) = false := beq_eq_false_iff_ne.mpr c39
        have c39b1 : ((wrap64 ((wrap64 (t272 - t268)) - t270)) != 0) = true := bne_iff_ne.mpr c39
        have H' := Aside0.mk H
        clear H
        go_wp2
        go_meet
        case rel => exact ⟨_, (((wrap64 ((wrap64 (t272 - t268)) - t270)) != 1)), (by first | rfl | (simp; done) | (simp [*]; done)), H', ⟨by first | omega | exact Nat.le_refl _⟩, ⟨by (with_reducible repeat (first | apply blk_drewN | apply blk_drew | apply blk_alloc)); exact BK262.out⟩, ⟨by (with_reducible repeat (first | apply blk_drewN | apply blk_drew | apply blk_alloc)); exact BK263.out⟩, ⟨by (with_reducible repeat (first | apply blk_drewN | apply blk_drew | apply blk_alloc)); exact BK267.out⟩, ⟨by repeat (first | (with_reducible first | exact HB.out | apply below_alloc | apply pw_below_drewN | apply below_drew1 | refine below_set ?_ GE262.out | refine below_set ?_ GE263.out | refine below_set ?_ GE267.out) | exact HB.out)⟩⟩
      ·rw [if_neg c38] at H
       have c38b0 : (t273 == 0) = false := beq_eq_false_iff_ne.mpr c38
       have c38b1 : (t273 != 0) = true := bne_iff_ne.mpr c38
       have H' := Aside0.mk H
       clear H
       go_wp2
       go_meet
       case rel => exact ⟨_, (true), (by first | rfl | (simp; done) | (simp [*]; done)), H', ⟨by first | omega | exact Nat.le_refl _⟩, ⟨by (with_reducible repeat (first | apply blk_drewN | apply blk_drew | apply blk_alloc)); exact BK262.out⟩, ⟨by (with_reducible repeat (first | apply blk_drewN | apply blk_drew | apply blk_alloc)); exact BK263.out⟩, ⟨by (with_reducible repeat (first | apply blk_drewN | apply blk_drew | apply blk_alloc)); exact BK267.out⟩, ⟨by repeat (first | (with_reducible first | exact HB.out | apply below_alloc | apply pw_below_drewN | apply below_drew1 | refine below_set ?_ GE262.out | refine below_set ?_ GE263.out | refine below_set ?_ GE267.out) | exact HB.out)⟩⟩
     ·rw [if_neg c37] at H
      have c37b0 : (t271 == 0) = false := beq_eq_false_iff_ne.mpr c37
      have c37b1 : (t271 != 0) = true := bne_iff_ne.mpr c37
      have H' := Aside0.mk H
      clear H
      go_wp2
      go_meet
      case rel => exact ⟨_, (true), (by first | rfl | (simp; done) | (simp [*]; done)), H', ⟨by first | omega | exact Nat.le_refl _⟩, ⟨by (with_reducible repeat (first | apply blk_drewN | apply blk_drew | apply blk_alloc)); exact BK262.out⟩, ⟨by (with_reducible repeat (first | apply blk_drewN | apply blk_drew | apply blk_alloc)); exact BK263.out⟩, ⟨by (with_reducible repeat (first | apply blk_drewN | apply blk_drew | apply blk_alloc)); exact BK267.out⟩, ⟨by repeat (first | (with_reducible first | exact HB.out | apply below_alloc | apply pw_below_drewN | apply below_drew1 | refine below_set ?_ GE262.out | refine below_set ?_ GE263.out | refine below_set ?_ GE267.out) | exact HB.out)⟩⟩
    ·rw [if_neg c36] at H
     have c36b0 : (t269 == 0) = false := beq_eq_false_iff_ne.mpr c36
     have c36b1 : (t269 != 0) = true := bne_iff_ne.mpr c36
     have H' := Aside0.mk H
     clear H
     go_wp2
     go_meet
     case rel => exact ⟨_, (true), (by first | rfl | (simp; done) | (simp [*]; done)), H', ⟨by first | omega | exact Nat.le_refl _⟩, ⟨by (with_reducible repeat (first | apply blk_drewN | apply blk_drew | apply blk_alloc)); exact BK262.out⟩, ⟨by (with_reducible repeat (first | apply blk_drewN | apply blk_drew | apply blk_alloc)); exact BK263.out⟩, ⟨by (with_reducible repeat (first | apply blk_drewN | apply blk_drew | apply blk_alloc)); exact BK267.out⟩, ⟨by repeat (first | (with_reducible first | exact HB.out | apply below_alloc | apply pw_below_drewN | apply below_drew1 | refine below_set ?_ GE262.out | refine below_set ?_ GE263.out | refine below_set ?_ GE267.out) | exact HB.out)⟩⟩
   ·rw [if_neg c35] at H
    have c35b0 : (t266 == 0) = false := beq_eq_false_iff_ne.mpr c35
    have c35b1 : (t266 != 0) = true := bne_iff_ne.mpr c35
    (first | rw [c35b0] | (simp only [i64_w, i32_w]; rw [c35b0]) | skip)
    have H' := Aside0.mk H
    clear H
    go_wp2
    go_meet
    case rel => exact ⟨_, (true), (by first | rfl | (simp; done) | (simp [*]; done)), H', ⟨by first | omega | exact Nat.le_refl _⟩, ⟨by (with_reducible repeat (first | apply blk_drewN | apply blk_drew | apply blk_alloc)); exact BK262.out⟩, ⟨by (with_reducible repeat (first | apply blk_drewN | apply blk_drew | apply blk_alloc)); exact BK263.out⟩, ⟨by (with_reducible repeat (first | apply blk_drewN | apply blk_drew | apply blk_alloc)); exact BK267.out⟩, ⟨by repeat (first | (with_reducible first | exact HB.out | apply below_alloc | apply pw_below_drewN | apply below_drew1 | refine below_set ?_ GE262.out | refine below_set ?_ GE263.out | refine below_set ?_ GE267.out) | exact HB.out)⟩⟩
  case rest =>
   clear HC15
   try clear c1
   try clear c2
   try clear p2
   try clear c3
   try clear p6
   try clear c7
   try clear c8
   try clear c10
   try clear c15
   try clear c16
   try clear c21
   try clear c23
   try clear c26
   try clear c27
   try clear c35
   try clear c35b0
   try clear c35b1
   try clear c36
   try clear c36b0
   try clear c36b1
   try clear c37
   try clear c37b0
   try clear c37b1
   try clear c38
   try clear c38b0
   try clear c38b1
   try clear c39
   try clear c39b0
   try clear c39b1
   try clear hcz22_0
   try clear hcz22_1
   try clear hcz23_0
   try clear hcz23_1
   try clear hcz28_0
   try clear hcz28_1
   try clear hcz29_0
   try clear hcz29_1
   try clear hcz31_0
   try clear hcz31_1
   try clear hcz33_0
   try clear hcz33_1
   try clear hfz22_0
   try clear hfz22_1
   try clear hfz23_0
   try clear hfz23_1
   try clear hfz28_0
   try clear hfz28_1
   try clear hfz29_0
   try clear hfz29_1
   try clear hfz31_0
   try clear hfz31_1
   try clear hfz33_0
   try clear hfz33_1
   obtain ⟨kq, x98_14, rfl, HA, HJ14, BK262, BK263, BK267, HB⟩ := hcut
   cases kq with
   | zero => exact absurd HA.out (by simp [soundservicelaw03_RatioChains.j0])
   | succ kj14 =>
    have H := HA.out
    clear HA
    simp only [soundservicelaw03_RatioChains.j0] at H
    by_cases c40 : x98_14 = true
    ·subst c40
     have H1 : (some false) = some r := by rw [if_pos rfl] at H; exact H
     clear H
     have H := H1
     clear H1
     obtain rfl := Option.some.inj H
     go_wp2
     go_ret
     exact ⟨by first | rfl | (simp [errW_none, errW_some] <;> rfl) | (simp [*, errW_none, errW_some] <;> rfl), by repeat (first | (with_reducible first | exact HB.out | apply below_alloc | apply pw_below_drewN | apply below_drew1 | refine below_set ?_ GE262.out | refine below_set ?_ GE263.out | refine below_set ?_ GE267.out) | exact HB.out)⟩
    ·replace c40 := Bool.eq_false_iff.mpr c40
     subst c40
     have H1 : ((ratio_Floor.f kj14 t268 t260 t261).bind fun bt274 => ((ratio_Floor.f kj14 (wrap64 (a0)) t264 t265).bind fun bt276 => (if bt274.2 = 0 then (if bt276.2 = 0 then (some (decide (bt274.1 ≤ bt276.1))) else (some true)) else (some true)))) = some r := by rw [if_neg (show ¬ (false = true) by decide)] at H; exact H
     clear H
     have H := H1
     clear H1
     replace H := Option.bind_eq_some_iff.mp H
     obtain ⟨⟨t274, t275⟩, A410, H⟩ := H
     replace H : ((ratio_Floor.f kj14 (wrap64 (a0)) t264 t265).bind fun bt276 => (if t275 = 0 then (if bt276.2 = 0 then (some (decide (t274 ≤ bt276.1))) else (some true)) else (some true))) = some r := H
     have A41 := Aside0.mk A410
     clear A410
     replace H := Option.bind_eq_some_iff.mp H
     obtain ⟨⟨t276, t277⟩, A420, H⟩ := H
     replace H : (if t275 = 0 then (if t277 = 0 then (some (decide (t274 ≤ t276))) else (some true)) else (some true)) = some r := H
     have A42 := Aside0.mk A420
     clear A420
     by_cases c43 : t275 = 0
     ·rw [if_pos c43] at H
      have c43b0 : (t275 == 0) = true := beq_iff_eq.mpr c43
      have c43b1 : (t275 != 0) = false := bne_eq_false_iff_eq.mpr c43
      clear c43
      by_cases c44 : t277 = 0
      ·rw [if_pos c44] at H
       have c44b0 : (t277 == 0) = true := beq_iff_eq.mpr c44
       have c44b1 : (t277 != 0) = false := bne_eq_false_iff_eq.mpr c44
       clear c44
       obtain rfl := Option.some.inj H
       have hnb45 := NB263_262.out
       have hnc45 := NB262_263.out
       have hnb46 := NB263_267.out
       have hnc46 := NB267_263.out
       have hcz47_0 : wc.cell? ⟨gb263, 0, none⟩ = some (.int .i64 t260) := (blk_cell BK263.out 0).trans rfl
       have hcz47_1 : wc.cell? ⟨gb263, 1, none⟩ = some (.int .i64 t261) := (blk_cell BK263.out 1).trans rfl
       have hfz47_0 := blk_frozen BK263.out 0
       have hfz47_1 := blk_frozen BK263.out 1
       go_wp2_with (first | ((with_reducible refine gate_callee (f := 16) rfl ?_); refine goesL_ (some 102) rfl rfl Try.func16 (by kernel_rfl) rfl #[.int .i64 t268, .agg #[.int .i64 t260, .int .i64 t261]] rfl (by (try simp only [List.map_toArray, List.map_cons, List.map_nil]); first | done | rfl | (simp only [List.length_drop, List.length_take]; rfl)) ?_; (with_reducible refine (ratio_Floor.calls kj14 t268 t260 t261 t274 t275 _ A41.out).mono ?_); rintro e w48 ⟨rfl, hb⟩; refine ⟨_, rfl, ?_⟩; have n0_ := Aside0.mk (blk_below (g := gb262) (o := .cells #[.int .i64 t258, .int .i64 t259] 23 (0, 0)) (by (with_reducible repeat (first | apply blk_drewN | apply blk_drew | apply blk_alloc)); exact BK262.out) hb); have n1_ := Aside0.mk (blk_below (g := gb263) (o := .cells #[.int .i64 t260, .int .i64 t261] 23 (0, 0)) (by (with_reducible repeat (first | apply blk_drewN | apply blk_drew | apply blk_alloc)); exact BK263.out) hb); have n2_ := Aside0.mk (blk_below (g := gb267) (o := .cells #[.int .i64 t264, .int .i64 t265] 23 (0, 0)) (by (with_reducible repeat (first | apply blk_drewN | apply blk_drew | apply blk_alloc)); exact BK267.out) hb); have n3_ := Aside0.mk (below_step (by repeat (first | (with_reducible first | exact HB.out | apply below_alloc | apply pw_below_drewN | apply below_drew1 | refine below_set ?_ GE262.out | refine below_set ?_ GE263.out | refine below_set ?_ GE267.out) | exact HB.out)) hb); clear BK262; clear BK263; clear BK267; clear HB; have BK262 := n0_; have BK263 := n1_; have BK267 := n2_; have HB := n3_; clear n0_ n1_ n2_ n3_; (try clear hb); (try clear hb2); (try clear hk); (try clear hi); have hnb49 := NB267_262.out; have hnc49 := NB262_267.out; have hcz50_0 : w48.cell? ⟨gb267, 0, none⟩ = some (.int .i64 t264) := (blk_cell BK267.out 0).trans rfl; have hcz50_1 : w48.cell? ⟨gb267, 1, none⟩ = some (.int .i64 t265) := (blk_cell BK267.out 1).trans rfl; have hfz50_0 := blk_frozen BK267.out 0; have hfz50_1 := blk_frozen BK267.out 1) | ((with_reducible refine gate_callee (f := 16) rfl ?_); refine goesL_ (some 109) rfl rfl Try.func16 (by kernel_rfl) rfl #[.int .i64 (wrap64 (a0)), .agg #[.int .i64 t264, .int .i64 t265]] rfl (by (try simp only [List.map_toArray, List.map_cons, List.map_nil]); first | done | rfl | (simp only [List.length_drop, List.length_take]; rfl)) ?_; (with_reducible refine (ratio_Floor.calls kj14 (wrap64 (a0)) t264 t265 t276 t277 _ A42.out).mono ?_); rintro e w51 ⟨rfl, hb⟩; refine ⟨_, rfl, ?_⟩; have n0_ := Aside0.mk (blk_below (g := gb262) (o := .cells #[.int .i64 t258, .int .i64 t259] 23 (0, 0)) (by (with_reducible repeat (first | apply blk_drewN | apply blk_drew | apply blk_alloc)); exact BK262.out) hb); have n1_ := Aside0.mk (blk_below (g := gb263) (o := .cells #[.int .i64 t260, .int .i64 t261] 23 (0, 0)) (by (with_reducible repeat (first | apply blk_drewN | apply blk_drew | apply blk_alloc)); exact BK263.out) hb); have n2_ := Aside0.mk (blk_below (g := gb267) (o := .cells #[.int .i64 t264, .int .i64 t265] 23 (0, 0)) (by (with_reducible repeat (first | apply blk_drewN | apply blk_drew | apply blk_alloc)); exact BK267.out) hb); have n3_ := Aside0.mk (below_step (by repeat (first | (with_reducible first | exact HB.out | apply below_alloc | apply pw_below_drewN | apply below_drew1 | refine below_set ?_ GE262.out | refine below_set ?_ GE263.out | refine below_set ?_ GE267.out) | exact HB.out)) hb); clear BK262; clear BK263; clear BK267; clear HB; have BK262 := n0_; have BK263 := n1_; have BK267 := n2_; have HB := n3_; clear n0_ n1_ n2_ n3_; (try clear hb); (try clear hb2); (try clear hk); (try clear hi)))
       go_ret
       exact ⟨by first | rfl | (simp [errW_none, errW_some] <;> rfl) | (simp [*, errW_none, errW_some] <;> rfl), by repeat (first | (with_reducible first | exact HB.out | apply below_alloc | apply pw_below_drewN | apply below_drew1 | refine below_set ?_ GE262.out | refine below_set ?_ GE263.out | refine below_set ?_ GE267.out) | exact HB.out)⟩
      ·rw [if_neg c44] at H
       have c44b0 : (t277 == 0) = false := beq_eq_false_iff_ne.mpr c44
       have c44b1 : (t277 != 0) = true := bne_iff_ne.mpr c44
       obtain rfl := Option.some.inj H
       have hnb52 := NB263_262.out
       have hnc52 := NB262_263.out
       have hnb53 := NB263_267.out
       have hnc53 := NB267_263.out
       have hcz54_0 : wc.cell? ⟨gb263, 0, none⟩ = some (.int .i64 t260) := (blk_cell BK263.out 0).trans rfl
       have hcz54_1 : wc.cell? ⟨gb263, 1, none⟩ = some (.int .i64 t261) := (blk_cell BK263.out 1).trans rfl
       have hfz54_0 := blk_frozen BK263.out 0
       have hfz54_1 := blk_frozen BK263.out 1
       go_wp2_with (first | ((with_reducible refine gate_callee (f := 16) rfl ?_); refine goesL_ (some 102) rfl rfl Try.func16 (by kernel_rfl) rfl #[.int .i64 t268, .agg #[.int .i64 t260, .int .i64 t261]] rfl (by (try simp only [List.map_toArray, List.map_cons, List.map_nil]); first | done | rfl | (simp only [List.length_drop, List.length_take]; rfl)) ?_; (with_reducible refine (ratio_Floor.calls kj14 t268 t260 t261 t274 t275 _ A41.out).mono ?_); rintro e w55 ⟨rfl, hb⟩; refine ⟨_, rfl, ?_⟩; have n0_ := Aside0.mk (blk_below (g := gb262) (o := .cells #[.int .i64 t258, .int .i64 t259] 23 (0, 0)) (by (with_reducible repeat (first | apply blk_drewN | apply blk_drew | apply blk_alloc)); exact BK262.out) hb); have n1_ := Aside0.mk (blk_below (g := gb263) (o := .cells #[.int .i64 t260, .int .i64 t261] 23 (0, 0)) (by (with_reducible repeat (first | apply blk_drewN | apply blk_drew | apply blk_alloc)); exact BK263.out) hb); have n2_ := Aside0.mk (blk_below (g := gb267) (o := .cells #[.int .i64 t264, .int .i64 t265] 23 (0, 0)) (by (with_reducible repeat (first | apply blk_drewN | apply blk_drew | apply blk_alloc)); exact BK267.out) hb); have n3_ := Aside0.mk (below_step (by repeat (first | (with_reducible first | exact HB.out | apply below_alloc | apply pw_below_drewN | apply below_drew1 | refine below_set ?_ GE262.out | refine below_set ?_ GE263.out | refine below_set ?_ GE267.out) | exact HB.out)) hb); clear BK262; clear BK263; clear BK267; clear HB; have BK262 := n0_; have BK263 := n1_; have BK267 := n2_; have HB := n3_; clear n0_ n1_ n2_ n3_; (try clear hb); (try clear hb2); (try clear hk); (try clear hi); have hnb56 := NB267_262.out; have hnc56 := NB262_267.out; have hcz57_0 : w55.cell? ⟨gb267, 0, none⟩ = some (.int .i64 t264) := (blk_cell BK267.out 0).trans rfl; have hcz57_1 : w55.cell? ⟨gb267, 1, none⟩ = some (.int .i64 t265) := (blk_cell BK267.out 1).trans rfl; have hfz57_0 := blk_frozen BK267.out 0; have hfz57_1 := blk_frozen BK267.out 1) | ((with_reducible refine gate_callee (f := 16) rfl ?_); refine goesL_ (some 109) rfl rfl Try.func16 (by kernel_rfl) rfl #[.int .i64 (wrap64 (a0)), .agg #[.int .i64 t264, .int .i64 t265]] rfl (by (try simp only [List.map_toArray, List.map_cons, List.map_nil]); first | done | rfl | (simp only [List.length_drop, List.length_take]; rfl)) ?_; (with_reducible refine (ratio_Floor.calls kj14 (wrap64 (a0)) t264 t265 t276 t277 _ A42.out).mono ?_); rintro e w58 ⟨rfl, hb⟩; refine ⟨_, rfl, ?_⟩; have n0_ := Aside0.mk (blk_below (g := gb262) (o := .cells #[.int .i64 t258, .int .i64 t259] 23 (0, 0)) (by (with_reducible repeat (first | apply blk_drewN | apply blk_drew | apply blk_alloc)); exact BK262.out) hb); have n1_ := Aside0.mk (blk_below (g := gb263) (o := .cells #[.int .i64 t260, .int .i64 t261] 23 (0, 0)) (by (with_reducible repeat (first | apply blk_drewN | apply blk_drew | apply blk_alloc)); exact BK263.out) hb); have n2_ := Aside0.mk (blk_below (g := gb267) (o := .cells #[.int .i64 t264, .int .i64 t265] 23 (0, 0)) (by (with_reducible repeat (first | apply blk_drewN | apply blk_drew | apply blk_alloc)); exact BK267.out) hb); have n3_ := Aside0.mk (below_step (by repeat (first | (with_reducible first | exact HB.out | apply below_alloc | apply pw_below_drewN | apply below_drew1 | refine below_set ?_ GE262.out | refine below_set ?_ GE263.out | refine below_set ?_ GE267.out) | exact HB.out)) hb); clear BK262; clear BK263; clear BK267; clear HB; have BK262 := n0_; have BK263 := n1_; have BK267 := n2_; have HB := n3_; clear n0_ n1_ n2_ n3_; (try clear hb); (try clear hb2); (try clear hk); (try clear hi)))
       go_ret
       exact ⟨by first | rfl | (simp [errW_none, errW_some] <;> rfl) | (simp [*, errW_none, errW_some] <;> rfl), by repeat (first | (with_reducible first | exact HB.out | apply below_alloc | apply pw_below_drewN | apply below_drew1 | refine below_set ?_ GE262.out | refine below_set ?_ GE263.out | refine below_set ?_ GE267.out) | exact HB.out)⟩
     ·rw [if_neg c43] at H
      have c43b0 : (t275 == 0) = false := beq_eq_false_iff_ne.mpr c43
      have c43b1 : (t275 != 0) = true := bne_iff_ne.mpr c43
      obtain rfl := Option.some.inj H
      have hnb59 := NB263_262.out
      have hnc59 := NB262_263.out
      have hnb60 := NB263_267.out
      have hnc60 := NB267_263.out
      have hcz61_0 : wc.cell? ⟨gb263, 0, none⟩ = some (.int .i64 t260) := (blk_cell BK263.out 0).trans rfl
      have hcz61_1 : wc.cell? ⟨gb263, 1, none⟩ = some (.int .i64 t261) := (blk_cell BK263.out 1).trans rfl
      have hfz61_0 := blk_frozen BK263.out 0
      have hfz61_1 := blk_frozen BK263.out 1
      go_wp2_with (first | ((with_reducible refine gate_callee (f := 16) rfl ?_); refine goesL_ (some 102) rfl rfl Try.func16 (by kernel_rfl) rfl #[.int .i64 t268, .agg #[.int .i64 t260, .int .i64 t261]] rfl (by (try simp only [List.map_toArray, List.map_cons, List.map_nil]); first | done | rfl | (simp only [List.length_drop, List.length_take]; rfl)) ?_; (with_reducible refine (ratio_Floor.calls kj14 t268 t260 t261 t274 t275 _ A41.out).mono ?_); rintro e w62 ⟨rfl, hb⟩; refine ⟨_, rfl, ?_⟩; have n0_ := Aside0.mk (blk_below (g := gb262) (o := .cells #[.int .i64 t258, .int .i64 t259] 23 (0, 0)) (by (with_reducible repeat (first | apply blk_drewN | apply blk_drew | apply blk_alloc)); exact BK262.out) hb); have n1_ := Aside0.mk (blk_below (g := gb263) (o := .cells #[.int .i64 t260, .int .i64 t261] 23 (0, 0)) (by (with_reducible repeat (first | apply blk_drewN | apply blk_drew | apply blk_alloc)); exact BK263.out) hb); have n2_ := Aside0.mk (blk_below (g := gb267) (o := .cells #[.int .i64 t264, .int .i64 t265] 23 (0, 0)) (by (with_reducible repeat (first | apply blk_drewN | apply blk_drew | apply blk_alloc)); exact BK267.out) hb); have n3_ := Aside0.mk (below_step (by repeat (first | (with_reducible first | exact HB.out | apply below_alloc | apply pw_below_drewN | apply below_drew1 | refine below_set ?_ GE262.out | refine below_set ?_ GE263.out | refine below_set ?_ GE267.out) | exact HB.out)) hb); clear BK262; clear BK263; clear BK267; clear HB; have BK262 := n0_; have BK263 := n1_; have BK267 := n2_; have HB := n3_; clear n0_ n1_ n2_ n3_; (try clear hb); (try clear hb2); (try clear hk); (try clear hi); have hnb63 := NB267_262.out; have hnc63 := NB262_267.out; have hcz64_0 : w62.cell? ⟨gb267, 0, none⟩ = some (.int .i64 t264) := (blk_cell BK267.out 0).trans rfl; have hcz64_1 : w62.cell? ⟨gb267, 1, none⟩ = some (.int .i64 t265) := (blk_cell BK267.out 1).trans rfl; have hfz64_0 := blk_frozen BK267.out 0; have hfz64_1 := blk_frozen BK267.out 1) | ((with_reducible refine gate_callee (f := 16) rfl ?_); refine goesL_ (some 109) rfl rfl Try.func16 (by kernel_rfl) rfl #[.int .i64 (wrap64 (a0)), .agg #[.int .i64 t264, .int .i64 t265]] rfl (by (try simp only [List.map_toArray, List.map_cons, List.map_nil]); first | done | rfl | (simp only [List.length_drop, List.length_take]; rfl)) ?_; (with_reducible refine (ratio_Floor.calls kj14 (wrap64 (a0)) t264 t265 t276 t277 _ A42.out).mono ?_); rintro e w65 ⟨rfl, hb⟩; refine ⟨_, rfl, ?_⟩; have n0_ := Aside0.mk (blk_below (g := gb262) (o := .cells #[.int .i64 t258, .int .i64 t259] 23 (0, 0)) (by (with_reducible repeat (first | apply blk_drewN | apply blk_drew | apply blk_alloc)); exact BK262.out) hb); have n1_ := Aside0.mk (blk_below (g := gb263) (o := .cells #[.int .i64 t260, .int .i64 t261] 23 (0, 0)) (by (with_reducible repeat (first | apply blk_drewN | apply blk_drew | apply blk_alloc)); exact BK263.out) hb); have n2_ := Aside0.mk (blk_below (g := gb267) (o := .cells #[.int .i64 t264, .int .i64 t265] 23 (0, 0)) (by (with_reducible repeat (first | apply blk_drewN | apply blk_drew | apply blk_alloc)); exact BK267.out) hb); have n3_ := Aside0.mk (below_step (by repeat (first | (with_reducible first | exact HB.out | apply below_alloc | apply pw_below_drewN | apply below_drew1 | refine below_set ?_ GE262.out | refine below_set ?_ GE263.out | refine below_set ?_ GE267.out) | exact HB.out)) hb); clear BK262; clear BK263; clear BK267; clear HB; have BK262 := n0_; have BK263 := n1_; have BK267 := n2_; have HB := n3_; clear n0_ n1_ n2_ n3_; (try clear hb); (try clear hb2); (try clear hk); (try clear hi)))
      go_ret
      exact ⟨by first | rfl | (simp [errW_none, errW_some] <;> rfl) | (simp [*, errW_none, errW_some] <;> rfl), by repeat (first | (with_reducible first | exact HB.out | apply below_alloc | apply pw_below_drewN | apply below_drew1 | refine below_set ?_ GE262.out | refine below_set ?_ GE263.out | refine below_set ?_ GE267.out) | exact HB.out)⟩
 ·replace c8 := Bool.eq_false_iff.mpr c8
  subst c8
  have H1 : (some false) = some r := by rw [if_neg (show ¬ (false = true) by decide)] at H; exact H
  clear H
  have H := H1
  clear H1
  obtain rfl := Option.some.inj H
  go_enter Try.func7, Try.ntmps7
  go_wp2_with (first | ((with_reducible refine gate_callee (f := 10) rfl ?_); refine goesL_ (some 27) rfl rfl Try.func10 (by kernel_rfl) rfl #[] rfl (by (try simp only [List.map_toArray, List.map_cons, List.map_nil]); first | done | rfl | (simp only [List.length_drop, List.length_take]; rfl)) ?_; (with_reducible refine (soundservicelaw03_sane.calls k  false _ A7.out).mono ?_); rintro e w66 ⟨rfl, hb⟩; refine ⟨_, rfl, ?_⟩; have n0_ := Aside0.mk (below_step (by repeat (first | (with_reducible first | exact HB.out | apply below_alloc | apply pw_below_drewN | apply below_drew1) | exact HB.out)) hb); clear HB; have HB := n0_; clear n0_; (try clear hb); (try clear hb2); (try clear hk); (try clear hi)))
  go_ret
  exact ⟨by first | rfl | (simp [errW_none, errW_some] <;> rfl) | (simp [*, errW_none, errW_some] <;> rfl), by repeat (first | (with_reducible first | exact HB.out | apply below_alloc | apply pw_below_drewN | apply below_drew1) | exact HB.out)⟩

/-- THE ONE PURE STATEMENT of soundservicelaw03_RatioChains: yours. -/
def soundservicelaw03_RatioChains.Pure : Prop := ∀ (a0 : Int) (a1 : Int) (a2 : Int) (a3 : Int) (a4 : Int) (a5 : Int), (Lit.int .u32 a0).wf = true → (Lit.int .u32 a1).wf = true → (Lit.int .i64 a2).wf = true → (Lit.int .i64 a3).wf = true → (Lit.int .i64 a4).wf = true → (Lit.int .i64 a5).wf = true → ∃ k, soundservicelaw03_RatioChains.f k a0 a1 a2 a3 a4 a5 = some true
theorem soundservicelaw03_RatioChains.walk (P : soundservicelaw03_RatioChains.Pure) (a0 : Int) (a1 : Int) (a2 : Int) (a3 : Int) (a4 : Int) (a5 : Int) (w : World) (w0 : (Lit.int .u32 a0).wf = true) (w1 : (Lit.int .u32 a1).wf = true) (w2 : (Lit.int .i64 a2).wf = true) (w3 : (Lit.int .i64 a3).wf = true) (w4 : (Lit.int .i64 a4).wf = true) (w5 : (Lit.int .i64 a5).wf = true) :
  Calls Try.prog 7 #[.int .u32 a0, .int .u32 a1, .int .i64 a2, .int .i64 a3, .int .i64 a4, .int .i64 a5] w fun e w' => e = .returned (.bool true) ∧ Below w.heap.size w w' := by
 obtain ⟨k, h⟩ := P a0 a1 a2 a3 a4 a5 w0 w1 w2 w3 w4 w5
 refine (soundservicelaw03_RatioChains.calls k a0 a1 a2 a3 a4 a5 true w h).mono ?_
 rintro e w' ⟨rfl, hd⟩
 exact ⟨rfl, hd⟩

end Go.Proofs.Ytoolpnpmfagngaa.PA
