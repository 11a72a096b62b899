/- Walks of functions of the program: each does what its Lean function says. Written by a program of this session (wip/xprint), which runs the printer of the kit with changes. -/
import Derived.Test.YtcnheiemajghiaaPAx0
import Derived.Test.YtcnheiemajghiaaPAx1
import Derived.Test.YtcnheiemajghiaaPAx2
import Derived.Test.YtcnheiemajghiaaPAx3
import Derived.Test.YtcnheiemajghiaaPAx4
import Derived.Test.YtcnheiemajghiaaPAx8
import Derived.Test.YtcnheiemajghiaaPAx10
import Derived.Test.YtcnheiemajghiaaPAx11
import Derived.Test.YtcnheiemajghiaaPAx14
import Derived.Test.YtcnheiemajghiaaPAx15
import Derived.Test.YtcnheiemajghiaaPAx16
import Derived.Test.YtcnheiemajghiaaPAx17
namespace Go.Proofs.Ytcnheiemajghiaa.PA
open Go.RowKit Go.Proofs.YtcnheiemajghiaaW.PrintWords Go.Proofs.YtcnheiemajghiaaW.PrintLast Go.Proofs.YtcnheiemajghiaaW.PrintMore
attribute [local go_sem] max2_int min2_int max_two min_two max_three min_three max_four min_four   -- for this text's walks alone
set_option linter.unusedVariables false
set_option linter.unusedSimpArgs false

attribute [local go_sem high] eqA23
/-! ### soundservicelaw18_ControlBounds: function 6 -/
set_option maxHeartbeats 8000000 in
set_option maxRecDepth 100000 in
theorem soundservicelaw18_ControlBounds.calls (k : Nat) (a0_0 : Int) (a0_1 : Int) (a0_2 : Int) (a0_3 : Int) (a1_0 : Int) (a1_1 : Int) (A2 : Option Addr) (c2 : Nat) (l2 : List Int) (a3 : Int) (a4 : Int) (a5 : Int) (a6 : Int) (a7 : Int) (r : Bool) (w : World) (hr2 : Kd.C (Kd.int .u8) w A2 l2.length l2) (hc2 : l2.length ≤ c2) (h : soundservicelaw18_ControlBounds.f k a0_0 a0_1 a0_2 a0_3 a1_0 a1_1 l2 a3 a4 a5 a6 a7 = some r) :
  Calls Try.prog 6 #[.agg #[.int .i64 a0_0, .int .i64 a0_1, .int .i64 a0_2, .int .i64 a0_3], .agg #[.int .i64 a1_0, .int .i64 a1_1], .slice A2 l2.length c2, .int .i64 a3, .int .i64 a4, .int .i64 a5, .int .i64 a6, .int .i64 a7] w fun e w' => e = .returned (.bool r) ∧ Below w.heap.size w w' := by
 have hu23 := Try.underlying23
 have hu27 := Try.underlying27
 have hu44 := Try.underlying44
 have HR2 := Aside0.mk hr2
 have HC2 := Aside0.mk hc2
 clear hr2 hc2
 have HB := Aside0.mk (Below.refl w.heap.size w)
 have H : ((soundservicelaw18_sane.f).bind fun t309 => (if t309 = true then ((soundservicemade_New.f l2).bind fun t310 => ((soundservicelaw18_made.f t310).bind fun bt312 => ((some (([(⟨a0_0, a0_1, a0_2, a0_3⟩ : S23), (⟨bt312.1, bt312.2.1, bt312.2.2.1, bt312.2.2.2.1⟩ : S23)] : List (S23)) : List (S23))).bind fun y323 => (soundservicelaw18_ControlBounds.l0 k a3 a4 a5 a6 a7 bt312.2.2.2.2.2.2.1 bt312.2.2.2.2.2.2.2.1 y323 (y323.length : Int) 0 a1_0 a1_1 bt312.2.2.2.2.1 bt312.2.2.2.2.2.1)))) else (some false))) = some r := h
 clear h
 replace H := Option.bind_eq_some_iff.mp H
 obtain ⟨t309, A90, H⟩ := H
 replace H : (if t309 = true then ((soundservicemade_New.f l2).bind fun t310 => ((soundservicelaw18_made.f t310).bind fun bt312 => ((some (([(⟨a0_0, a0_1, a0_2, a0_3⟩ : S23), (⟨bt312.1, bt312.2.1, bt312.2.2.1, bt312.2.2.2.1⟩ : S23)] : List (S23)) : List (S23))).bind fun y323 => (soundservicelaw18_ControlBounds.l0 k a3 a4 a5 a6 a7 bt312.2.2.2.2.2.2.1 bt312.2.2.2.2.2.2.2.1 y323 (y323.length : Int) 0 a1_0 a1_1 bt312.2.2.2.2.1 bt312.2.2.2.2.2.1)))) else (some false)) = some r := H
 have A9 := Aside0.mk A90
 clear A90
 by_cases c10 : t309 = true
 ·subst c10
  have H1 : ((soundservicemade_New.f l2).bind fun t310 => ((soundservicelaw18_made.f t310).bind fun bt312 => ((some (([(⟨a0_0, a0_1, a0_2, a0_3⟩ : S23), (⟨bt312.1, bt312.2.1, bt312.2.2.1, bt312.2.2.2.1⟩ : S23)] : List (S23)) : List (S23))).bind fun y323 => (soundservicelaw18_ControlBounds.l0 k a3 a4 a5 a6 a7 bt312.2.2.2.2.2.2.1 bt312.2.2.2.2.2.2.2.1 y323 (y323.length : Int) 0 a1_0 a1_1 bt312.2.2.2.2.1 bt312.2.2.2.2.2.1)))) = some r := by rw [if_pos rfl] at H; exact H
  clear H
  have H := H1
  clear H1
  replace H := Option.bind_eq_some_iff.mp H
  obtain ⟨t310, A110, H⟩ := H
  replace H : ((soundservicelaw18_made.f t310).bind fun bt312 => ((some (([(⟨a0_0, a0_1, a0_2, a0_3⟩ : S23), (⟨bt312.1, bt312.2.1, bt312.2.2.1, bt312.2.2.2.1⟩ : S23)] : List (S23)) : List (S23))).bind fun y323 => (soundservicelaw18_ControlBounds.l0 k a3 a4 a5 a6 a7 bt312.2.2.2.2.2.2.1 bt312.2.2.2.2.2.2.2.1 y323 (y323.length : Int) 0 a1_0 a1_1 bt312.2.2.2.2.1 bt312.2.2.2.2.2.1))) = some r := H
  have A11 := Aside0.mk A110
  clear A110
  replace H := Option.bind_eq_some_iff.mp H
  obtain ⟨⟨t312, t313, t314, t315, t316, t317, t318, t319, t320⟩, A120, H⟩ := H
  replace H : ((some (([(⟨a0_0, a0_1, a0_2, a0_3⟩ : S23), (⟨t312, t313, t314, t315⟩ : S23)] : List (S23)) : List (S23))).bind fun y323 => (soundservicelaw18_ControlBounds.l0 k a3 a4 a5 a6 a7 t318 t319 y323 (y323.length : Int) 0 a1_0 a1_1 t316 t317)) = some r := H
  have A12 := Aside0.mk A120
  clear A120
  obtain ⟨y323, hy323⟩ : ∃ y_ : List (S23), y_ = (([(⟨a0_0, a0_1, a0_2, a0_3⟩ : S23), (⟨t312, t313, t314, t315⟩ : S23)] : List (S23))) := ⟨_, rfl⟩
  replace H : (soundservicelaw18_ControlBounds.l0 k a3 a4 a5 a6 a7 t318 t319 y323 (y323.length : Int) 0 a1_0 a1_1 t316 t317) = some r := by first | (rw [hy323]; with_reducible exact H) | (have H2_ := (Option.bind_some _ _).symm.trans H; rw [hy323]; with_reducible exact H2_) | (have H2_ := (Option.bind_some _ _).symm.trans H; with_reducible exact H2_) | with_reducible exact H | (rw [hy323]; exact H) | exact H
  have Ny323 := Aside0.mk hy323
  clear hy323
  have H' := Aside0.mk H
  clear H
  go_enter Try.func6, Try.ntmps6
  go_wp2_with (first | ((with_reducible refine gate_dst (N := 8) rfl ?_); refine box_event ?hg (N := 8) ?hd (cs := #[.int .i64 a0_0, .int .i64 a0_1, .int .i64 a0_2, .int .i64 a0_3]) (t := 23) ?hr ?_; (case hd => rfl); (case hg => rfl); (case hr => first | (go_simp; done) | (go_simp; rfl)); intro gb307 hg w13 hbox hb; have n0_ := Aside0.mk (below_step (by repeat (first | (with_reducible first | exact HB.out | apply below_alloc | apply pw_below_drewN | apply below_drew1) | exact HB.out)) hb); have n1_ := Aside0.mk (hbox); have n2_ := Aside0.mk ((by rw [hg]; exact (below_size (by repeat (first | (with_reducible first | exact HB.out | apply below_alloc | apply pw_below_drewN | apply below_drew1) | exact HB.out))) : w.heap.size ≤ gb307)); have n3_ := Aside0.mk ((by rw [hg]; exact (below_size (by repeat (first | (with_reducible first | exact HB.out | apply below_alloc | apply pw_below_drewN | apply below_drew1) | exact HB.out))) : w.heap.size ≤ gb307)); clear HB; have HB := n0_; have BK307 := n1_; have GW307 := n2_; have GE307 := n3_; clear n0_ n1_ n2_ n3_; clear hb hbox hg) | ((with_reducible refine gate_dst (N := 9) rfl ?_); refine box_event ?hg (N := 9) ?hd (cs := #[.int .i64 a1_0, .int .i64 a1_1]) (t := 27) ?hr ?_; (case hd => rfl); (case hg => rfl); (case hr => first | (go_simp; done) | (go_simp; rfl)); intro gb308 hg w14 hbox hb; have n0_ := Aside0.mk (blk_below (g := gb307) (o := .cells #[.int .i64 a0_0, .int .i64 a0_1, .int .i64 a0_2, .int .i64 a0_3] 23 (0, 0)) (by (with_reducible repeat (first | apply blk_drewN | apply blk_drew | apply blk_alloc)); exact BK307.out) hb); have n1_ := Aside0.mk (below_step (by repeat (first | (with_reducible first | exact HB.out | apply below_alloc | apply pw_below_drewN | apply below_drew1 | refine below_set ?_ GE307.out) | exact HB.out)) hb); have n2_ := Aside0.mk (hbox); have n3_ := Aside0.mk ((by rw [hg]; exact (below_size (by repeat (first | (with_reducible first | exact HB.out | apply below_alloc | apply pw_below_drewN | apply below_drew1 | refine below_set ?_ GE307.out) | exact HB.out))) : w.heap.size ≤ gb308)); have n4_ := Aside0.mk ((by rw [hg]; exact (below_size (by repeat (first | (with_reducible first | exact HB.out | apply below_alloc | apply pw_below_drewN | apply below_drew1 | refine below_set ?_ GE307.out) | exact HB.out))) : w.heap.size ≤ gb308)); have n5_ := Aside0.mk ((by rw [hg]; exact Nat.ne_of_lt (blk_lt (g := gb307) (o := .cells #[.int .i64 a0_0, .int .i64 a0_1, .int .i64 a0_2, .int .i64 a0_3] 23 (0, 0)) (by (with_reducible repeat (first | apply blk_drewN | apply blk_drew | apply blk_alloc)); exact BK307.out)) : gb307 ≠ gb308)); have n6_ := Aside0.mk ((by rw [hg]; exact Nat.ne_of_gt (blk_lt (g := gb307) (o := .cells #[.int .i64 a0_0, .int .i64 a0_1, .int .i64 a0_2, .int .i64 a0_3] 23 (0, 0)) (by (with_reducible repeat (first | apply blk_drewN | apply blk_drew | apply blk_alloc)); exact BK307.out)) : gb308 ≠ gb307)); clear BK307; clear HB; have BK307 := n0_; have HB := n1_; have BK308 := n2_; have GW308 := n3_; have GE308 := n4_; have NB307_308 := n5_; have NB308_307 := n6_; clear n0_ n1_ n2_ n3_ n4_ n5_ n6_; clear hb hbox hg) | ((with_reducible refine gate_callee (f := 10) rfl ?_); refine goesL_ (some 41) rfl rfl Try.func10 (by kernel_rfl) rfl #[] rfl (by (try simp only [List.map_toArray, List.map_cons, List.map_nil]); first | done | rfl | (simp only [List.length_drop, List.length_take]; rfl)) ?_; (with_reducible refine (soundservicelaw18_sane.calls  true _ A9.out).mono ?_); rintro e w15 ⟨rfl, hb⟩; refine ⟨_, rfl, ?_⟩; have n0_ := Aside0.mk (blk_below (g := gb307) (o := .cells #[.int .i64 a0_0, .int .i64 a0_1, .int .i64 a0_2, .int .i64 a0_3] 23 (0, 0)) (by (with_reducible repeat (first | apply blk_drewN | apply blk_drew | apply blk_alloc)); exact BK307.out) hb); have n1_ := Aside0.mk (blk_below (g := gb308) (o := .cells #[.int .i64 a1_0, .int .i64 a1_1] 27 (0, 0)) (by (with_reducible repeat (first | apply blk_drewN | apply blk_drew | apply blk_alloc)); exact BK308.out) hb); have n2_ := Aside0.mk (below_step (by repeat (first | (with_reducible first | exact HB.out | apply below_alloc | apply pw_below_drewN | apply below_drew1 | refine below_set ?_ GE307.out | refine below_set ?_ GE308.out) | exact HB.out)) hb); clear BK307; clear BK308; clear HB; have BK307 := n0_; have BK308 := n1_; have HB := n2_; clear n0_ n1_ n2_; (try clear hb); (try clear hb2); (try clear hk); (try clear hi)) | ((with_reducible refine gate_callee (f := 12) rfl ?_); refine goesL_ (some 45) rfl rfl Try.func12 (by kernel_rfl) rfl #[.slice A2 l2.length c2] rfl (by (try simp only [List.map_toArray, List.map_cons, List.map_nil]); first | done | rfl | (simp only [List.length_drop, List.length_take]; rfl)) ?_; (with_reducible refine (soundservicemade_New.calls _ _ l2 t310 w _ ?side1 ?side2 ?side3 A11.out).mono ?_); (case side1 => repeat (first | (with_reducible first | exact HB.out | apply below_alloc | apply pw_below_drewN | apply below_drew1 | refine below_set ?_ GE307.out | refine below_set ?_ GE308.out) | exact HB.out)); (case side2 => exact HR2.out); (case side3 => exact HC2.out); rintro e w16 ⟨g311, rfl, hi, hb, hb2⟩; refine ⟨_, rfl, ?_⟩; have n0_ := Aside0.mk (blk_below (g := gb307) (o := .cells #[.int .i64 a0_0, .int .i64 a0_1, .int .i64 a0_2, .int .i64 a0_3] 23 (0, 0)) (by (with_reducible repeat (first | apply blk_drewN | apply blk_drew | apply blk_alloc)); exact BK307.out) hb2); have n1_ := Aside0.mk (blk_below (g := gb308) (o := .cells #[.int .i64 a1_0, .int .i64 a1_1] 27 (0, 0)) (by (with_reducible repeat (first | apply blk_drewN | apply blk_drew | apply blk_alloc)); exact BK308.out) hb2); have n2_ := Aside0.mk (hb); have n3_ := Aside0.mk (hi); have n4_ := Aside0.mk (IsS59.ne_blk hi (blk_below (g := gb307) (o := .cells #[.int .i64 a0_0, .int .i64 a0_1, .int .i64 a0_2, .int .i64 a0_3] 23 (0, 0)) (by (with_reducible repeat (first | apply blk_drewN | apply blk_drew | apply blk_alloc)); exact BK307.out) hb2) (by decide)); have n5_ := Aside0.mk (Ne.symm (IsS59.ne_blk hi (blk_below (g := gb307) (o := .cells #[.int .i64 a0_0, .int .i64 a0_1, .int .i64 a0_2, .int .i64 a0_3] 23 (0, 0)) (by (with_reducible repeat (first | apply blk_drewN | apply blk_drew | apply blk_alloc)); exact BK307.out) hb2) (by decide))); have n6_ := Aside0.mk (IsS59.ne_blk hi (blk_below (g := gb308) (o := .cells #[.int .i64 a1_0, .int .i64 a1_1] 27 (0, 0)) (by (with_reducible repeat (first | apply blk_drewN | apply blk_drew | apply blk_alloc)); exact BK308.out) hb2) (by decide)); have n7_ := Aside0.mk (Ne.symm (IsS59.ne_blk hi (blk_below (g := gb308) (o := .cells #[.int .i64 a1_0, .int .i64 a1_1] 27 (0, 0)) (by (with_reducible repeat (first | apply blk_drewN | apply blk_drew | apply blk_alloc)); exact BK308.out) hb2) (by decide))); clear BK307; clear BK308; clear HB; have BK307 := n0_; have BK308 := n1_; have HB := n2_; have HI311 := n3_; have NB311_307 := n4_; have NB307_311 := n5_; have NB311_308 := n6_; have NB308_311 := n7_; clear n0_ n1_ n2_ n3_ n4_ n5_ n6_ n7_; (try clear hb); (try clear hb2); (try clear hk); (try clear hi)) | ((with_reducible refine gate_callee (f := 11) rfl ?_); refine goesL_ (some 46) rfl rfl Try.func11 (by kernel_rfl) rfl #[.pointer (some ⟨g311, 0, none⟩)] rfl (by (try simp only [List.map_toArray, List.map_cons, List.map_nil]); first | done | rfl | (simp only [List.length_drop, List.length_take]; rfl)) ?_; (with_reducible refine (soundservicelaw18_made.calls g311 t310 t312 t313 t314 t315 t316 t317 t318 t319 t320 w _ ?side1 ?side2 A12.out).mono ?_); (case side1 => repeat (first | (with_reducible first | exact HI311.out | apply IsS59.alloc | apply IsS59.drewN | apply IsS59.drew | refine IsS59.far ?_ NB311_307.out _ | refine IsS59.far ?_ NB311_308.out _) | exact HI311.out)); (case side2 => repeat (first | (with_reducible first | exact HB.out | apply below_alloc | apply pw_below_drewN | apply below_drew1 | refine below_set ?_ (IsS59.ge HI311.out) | refine below_set ?_ GE307.out | refine below_set ?_ GE308.out) | exact HB.out)); rintro e w17 ⟨rfl, hi, hb, hk⟩; refine ⟨_, rfl, ?_⟩; have n0_ := Aside0.mk (KeepBut.blk hk (g' := gb307) (o := .cells #[.int .i64 a0_0, .int .i64 a0_1, .int .i64 a0_2, .int .i64 a0_3] 23 (0, 0)) (by (with_reducible repeat (first | apply blk_drewN | apply blk_drew | apply blk_alloc)); exact BK307.out) NB307_311.out (by simp)); have n1_ := Aside0.mk (KeepBut.blk hk (g' := gb308) (o := .cells #[.int .i64 a1_0, .int .i64 a1_1] 27 (0, 0)) (by (with_reducible repeat (first | apply blk_drewN | apply blk_drew | apply blk_alloc)); exact BK308.out) NB308_311.out (by simp)); have n2_ := Aside0.mk (hb); have n3_ := Aside0.mk (hi); clear BK307; clear BK308; clear HB; clear HI311; have BK307 := n0_; have BK308 := n1_; have HB := n2_; have HI311 := n3_; clear n0_ n1_ n2_ n3_; (try clear hb); (try clear hb2); (try clear hk); (try clear hi)) | ((with_reducible refine gate_dst (N := 17) rfl ?_); refine box_event ?hg (N := 17) ?hd (cs := #[.int .i64 0, .int .i64 0, .int .i64 0, .int .i64 0]) (t := 23) ?hr ?_; (case hd => rfl); (case hg => rfl); (case hr => first | (go_simp; done) | (go_simp; rfl)); intro gb321 hg w18 hbox hb; have n0_ := Aside0.mk (blk_below (g := gb307) (o := .cells #[.int .i64 a0_0, .int .i64 a0_1, .int .i64 a0_2, .int .i64 a0_3] 23 (0, 0)) (by (with_reducible repeat (first | apply blk_drewN | apply blk_drew | apply blk_alloc)); exact BK307.out) hb); have n1_ := Aside0.mk (blk_below (g := gb308) (o := .cells #[.int .i64 a1_0, .int .i64 a1_1] 27 (0, 0)) (by (with_reducible repeat (first | apply blk_drewN | apply blk_drew | apply blk_alloc)); exact BK308.out) hb); have n2_ := Aside0.mk (IsS59.below (by repeat (first | (with_reducible first | exact HI311.out | apply IsS59.alloc | apply IsS59.drewN | apply IsS59.drew | refine IsS59.far ?_ NB311_307.out _ | refine IsS59.far ?_ NB311_308.out _) | exact HI311.out)) hb); have n3_ := Aside0.mk (below_step (by repeat (first | (with_reducible first | exact HB.out | apply below_alloc | apply pw_below_drewN | apply below_drew1 | refine below_set ?_ (IsS59.ge HI311.out) | refine below_set ?_ GE307.out | refine below_set ?_ GE308.out) | exact HB.out)) hb); have n4_ := Aside0.mk (hbox); have n5_ := Aside0.mk ((by rw [hg]; exact (below_size (by repeat (first | (with_reducible first | exact HB.out | apply below_alloc | apply pw_below_drewN | apply below_drew1 | refine below_set ?_ (IsS59.ge HI311.out) | refine below_set ?_ GE307.out | refine below_set ?_ GE308.out) | exact HB.out))) : w.heap.size ≤ gb321)); have n6_ := Aside0.mk ((by rw [hg]; exact (below_size (by repeat (first | (with_reducible first | exact HB.out | apply below_alloc | apply pw_below_drewN | apply below_drew1 | refine below_set ?_ (IsS59.ge HI311.out) | refine below_set ?_ GE307.out | refine below_set ?_ GE308.out) | exact HB.out))) : w.heap.size ≤ gb321)); have n7_ := Aside0.mk ((by rw [hg]; exact Nat.ne_of_lt (blk_lt (g := gb307) (o := .cells #[.int .i64 a0_0, .int .i64 a0_1, .int .i64 a0_2, .int .i64 a0_3] 23 (0, 0)) (by (with_reducible repeat (first | apply blk_drewN | apply blk_drew | apply blk_alloc)); exact BK307.out)) : gb307 ≠ gb321)); have n8_ := Aside0.mk ((by rw [hg]; exact Nat.ne_of_gt (blk_lt (g := gb307) (o := .cells #[.int .i64 a0_0, .int .i64 a0_1, .int .i64 a0_2, .int .i64 a0_3] 23 (0, 0)) (by (with_reducible repeat (first | apply blk_drewN | apply blk_drew | apply blk_alloc)); exact BK307.out)) : gb321 ≠ gb307)); have n9_ := Aside0.mk ((by rw [hg]; exact Nat.ne_of_lt (blk_lt (g := gb308) (o := .cells #[.int .i64 a1_0, .int .i64 a1_1] 27 (0, 0)) (by (with_reducible repeat (first | apply blk_drewN | apply blk_drew | apply blk_alloc)); exact BK308.out)) : gb308 ≠ gb321)); have n10_ := Aside0.mk ((by rw [hg]; exact Nat.ne_of_gt (blk_lt (g := gb308) (o := .cells #[.int .i64 a1_0, .int .i64 a1_1] 27 (0, 0)) (by (with_reducible repeat (first | apply blk_drewN | apply blk_drew | apply blk_alloc)); exact BK308.out)) : gb321 ≠ gb308)); have n11_ := Aside0.mk ((by rw [hg]; exact Nat.ne_of_lt (IsS59.lt (show IsS59 w _ g311 t320 from by repeat (first | (with_reducible first | exact HI311.out | apply IsS59.alloc | apply IsS59.drewN | apply IsS59.drew | refine IsS59.far ?_ NB311_307.out _ | refine IsS59.far ?_ NB311_308.out _) | exact HI311.out))) : g311 ≠ gb321)); have n12_ := Aside0.mk ((by rw [hg]; exact Nat.ne_of_gt (IsS59.lt (show IsS59 w _ g311 t320 from by repeat (first | (with_reducible first | exact HI311.out | apply IsS59.alloc | apply IsS59.drewN | apply IsS59.drew | refine IsS59.far ?_ NB311_307.out _ | refine IsS59.far ?_ NB311_308.out _) | exact HI311.out))) : gb321 ≠ g311)); clear BK307; clear BK308; clear HI311; clear HB; have BK307 := n0_; have BK308 := n1_; have HI311 := n2_; have HB := n3_; have BK321 := n4_; have GW321 := n5_; have GE321 := n6_; have NB307_321 := n7_; have NB321_307 := n8_; have NB308_321 := n9_; have NB321_308 := n10_; have NB311_321 := n11_; have NB321_311 := n12_; clear n0_ n1_ n2_ n3_ n4_ n5_ n6_ n7_ n8_ n9_ n10_ n11_ n12_; clear hb hbox hg) | ((with_reducible refine gate_dst (N := 18) rfl ?_); refine box_event ?hg (N := 18) ?hd (cs := #[.int .i64 0, .int .i64 0]) (t := 27) ?hr ?_; (case hd => rfl); (case hg => rfl); (case hr => first | (go_simp; done) | (go_simp; rfl)); intro gb322 hg w19 hbox hb; have n0_ := Aside0.mk (blk_below (g := gb307) (o := .cells #[.int .i64 a0_0, .int .i64 a0_1, .int .i64 a0_2, .int .i64 a0_3] 23 (0, 0)) (by (with_reducible repeat (first | apply blk_drewN | apply blk_drew | apply blk_alloc)); exact BK307.out) hb); have n1_ := Aside0.mk (blk_below (g := gb308) (o := .cells #[.int .i64 a1_0, .int .i64 a1_1] 27 (0, 0)) (by (with_reducible repeat (first | apply blk_drewN | apply blk_drew | apply blk_alloc)); exact BK308.out) hb); have n2_ := Aside0.mk (IsS59.below (by repeat (first | (with_reducible first | exact HI311.out | apply IsS59.alloc | apply IsS59.drewN | apply IsS59.drew | refine IsS59.far ?_ NB311_307.out _ | refine IsS59.far ?_ NB311_308.out _ | refine IsS59.far ?_ NB311_321.out _) | exact HI311.out)) hb); have n3_ := Aside0.mk (blk_below (g := gb321) (o := .cells #[.int .i64 0, .int .i64 0, .int .i64 0, .int .i64 0] 23 (0, 0)) (by (with_reducible repeat (first | apply blk_drewN | apply blk_drew | apply blk_alloc)); exact BK321.out) hb); have n4_ := Aside0.mk (below_step (by repeat (first | (with_reducible first | exact HB.out | apply below_alloc | apply pw_below_drewN | apply below_drew1 | refine below_set ?_ (IsS59.ge HI311.out) | refine below_set ?_ GE307.out | refine below_set ?_ GE308.out | refine below_set ?_ GE321.out) | exact HB.out)) hb); have n5_ := Aside0.mk (hbox); have n6_ := Aside0.mk ((by rw [hg]; exact (below_size (by repeat (first | (with_reducible first | exact HB.out | apply below_alloc | apply pw_below_drewN | apply below_drew1 | refine below_set ?_ (IsS59.ge HI311.out) | refine below_set ?_ GE307.out | refine below_set ?_ GE308.out | refine below_set ?_ GE321.out) | exact HB.out))) : w.heap.size ≤ gb322)); have n7_ := Aside0.mk ((by rw [hg]; exact (below_size (by repeat (first | (with_reducible first | exact HB.out | apply below_alloc | apply pw_below_drewN | apply below_drew1 | refine below_set ?_ (IsS59.ge HI311.out) | refine below_set ?_ GE307.out | refine below_set ?_ GE308.out | refine below_set ?_ GE321.out) | exact HB.out))) : w.heap.size ≤ gb322)); have n8_ := Aside0.mk ((by rw [hg]; exact Nat.ne_of_lt (blk_lt (g := gb307) (o := .cells #[.int .i64 a0_0, .int .i64 a0_1, .int .i64 a0_2, .int .i64 a0_3] 23 (0, 0)) (by (with_reducible repeat (first | apply blk_drewN | apply blk_drew | apply blk_alloc)); exact BK307.out)) : gb307 ≠ gb322)); have n9_ := Aside0.mk ((by rw [hg]; exact Nat.ne_of_gt (blk_lt (g := gb307) (o := .cells #[.int .i64 a0_0, .int .i64 a0_1, .int .i64 a0_2, .int .i64 a0_3] 23 (0, 0)) (by (with_reducible repeat (first | apply blk_drewN | apply blk_drew | apply blk_alloc)); exact BK307.out)) : gb322 ≠ gb307)); have n10_ := Aside0.mk ((by rw [hg]; exact Nat.ne_of_lt (blk_lt (g := gb308) (o := .cells #[.int .i64 a1_0, .int .i64 a1_1] 27 (0, 0)) (by (with_reducible repeat (first | apply blk_drewN | apply blk_drew | apply blk_alloc)); exact BK308.out)) : gb308 ≠ gb322)); have n11_ := Aside0.mk ((by rw [hg]; exact Nat.ne_of_gt (blk_lt (g := gb308) (o := .cells #[.int .i64 a1_0, .int .i64 a1_1] 27 (0, 0)) (by (with_reducible repeat (first | apply blk_drewN | apply blk_drew | apply blk_alloc)); exact BK308.out)) : gb322 ≠ gb308)); have n12_ := Aside0.mk ((by rw [hg]; exact Nat.ne_of_lt (blk_lt (g := gb321) (o := .cells #[.int .i64 0, .int .i64 0, .int .i64 0, .int .i64 0] 23 (0, 0)) (by (with_reducible repeat (first | apply blk_drewN | apply blk_drew | apply blk_alloc)); exact BK321.out)) : gb321 ≠ gb322)); have n13_ := Aside0.mk ((by rw [hg]; exact Nat.ne_of_gt (blk_lt (g := gb321) (o := .cells #[.int .i64 0, .int .i64 0, .int .i64 0, .int .i64 0] 23 (0, 0)) (by (with_reducible repeat (first | apply blk_drewN | apply blk_drew | apply blk_alloc)); exact BK321.out)) : gb322 ≠ gb321)); have n14_ := Aside0.mk ((by rw [hg]; exact Nat.ne_of_lt (IsS59.lt (show IsS59 w _ g311 t320 from by repeat (first | (with_reducible first | exact HI311.out | apply IsS59.alloc | apply IsS59.drewN | apply IsS59.drew | refine IsS59.far ?_ NB311_307.out _ | refine IsS59.far ?_ NB311_308.out _ | refine IsS59.far ?_ NB311_321.out _) | exact HI311.out))) : g311 ≠ gb322)); have n15_ := Aside0.mk ((by rw [hg]; exact Nat.ne_of_gt (IsS59.lt (show IsS59 w _ g311 t320 from by repeat (first | (with_reducible first | exact HI311.out | apply IsS59.alloc | apply IsS59.drewN | apply IsS59.drew | refine IsS59.far ?_ NB311_307.out _ | refine IsS59.far ?_ NB311_308.out _ | refine IsS59.far ?_ NB311_321.out _) | exact HI311.out))) : gb322 ≠ g311)); clear BK307; clear BK308; clear HI311; clear BK321; clear HB; have BK307 := n0_; have BK308 := n1_; have HI311 := n2_; have BK321 := n3_; have HB := n4_; have BK322 := n5_; have GW322 := n6_; have GE322 := n7_; have NB307_322 := n8_; have NB322_307 := n9_; have NB308_322 := n10_; have NB322_308 := n11_; have NB321_322 := n12_; have NB322_321 := n13_; have NB311_322 := n14_; have NB322_311 := n15_; clear n0_ n1_ n2_ n3_ n4_ n5_ n6_ n7_ n8_ n9_ n10_ n11_ n12_ n13_ n14_ n15_; clear hb hbox hg; have hnb20 := NB321_307.out; have hnc20 := NB307_321.out; have hnb21 := NB321_308.out; have hnc21 := NB308_321.out; have hnb22 := NB321_322.out; have hnc22 := NB322_321.out; have hnb23 := NB321_311.out; have hnc23 := NB311_321.out; have hcz24_0 : w19.cell? ⟨gb321, 0, none⟩ = some (.int .i64 0) := (blk_cell BK321.out 0).trans rfl; have hcz24_1 : w19.cell? ⟨gb321, 1, none⟩ = some (.int .i64 0) := (blk_cell BK321.out 1).trans rfl; have hcz24_2 : w19.cell? ⟨gb321, 2, none⟩ = some (.int .i64 0) := (blk_cell BK321.out 2).trans rfl; have hcz24_3 : w19.cell? ⟨gb321, 3, none⟩ = some (.int .i64 0) := (blk_cell BK321.out 3).trans rfl; have hfz24_0 := blk_frozen BK321.out 0; have hfz24_1 := blk_frozen BK321.out 1; have hfz24_2 := blk_frozen BK321.out 2; have hfz24_3 := blk_frozen BK321.out 3; have hnb25 := NB322_307.out; have hnc25 := NB307_322.out; have hnb26 := NB322_308.out; have hnc26 := NB308_322.out; have hnb27 := NB322_311.out; have hnc27 := NB311_322.out; have hcz28_0 : w19.cell? ⟨gb322, 0, none⟩ = some (.int .i64 0) := (blk_cell BK322.out 0).trans rfl; have hcz28_1 : w19.cell? ⟨gb322, 1, none⟩ = some (.int .i64 0) := (blk_cell BK322.out 1).trans rfl; have hfz28_0 := blk_frozen BK322.out 0; have hfz28_1 := blk_frozen BK322.out 1; have hnb29 := NB307_308.out; have hnc29 := NB308_307.out; have hnb30 := NB307_311.out; have hnc30 := NB311_307.out; have hcz31_0 : w19.cell? ⟨gb307, 0, none⟩ = some (.int .i64 a0_0) := (blk_cell BK307.out 0).trans rfl; have hcz31_1 : w19.cell? ⟨gb307, 1, none⟩ = some (.int .i64 a0_1) := (blk_cell BK307.out 1).trans rfl; have hcz31_2 : w19.cell? ⟨gb307, 2, none⟩ = some (.int .i64 a0_2) := (blk_cell BK307.out 2).trans rfl; have hcz31_3 : w19.cell? ⟨gb307, 3, none⟩ = some (.int .i64 a0_3) := (blk_cell BK307.out 3).trans rfl; have hfz31_0 := blk_frozen BK307.out 0; have hfz31_1 := blk_frozen BK307.out 1; have hfz31_2 := blk_frozen BK307.out 2; have hfz31_3 := blk_frozen BK307.out 3) | ((with_reducible refine gate_dst (N := 53) rfl ?_); refine Kd.R_lit k23 _ 23 ?hg (N := 53) ?hd (xs := ([(⟨a0_0, a0_1, a0_2, a0_3⟩ : S23), (⟨t312, t313, t314, t315⟩ : S23)] : List (S23))) (inner := [.int .i64 a0_0, .int .i64 a0_1, .int .i64 a0_2, .int .i64 a0_3, .int .i64 t312, .int .i64 t313, .int .i64 t314, .int .i64 t315]) (ok := fun _ => True) (okp := fun _ => True) ?hr ?hp (fun _ hk => hk) trivial (Below.refl _ _) (Nat.le_refl _) (by simp) ?_; (case hd => rfl); (case hg => rfl); (case hr => first | (go_simp; done) | (go_simp; rfl)); (case hp => exact (Reps.c4 (show Kd.M k23 _ _ _ (⟨a0_0, a0_1, a0_2, a0_3⟩ : S23) [.int .i64 a0_0, .int .i64 a0_1, .int .i64 a0_2, .int .i64 a0_3] from (k23_mkM _ _ _ (⟨a0_0, a0_1, a0_2, a0_3⟩ : S23) )) (Reps.c4 (show Kd.M k23 _ _ _ (⟨t312, t313, t314, t315⟩ : S23) [.int .i64 t312, .int .i64 t313, .int .i64 t314, .int .i64 t315] from (k23_mkM _ _ _ (⟨t312, t313, t314, t315⟩ : S23) )) (Reps.none _ _)))); intro v324 w32 ho33 hb hg_ hnew_; clear hg_ hnew_; (first | rw [← Ny323.out] at ho33 | (simp only [Int.reduceToNat] at ho33; rw [← Ny323.out] at ho33)); have n0_ := Aside0.mk (Kd.R_lower (Kd.R_newB (Kd.R_newB ho33 (g := gb307) (o := .cells #[.int .i64 a0_0, .int .i64 a0_1, .int .i64 a0_2, .int .i64 a0_3] 23 (0, 0)) (by (with_reducible repeat (first | apply blk_drewN | apply blk_drew | apply blk_alloc)); refine blk_far ?_ NB307_322.out _; (with_reducible repeat (first | apply blk_drewN | apply blk_drew | apply blk_alloc)); refine blk_far ?_ NB307_322.out _; (with_reducible repeat (first | apply blk_drewN | apply blk_drew | apply blk_alloc)); refine blk_far ?_ NB307_321.out _; (with_reducible repeat (first | apply blk_drewN | apply blk_drew | apply blk_alloc)); refine blk_far ?_ NB307_321.out _; (with_reducible repeat (first | apply blk_drewN | apply blk_drew | apply blk_alloc)); refine blk_far ?_ NB307_321.out _; (with_reducible repeat (first | apply blk_drewN | apply blk_drew | apply blk_alloc)); refine blk_far ?_ NB307_321.out _; (with_reducible repeat (first | apply blk_drewN | apply blk_drew | apply blk_alloc)); exact BK307.out)) (g := gb321) (o := .cells #[.int .i64 t312, .int .i64 t313, .int .i64 t314, .int .i64 t315] 23 (0, 0)) (by (with_reducible repeat (first | apply blk_drewN | apply blk_drew | apply blk_alloc)); refine blk_far ?_ NB321_322.out _; (with_reducible repeat (first | apply blk_drewN | apply blk_drew | apply blk_alloc)); refine blk_far ?_ NB321_322.out _; (with_reducible repeat (first | apply blk_drewN | apply blk_drew | apply blk_alloc)); refine blk_put (cs := #[.int .i64 t312, .int .i64 t313, .int .i64 t314, .int .i64 0]) ?_ 3 _ rfl; (with_reducible repeat (first | apply blk_drewN | apply blk_drew | apply blk_alloc)); refine blk_put (cs := #[.int .i64 t312, .int .i64 t313, .int .i64 0, .int .i64 0]) ?_ 2 _ rfl; (with_reducible repeat (first | apply blk_drewN | apply blk_drew | apply blk_alloc)); refine blk_put (cs := #[.int .i64 t312, .int .i64 0, .int .i64 0, .int .i64 0]) ?_ 1 _ rfl; (with_reducible repeat (first | apply blk_drewN | apply blk_drew | apply blk_alloc)); refine blk_put (cs := #[.int .i64 0, .int .i64 0, .int .i64 0, .int .i64 0]) ?_ 0 _ rfl; (with_reducible repeat (first | apply blk_drewN | apply blk_drew | apply blk_alloc)); exact BK321.out)) (below_size (by repeat (first | (with_reducible first | exact HB.out | apply below_alloc | apply pw_below_drewN | apply below_drew1 | refine below_set ?_ (IsS59.ge HI311.out) | refine below_set ?_ GE307.out | refine below_set ?_ GE308.out | refine below_set ?_ GE321.out | refine below_set ?_ GE322.out) | exact HB.out)))); have n1_ := Aside0.mk (blk_below (g := gb307) (o := .cells #[.int .i64 a0_0, .int .i64 a0_1, .int .i64 a0_2, .int .i64 a0_3] 23 (0, 0)) (by (with_reducible repeat (first | apply blk_drewN | apply blk_drew | apply blk_alloc)); refine blk_far ?_ NB307_322.out _; (with_reducible repeat (first | apply blk_drewN | apply blk_drew | apply blk_alloc)); refine blk_far ?_ NB307_322.out _; (with_reducible repeat (first | apply blk_drewN | apply blk_drew | apply blk_alloc)); refine blk_far ?_ NB307_321.out _; (with_reducible repeat (first | apply blk_drewN | apply blk_drew | apply blk_alloc)); refine blk_far ?_ NB307_321.out _; (with_reducible repeat (first | apply blk_drewN | apply blk_drew | apply blk_alloc)); refine blk_far ?_ NB307_321.out _; (with_reducible repeat (first | apply blk_drewN | apply blk_drew | apply blk_alloc)); refine blk_far ?_ NB307_321.out _; (with_reducible repeat (first | apply blk_drewN | apply blk_drew | apply blk_alloc)); exact BK307.out) hb); have n2_ := Aside0.mk (blk_below (g := gb308) (o := .cells #[.int .i64 a1_0, .int .i64 a1_1] 27 (0, 0)) (by (with_reducible repeat (first | apply blk_drewN | apply blk_drew | apply blk_alloc)); refine blk_far ?_ NB308_322.out _; (with_reducible repeat (first | apply blk_drewN | apply blk_drew | apply blk_alloc)); refine blk_far ?_ NB308_322.out _; (with_reducible repeat (first | apply blk_drewN | apply blk_drew | apply blk_alloc)); refine blk_far ?_ NB308_321.out _; (with_reducible repeat (first | apply blk_drewN | apply blk_drew | apply blk_alloc)); refine blk_far ?_ NB308_321.out _; (with_reducible repeat (first | apply blk_drewN | apply blk_drew | apply blk_alloc)); refine blk_far ?_ NB308_321.out _; (with_reducible repeat (first | apply blk_drewN | apply blk_drew | apply blk_alloc)); refine blk_far ?_ NB308_321.out _; (with_reducible repeat (first | apply blk_drewN | apply blk_drew | apply blk_alloc)); exact BK308.out) hb); have n3_ := Aside0.mk (IsS59.below (show IsS59 w ((((((w19.setCell ⟨gb321, 0, none⟩ (.int .i64 t312)).setCell ⟨gb321, 1, none⟩ (.int .i64 t313)).setCell ⟨gb321, 2, none⟩ (.int .i64 t314)).setCell ⟨gb321, 3, none⟩ (.int .i64 t315)).setCell ⟨gb322, 0, none⟩ (.int .i64 t316)).setCell ⟨gb322, 1, none⟩ (.int .i64 t317)) g311 t320 from by repeat (first | (with_reducible first | exact HI311.out | apply IsS59.alloc | apply IsS59.drewN | apply IsS59.drew | refine IsS59.far ?_ NB311_307.out _ | refine IsS59.far ?_ NB311_308.out _ | refine IsS59.far ?_ NB311_321.out _ | refine IsS59.far ?_ NB311_322.out _) | exact HI311.out)) hb); have n4_ := Aside0.mk (blk_below (g := gb321) (o := .cells #[.int .i64 t312, .int .i64 t313, .int .i64 t314, .int .i64 t315] 23 (0, 0)) (by (with_reducible repeat (first | apply blk_drewN | apply blk_drew | apply blk_alloc)); refine blk_far ?_ NB321_322.out _; (with_reducible repeat (first | apply blk_drewN | apply blk_drew | apply blk_alloc)); refine blk_far ?_ NB321_322.out _; (with_reducible repeat (first | apply blk_drewN | apply blk_drew | apply blk_alloc)); refine blk_put (cs := #[.int .i64 t312, .int .i64 t313, .int .i64 t314, .int .i64 0]) ?_ 3 _ rfl; (with_reducible repeat (first | apply blk_drewN | apply blk_drew | apply blk_alloc)); refine blk_put (cs := #[.int .i64 t312, .int .i64 t313, .int .i64 0, .int .i64 0]) ?_ 2 _ rfl; (with_reducible repeat (first | apply blk_drewN | apply blk_drew | apply blk_alloc)); refine blk_put (cs := #[.int .i64 t312, .int .i64 0, .int .i64 0, .int .i64 0]) ?_ 1 _ rfl; (with_reducible repeat (first | apply blk_drewN | apply blk_drew | apply blk_alloc)); refine blk_put (cs := #[.int .i64 0, .int .i64 0, .int .i64 0, .int .i64 0]) ?_ 0 _ rfl; (with_reducible repeat (first | apply blk_drewN | apply blk_drew | apply blk_alloc)); exact BK321.out) hb); have n5_ := Aside0.mk (blk_below (g := gb322) (o := .cells #[.int .i64 t316, .int .i64 t317] 27 (0, 0)) (by (with_reducible repeat (first | apply blk_drewN | apply blk_drew | apply blk_alloc)); refine blk_put (cs := #[.int .i64 t316, .int .i64 0]) ?_ 1 _ rfl; (with_reducible repeat (first | apply blk_drewN | apply blk_drew | apply blk_alloc)); refine blk_put (cs := #[.int .i64 0, .int .i64 0]) ?_ 0 _ rfl; (with_reducible repeat (first | apply blk_drewN | apply blk_drew | apply blk_alloc)); refine blk_far ?_ NB322_321.out _; (with_reducible repeat (first | apply blk_drewN | apply blk_drew | apply blk_alloc)); refine blk_far ?_ NB322_321.out _; (with_reducible repeat (first | apply blk_drewN | apply blk_drew | apply blk_alloc)); refine blk_far ?_ NB322_321.out _; (with_reducible repeat (first | apply blk_drewN | apply blk_drew | apply blk_alloc)); refine blk_far ?_ NB322_321.out _; (with_reducible repeat (first | apply blk_drewN | apply blk_drew | apply blk_alloc)); exact BK322.out) hb); have n6_ := Aside0.mk (below_step (by repeat (first | (with_reducible first | exact HB.out | apply below_alloc | apply pw_below_drewN | apply below_drew1 | refine below_set ?_ (IsS59.ge HI311.out) | refine below_set ?_ GE307.out | refine below_set ?_ GE308.out | refine below_set ?_ GE321.out | refine below_set ?_ GE322.out) | exact HB.out)) hb); clear BK307; clear BK308; clear HI311; clear BK321; clear BK322; clear HB; have HO325 := n0_; have BK307 := n1_; have BK308 := n2_; have HI311 := n3_; have BK321 := n4_; have BK322 := n5_; have HB := n6_; clear n0_ n1_ n2_ n3_ n4_ n5_ n6_; clear hb ho33; obtain ⟨Ao34, co34, eo34⟩ := Kd.R_slice HO325.out; subst eo34))
  go_loopg [55] k (fun kq v55 w' => ∃ (x55_1 : Int), v55 = .int .i64 x55_1 ∧ Aside0 (soundservicelaw18_ControlBounds.l0 kq a3 a4 a5 a6 a7 t318 t319 y323 (y323.length : Int) x55_1 a1_0 a1_1 t316 t317 = some r) ∧ Aside0 (kq ≤ k) ∧ Aside0 (Kd.R k23 23 w' w.heap.size (fun k_ => k_ ≠ gb307 ∧ k_ ≠ gb321) (.slice Ao34 y323.length co34) y323) ∧ Aside0 (w'.heap[gb307]? = some (.cells #[.int .i64 a0_0, .int .i64 a0_1, .int .i64 a0_2, .int .i64 a0_3] 23 (0, 0))) ∧ Aside0 (w'.heap[gb308]? = some (.cells #[.int .i64 a1_0, .int .i64 a1_1] 27 (0, 0))) ∧ Aside0 (w'.heap[gb321]? = some (.cells #[.int .i64 t312, .int .i64 t313, .int .i64 t314, .int .i64 t315] 23 (0, 0))) ∧ Aside0 (w'.heap[gb322]? = some (.cells #[.int .i64 t316, .int .i64 t317] 27 (0, 0))) ∧ Aside0 (Below w.heap.size w w'))
  case atStart => exact ⟨(0), (by first | rfl | (simp; done) | (simp [*]; done)), H', ⟨Nat.le_refl _⟩, ⟨by (with_reducible repeat (first | apply Kd.R_alloc | apply Kd.R_drewN | apply Kd.R_drew)); exact Kd.R_mono HO325.out (fun _ hk => ⟨hk.1.2, hk.2⟩)⟩, ⟨by (with_reducible repeat (first | apply blk_drewN | apply blk_drew | apply blk_alloc)); exact BK307.out⟩, ⟨by (with_reducible repeat (first | apply blk_drewN | apply blk_drew | apply blk_alloc)); exact BK308.out⟩, ⟨by (with_reducible repeat (first | apply blk_drewN | apply blk_drew | apply blk_alloc)); exact BK321.out⟩, ⟨by (with_reducible repeat (first | apply blk_drewN | apply blk_drew | apply blk_alloc)); exact BK322.out⟩, ⟨by repeat (first | (with_reducible first | exact HB.out | apply below_alloc | apply pw_below_drewN | apply below_drew1 | refine below_set ?_ (IsS59.ge HI311.out) | refine below_set ?_ GE307.out | refine below_set ?_ GE308.out | refine below_set ?_ GE321.out | refine below_set ?_ GE322.out) | exact HB.out)⟩⟩
  case round =>
   clear H'
   try clear c1
   try clear c2
   try clear p2
   try clear c3
   try clear c4
   try clear c6
   try clear c10
   try clear c11
   try clear c12
   try clear c20
   try clear c21
   try clear c22
   try clear c23
   try clear c25
   try clear c26
   try clear c27
   try clear c29
   try clear c30
   try clear hcz24_0
   try clear hcz24_1
   try clear hcz24_2
   try clear hcz24_3
   try clear hcz28_0
   try clear hcz28_1
   try clear hcz31_0
   try clear hcz31_1
   try clear hcz31_2
   try clear hcz31_3
   try clear hfz24_0
   try clear hfz24_1
   try clear hfz24_2
   try clear hfz24_3
   try clear hfz28_0
   try clear hfz28_1
   try clear hfz31_0
   try clear hfz31_1
   try clear hfz31_2
   try clear hfz31_3
   obtain ⟨x55_1, rfl, HA, HK1, HO_53, BK307, BK308, BK321, BK322, HB⟩ := hrel
   cases gk with
   | zero => exact absurd HA.out (by simp [soundservicelaw18_ControlBounds.l0])
   | succ k1 =>
    have H := HA.out
    clear HA
    simp only [soundservicelaw18_ControlBounds.l0] at H
    by_cases c35 : x55_1 < (y323.length : Int)
    ·rw [if_pos c35] at H
     have c35b0 : decide (x55_1 < (y323.length : Int)) = true := decide_eq_true c35
     clear c35
     by_cases c36 : 0 ≤ x55_1
     ·rw [if_pos c36] at H
      have c36b0 : decide (0 ≤ x55_1) = true := decide_eq_true c36
      clear c36
      by_cases c37 : x55_1 < (y323.length : Int)
      ·rw [if_pos c37] at H
       have c37b0 : decide (x55_1 < (y323.length : Int)) = true := decide_eq_true c37
       clear c37
       obtain ⟨y328, hy328⟩ : ∃ y_ : List (S27), y_ = (([(⟨a1_0, a1_1⟩ : S27), (⟨t316, t317⟩ : S27)] : List (S27))) := ⟨_, rfl⟩
       replace H : (soundservicelaw18_ControlBounds.l1 k1 a3 a4 a5 a6 a7 t318 t319 y323 (y323.length : Int) x55_1 y328 (y328.length : Int) 0 a1_0 a1_1 t316 t317 ((rd_T23 y323 x55_1).f0) ((rd_T23 y323 x55_1).f1) ((rd_T23 y323 x55_1).f2) ((rd_T23 y323 x55_1).f3)) = some r := by first | (rw [hy328]; with_reducible exact H) | (have H2_ := (Option.bind_some _ _).symm.trans H; rw [hy328]; with_reducible exact H2_) | (have H2_ := (Option.bind_some _ _).symm.trans H; with_reducible exact H2_) | with_reducible exact H | (rw [hy328]; exact H) | exact H
       have Ny328 := Aside0.mk hy328
       clear hy328
       have H' := Aside0.mk H
       clear H
       have p326 : 0 ≤ (x55_1 : Int) := of_decide_eq_true (by first | (with_reducible assumption) | assumption)
       have q326 : x55_1 < (y323.length : Int) := of_decide_eq_true (by first | (with_reducible assumption) | assumption)
       obtain ⟨ad326, e326, hx326_0, hx326_1, hx326_2, hx326_3⟩ := at_T23 (Kd.R_reads' HO_53.out).2.2 x55_1 p326 q326
       cases e326
       replace p326 := eq_true p326
       replace q326 := eq_true q326
       go_wp2_with (first | ((with_reducible refine gate_dst (N := 22) rfl ?_); refine box_event ?hg (N := 22) ?hd (cs := #[.int .i64 0, .int .i64 0, .int .i64 0, .int .i64 0]) (t := 23) ?hr ?_; (case hd => rfl); (case hg => rfl); (case hr => first | (go_simp; done) | (go_simp; rfl)); intro gb327 hg w38 hbox hb; have n0_ := Aside0.mk (Kd.R_below (Kd.R_elderB (by (with_reducible repeat (first | apply Kd.R_alloc | apply Kd.R_drewN | apply Kd.R_drew)); exact HO_53.out) gb327 (Nat.le_of_eq hg.symm)) hb); have n1_ := Aside0.mk (blk_below (g := gb307) (o := .cells #[.int .i64 a0_0, .int .i64 a0_1, .int .i64 a0_2, .int .i64 a0_3] 23 (0, 0)) (by (with_reducible repeat (first | apply blk_drewN | apply blk_drew | apply blk_alloc)); exact BK307.out) hb); have n2_ := Aside0.mk (blk_below (g := gb308) (o := .cells #[.int .i64 a1_0, .int .i64 a1_1] 27 (0, 0)) (by (with_reducible repeat (first | apply blk_drewN | apply blk_drew | apply blk_alloc)); exact BK308.out) hb); have n3_ := Aside0.mk (blk_below (g := gb321) (o := .cells #[.int .i64 t312, .int .i64 t313, .int .i64 t314, .int .i64 t315] 23 (0, 0)) (by (with_reducible repeat (first | apply blk_drewN | apply blk_drew | apply blk_alloc)); exact BK321.out) hb); have n4_ := Aside0.mk (blk_below (g := gb322) (o := .cells #[.int .i64 t316, .int .i64 t317] 27 (0, 0)) (by (with_reducible repeat (first | apply blk_drewN | apply blk_drew | apply blk_alloc)); exact BK322.out) hb); have n5_ := Aside0.mk (below_step (by repeat (first | (with_reducible first | exact HB.out | apply below_alloc | apply pw_below_drewN | apply below_drew1 | refine below_set ?_ GE307.out | refine below_set ?_ GE308.out | refine below_set ?_ GE321.out | refine below_set ?_ GE322.out) | exact HB.out)) hb); have n6_ := Aside0.mk (hbox); have n7_ := Aside0.mk ((by rw [hg]; exact (below_size (by repeat (first | (with_reducible first | exact HB.out | apply below_alloc | apply pw_below_drewN | apply below_drew1 | refine below_set ?_ GE307.out | refine below_set ?_ GE308.out | refine below_set ?_ GE321.out | refine below_set ?_ GE322.out) | exact HB.out))) : w.heap.size ≤ gb327)); have n8_ := Aside0.mk ((by rw [hg]; exact (below_size (by repeat (first | (with_reducible first | exact HB.out | apply below_alloc | apply pw_below_drewN | apply below_drew1 | refine below_set ?_ GE307.out | refine below_set ?_ GE308.out | refine below_set ?_ GE321.out | refine below_set ?_ GE322.out) | exact HB.out))) : w.heap.size ≤ gb327)); have n9_ := Aside0.mk ((by rw [hg]; exact Nat.ne_of_lt (blk_lt (g := gb307) (o := .cells #[.int .i64 a0_0, .int .i64 a0_1, .int .i64 a0_2, .int .i64 a0_3] 23 (0, 0)) (by (with_reducible repeat (first | apply blk_drewN | apply blk_drew | apply blk_alloc)); exact BK307.out)) : gb307 ≠ gb327)); have n10_ := Aside0.mk ((by rw [hg]; exact Nat.ne_of_gt (blk_lt (g := gb307) (o := .cells #[.int .i64 a0_0, .int .i64 a0_1, .int .i64 a0_2, .int .i64 a0_3] 23 (0, 0)) (by (with_reducible repeat (first | apply blk_drewN | apply blk_drew | apply blk_alloc)); exact BK307.out)) : gb327 ≠ gb307)); have n11_ := Aside0.mk ((by rw [hg]; exact Nat.ne_of_lt (blk_lt (g := gb308) (o := .cells #[.int .i64 a1_0, .int .i64 a1_1] 27 (0, 0)) (by (with_reducible repeat (first | apply blk_drewN | apply blk_drew | apply blk_alloc)); exact BK308.out)) : gb308 ≠ gb327)); have n12_ := Aside0.mk ((by rw [hg]; exact Nat.ne_of_gt (blk_lt (g := gb308) (o := .cells #[.int .i64 a1_0, .int .i64 a1_1] 27 (0, 0)) (by (with_reducible repeat (first | apply blk_drewN | apply blk_drew | apply blk_alloc)); exact BK308.out)) : gb327 ≠ gb308)); have n13_ := Aside0.mk ((by rw [hg]; exact Nat.ne_of_lt (blk_lt (g := gb321) (o := .cells #[.int .i64 t312, .int .i64 t313, .int .i64 t314, .int .i64 t315] 23 (0, 0)) (by (with_reducible repeat (first | apply blk_drewN | apply blk_drew | apply blk_alloc)); exact BK321.out)) : gb321 ≠ gb327)); have n14_ := Aside0.mk ((by rw [hg]; exact Nat.ne_of_gt (blk_lt (g := gb321) (o := .cells #[.int .i64 t312, .int .i64 t313, .int .i64 t314, .int .i64 t315] 23 (0, 0)) (by (with_reducible repeat (first | apply blk_drewN | apply blk_drew | apply blk_alloc)); exact BK321.out)) : gb327 ≠ gb321)); have n15_ := Aside0.mk ((by rw [hg]; exact Nat.ne_of_lt (blk_lt (g := gb322) (o := .cells #[.int .i64 t316, .int .i64 t317] 27 (0, 0)) (by (with_reducible repeat (first | apply blk_drewN | apply blk_drew | apply blk_alloc)); exact BK322.out)) : gb322 ≠ gb327)); have n16_ := Aside0.mk ((by rw [hg]; exact Nat.ne_of_gt (blk_lt (g := gb322) (o := .cells #[.int .i64 t316, .int .i64 t317] 27 (0, 0)) (by (with_reducible repeat (first | apply blk_drewN | apply blk_drew | apply blk_alloc)); exact BK322.out)) : gb327 ≠ gb322)); clear HO_53; clear BK307; clear BK308; clear BK321; clear BK322; clear HB; have HO_53 := n0_; have BK307 := n1_; have BK308 := n2_; have BK321 := n3_; have BK322 := n4_; have HB := n5_; have BK327 := n6_; have GW327 := n7_; have GE327 := n8_; have NB307_327 := n9_; have NB327_307 := n10_; have NB308_327 := n11_; have NB327_308 := n12_; have NB321_327 := n13_; have NB327_321 := n14_; have NB322_327 := n15_; have NB327_322 := n16_; clear n0_ n1_ n2_ n3_ n4_ n5_ n6_ n7_ n8_ n9_ n10_ n11_ n12_ n13_ n14_ n15_ n16_; clear hb hbox hg; have hnb39 := NB327_307.out; have hnc39 := NB307_327.out; have hnb40 := NB327_308.out; have hnc40 := NB308_327.out; have hnb41 := NB327_321.out; have hnc41 := NB321_327.out; have hnb42 := NB327_322.out; have hnc42 := NB322_327.out; have hcz43_0 : w38.cell? ⟨gb327, 0, none⟩ = some (.int .i64 0) := (blk_cell BK327.out 0).trans rfl; have hcz43_1 : w38.cell? ⟨gb327, 1, none⟩ = some (.int .i64 0) := (blk_cell BK327.out 1).trans rfl; have hcz43_2 : w38.cell? ⟨gb327, 2, none⟩ = some (.int .i64 0) := (blk_cell BK327.out 2).trans rfl; have hcz43_3 : w38.cell? ⟨gb327, 3, none⟩ = some (.int .i64 0) := (blk_cell BK327.out 3).trans rfl; have hfz43_0 := blk_frozen BK327.out 0; have hfz43_1 := blk_frozen BK327.out 1; have hfz43_2 := blk_frozen BK327.out 2; have hfz43_3 := blk_frozen BK327.out 3; have hnb44 := NB308_307.out; have hnc44 := NB307_308.out; have hnb45 := NB308_321.out; have hnc45 := NB321_308.out; have hnb46 := NB308_322.out; have hnc46 := NB322_308.out; have hcz47_0 : w38.cell? ⟨gb308, 0, none⟩ = some (.int .i64 a1_0) := (blk_cell BK308.out 0).trans rfl; have hcz47_1 : w38.cell? ⟨gb308, 1, none⟩ = some (.int .i64 a1_1) := (blk_cell BK308.out 1).trans rfl; have hfz47_0 := blk_frozen BK308.out 0; have hfz47_1 := blk_frozen BK308.out 1; have hnb48 := NB322_307.out; have hnc48 := NB307_322.out; have hnb49 := NB322_321.out; have hnc49 := NB321_322.out; have hcz50_0 : w38.cell? ⟨gb322, 0, none⟩ = some (.int .i64 t316) := (blk_cell BK322.out 0).trans rfl; have hcz50_1 : w38.cell? ⟨gb322, 1, none⟩ = some (.int .i64 t317) := (blk_cell BK322.out 1).trans rfl; have hfz50_0 := blk_frozen BK322.out 0; have hfz50_1 := blk_frozen BK322.out 1) | ((with_reducible refine gate_dst (N := 61) rfl ?_); refine Kd.R_lit k27 _ 27 ?hg (N := 61) ?hd (xs := ([(⟨a1_0, a1_1⟩ : S27), (⟨t316, t317⟩ : S27)] : List (S27))) (inner := [.int .i64 a1_0, .int .i64 a1_1, .int .i64 t316, .int .i64 t317]) (ok := fun _ => True) (okp := fun _ => True) ?hr ?hp (fun _ hk => hk) trivial (Below.refl _ _) (Nat.le_refl _) (by simp) ?_; (case hd => rfl); (case hg => rfl); (case hr => first | (go_simp; done) | (go_simp; rfl)); (case hp => exact (Reps.c2 (show Kd.M k27 _ _ _ (⟨a1_0, a1_1⟩ : S27) [.int .i64 a1_0, .int .i64 a1_1] from (k27_mkM _ _ _ (⟨a1_0, a1_1⟩ : S27) )) (Reps.c2 (show Kd.M k27 _ _ _ (⟨t316, t317⟩ : S27) [.int .i64 t316, .int .i64 t317] from (k27_mkM _ _ _ (⟨t316, t317⟩ : S27) )) (Reps.none _ _)))); intro v329 w51 ho52 hb hg_ hnew_; clear hg_ hnew_; (first | rw [← Ny328.out] at ho52 | (simp only [Int.reduceToNat] at ho52; rw [← Ny328.out] at ho52)); have n0_ := Aside0.mk (Kd.R_below (by (with_reducible repeat (first | apply Kd.R_alloc | apply Kd.R_drewN | apply Kd.R_drew)); exact (Kd.R_mono (Kd.R_far (p := ⟨gb327, 3, none⟩) (Kd.R_far (p := ⟨gb327, 2, none⟩) (Kd.R_far (p := ⟨gb327, 1, none⟩) (Kd.R_far (p := ⟨gb327, 0, none⟩) (Kd.R_mono HO_53.out (fun k_ hk => (⟨hk, hk.2⟩ : _ ∧ k_ ≠ gb327))) (fun _ hk => hk.2) (.int .i64 ((rd_T23 y323 x55_1).f0))) (fun _ hk => hk.2) (.int .i64 ((rd_T23 y323 x55_1).f1))) (fun _ hk => hk.2) (.int .i64 ((rd_T23 y323 x55_1).f2))) (fun _ hk => hk.2) (.int .i64 ((rd_T23 y323 x55_1).f3))) (fun _ h_ => h_.1))) hb); have n1_ := Aside0.mk (Kd.R_lower (Kd.R_newB (Kd.R_newB ho52 (g := gb308) (o := .cells #[.int .i64 a1_0, .int .i64 a1_1] 27 (0, 0)) (by (with_reducible repeat (first | apply blk_drewN | apply blk_drew | apply blk_alloc)); refine blk_far ?_ NB308_327.out _; (with_reducible repeat (first | apply blk_drewN | apply blk_drew | apply blk_alloc)); refine blk_far ?_ NB308_327.out _; (with_reducible repeat (first | apply blk_drewN | apply blk_drew | apply blk_alloc)); refine blk_far ?_ NB308_327.out _; (with_reducible repeat (first | apply blk_drewN | apply blk_drew | apply blk_alloc)); refine blk_far ?_ NB308_327.out _; (with_reducible repeat (first | apply blk_drewN | apply blk_drew | apply blk_alloc)); exact BK308.out)) (g := gb322) (o := .cells #[.int .i64 t316, .int .i64 t317] 27 (0, 0)) (by (with_reducible repeat (first | apply blk_drewN | apply blk_drew | apply blk_alloc)); refine blk_far ?_ NB322_327.out _; (with_reducible repeat (first | apply blk_drewN | apply blk_drew | apply blk_alloc)); refine blk_far ?_ NB322_327.out _; (with_reducible repeat (first | apply blk_drewN | apply blk_drew | apply blk_alloc)); refine blk_far ?_ NB322_327.out _; (with_reducible repeat (first | apply blk_drewN | apply blk_drew | apply blk_alloc)); refine blk_far ?_ NB322_327.out _; (with_reducible repeat (first | apply blk_drewN | apply blk_drew | apply blk_alloc)); exact BK322.out)) (below_size (by repeat (first | (with_reducible first | exact HB.out | apply below_alloc | apply pw_below_drewN | apply below_drew1 | refine below_set ?_ GE307.out | refine below_set ?_ GE308.out | refine below_set ?_ GE321.out | refine below_set ?_ GE322.out | refine below_set ?_ GE327.out) | exact HB.out)))); have n2_ := Aside0.mk (blk_below (g := gb307) (o := .cells #[.int .i64 a0_0, .int .i64 a0_1, .int .i64 a0_2, .int .i64 a0_3] 23 (0, 0)) (by (with_reducible repeat (first | apply blk_drewN | apply blk_drew | apply blk_alloc)); refine blk_far ?_ NB307_327.out _; (with_reducible repeat (first | apply blk_drewN | apply blk_drew | apply blk_alloc)); refine blk_far ?_ NB307_327.out _; (with_reducible repeat (first | apply blk_drewN | apply blk_drew | apply blk_alloc)); refine blk_far ?_ NB307_327.out _; (with_reducible repeat (first | apply blk_drewN | apply blk_drew | apply blk_alloc)); refine blk_far ?_ NB307_327.out _; (with_reducible repeat (first | apply blk_drewN | apply blk_drew | apply blk_alloc)); exact BK307.out) hb); have n3_ := Aside0.mk (blk_below (g := gb308) (o := .cells #[.int .i64 a1_0, .int .i64 a1_1] 27 (0, 0)) (by (with_reducible repeat (first | apply blk_drewN | apply blk_drew | apply blk_alloc)); refine blk_far ?_ NB308_327.out _; (with_reducible repeat (first | apply blk_drewN | apply blk_drew | apply blk_alloc)); refine blk_far ?_ NB308_327.out _; (with_reducible repeat (first | apply blk_drewN | apply blk_drew | apply blk_alloc)); refine blk_far ?_ NB308_327.out _; (with_reducible repeat (first | apply blk_drewN | apply blk_drew | apply blk_alloc)); refine blk_far ?_ NB308_327.out _; (with_reducible repeat (first | apply blk_drewN | apply blk_drew | apply blk_alloc)); exact BK308.out) hb); have n4_ := Aside0.mk (blk_below (g := gb321) (o := .cells #[.int .i64 t312, .int .i64 t313, .int .i64 t314, .int .i64 t315] 23 (0, 0)) (by (with_reducible repeat (first | apply blk_drewN | apply blk_drew | apply blk_alloc)); refine blk_far ?_ NB321_327.out _; (with_reducible repeat (first | apply blk_drewN | apply blk_drew | apply blk_alloc)); refine blk_far ?_ NB321_327.out _; (with_reducible repeat (first | apply blk_drewN | apply blk_drew | apply blk_alloc)); refine blk_far ?_ NB321_327.out _; (with_reducible repeat (first | apply blk_drewN | apply blk_drew | apply blk_alloc)); refine blk_far ?_ NB321_327.out _; (with_reducible repeat (first | apply blk_drewN | apply blk_drew | apply blk_alloc)); exact BK321.out) hb); have n5_ := Aside0.mk (blk_below (g := gb322) (o := .cells #[.int .i64 t316, .int .i64 t317] 27 (0, 0)) (by (with_reducible repeat (first | apply blk_drewN | apply blk_drew | apply blk_alloc)); refine blk_far ?_ NB322_327.out _; (with_reducible repeat (first | apply blk_drewN | apply blk_drew | apply blk_alloc)); refine blk_far ?_ NB322_327.out _; (with_reducible repeat (first | apply blk_drewN | apply blk_drew | apply blk_alloc)); refine blk_far ?_ NB322_327.out _; (with_reducible repeat (first | apply blk_drewN | apply blk_drew | apply blk_alloc)); refine blk_far ?_ NB322_327.out _; (with_reducible repeat (first | apply blk_drewN | apply blk_drew | apply blk_alloc)); exact BK322.out) hb); have n6_ := Aside0.mk (blk_below (g := gb327) (o := .cells #[.int .i64 ((rd_T23 y323 x55_1).f0), .int .i64 ((rd_T23 y323 x55_1).f1), .int .i64 ((rd_T23 y323 x55_1).f2), .int .i64 ((rd_T23 y323 x55_1).f3)] 23 (0, 0)) (by (with_reducible repeat (first | apply blk_drewN | apply blk_drew | apply blk_alloc)); refine blk_put (cs := #[.int .i64 ((rd_T23 y323 x55_1).f0), .int .i64 ((rd_T23 y323 x55_1).f1), .int .i64 ((rd_T23 y323 x55_1).f2), .int .i64 0]) ?_ 3 _ rfl; (with_reducible repeat (first | apply blk_drewN | apply blk_drew | apply blk_alloc)); refine blk_put (cs := #[.int .i64 ((rd_T23 y323 x55_1).f0), .int .i64 ((rd_T23 y323 x55_1).f1), .int .i64 0, .int .i64 0]) ?_ 2 _ rfl; (with_reducible repeat (first | apply blk_drewN | apply blk_drew | apply blk_alloc)); refine blk_put (cs := #[.int .i64 ((rd_T23 y323 x55_1).f0), .int .i64 0, .int .i64 0, .int .i64 0]) ?_ 1 _ rfl; (with_reducible repeat (first | apply blk_drewN | apply blk_drew | apply blk_alloc)); refine blk_put (cs := #[.int .i64 0, .int .i64 0, .int .i64 0, .int .i64 0]) ?_ 0 _ rfl; (with_reducible repeat (first | apply blk_drewN | apply blk_drew | apply blk_alloc)); exact BK327.out) hb); have n7_ := Aside0.mk (below_step (by repeat (first | (with_reducible first | exact HB.out | apply below_alloc | apply pw_below_drewN | apply below_drew1 | refine below_set ?_ GE307.out | refine below_set ?_ GE308.out | refine below_set ?_ GE321.out | refine below_set ?_ GE322.out | refine below_set ?_ GE327.out) | exact HB.out)) hb); clear HO_53; clear BK307; clear BK308; clear BK321; clear BK322; clear BK327; clear HB; have HO_53 := n0_; have HO330 := n1_; have BK307 := n2_; have BK308 := n3_; have BK321 := n4_; have BK322 := n5_; have BK327 := n6_; have HB := n7_; clear n0_ n1_ n2_ n3_ n4_ n5_ n6_ n7_; clear hb ho52; obtain ⟨Ao53, co53, eo53⟩ := Kd.R_slice HO330.out; subst eo53))
       go_loopg [63] k1 (fun kq v63 w' => ∃ (x63_2 : Int), v63 = .int .i64 x63_2 ∧ Aside0 (soundservicelaw18_ControlBounds.l1 kq a3 a4 a5 a6 a7 t318 t319 y323 (y323.length : Int) x55_1 y328 (y328.length : Int) x63_2 a1_0 a1_1 t316 t317 ((rd_T23 y323 x55_1).f0) ((rd_T23 y323 x55_1).f1) ((rd_T23 y323 x55_1).f2) ((rd_T23 y323 x55_1).f3) = some r) ∧ Aside0 (kq ≤ k1) ∧ Aside0 (Kd.R k23 23 w' w.heap.size (fun k_ => k_ ≠ gb307 ∧ k_ ≠ gb321 ∧ k_ ≠ gb327) (.slice (some ad326) y323.length co34) y323) ∧ Aside0 (Kd.R k27 27 w' w.heap.size (fun k_ => k_ ≠ gb308 ∧ k_ ≠ gb322) (.slice Ao53 y328.length co53) y328) ∧ Aside0 (w'.heap[gb307]? = some (.cells #[.int .i64 a0_0, .int .i64 a0_1, .int .i64 a0_2, .int .i64 a0_3] 23 (0, 0))) ∧ Aside0 (w'.heap[gb308]? = some (.cells #[.int .i64 a1_0, .int .i64 a1_1] 27 (0, 0))) ∧ Aside0 (w'.heap[gb321]? = some (.cells #[.int .i64 t312, .int .i64 t313, .int .i64 t314, .int .i64 t315] 23 (0, 0))) ∧ Aside0 (w'.heap[gb322]? = some (.cells #[.int .i64 t316, .int .i64 t317] 27 (0, 0))) ∧ Aside0 (w'.heap[gb327]? = some (.cells #[.int .i64 ((rd_T23 y323 x55_1).f0), .int .i64 ((rd_T23 y323 x55_1).f1), .int .i64 ((rd_T23 y323 x55_1).f2), .int .i64 ((rd_T23 y323 x55_1).f3)] 23 (0, 0))) ∧ Aside0 (Below w.heap.size w w'))
       case atStart => exact ⟨(0), (by first | rfl | (simp; done) | (simp [*]; done)), H', ⟨Nat.le_refl _⟩, ⟨by (with_reducible repeat (first | apply Kd.R_alloc | apply Kd.R_drewN | apply Kd.R_drew)); exact Kd.R_mono HO_53.out (fun _ hk => ⟨hk.1.1, ⟨hk.1.2, hk.2⟩⟩)⟩, ⟨by (with_reducible repeat (first | apply Kd.R_alloc | apply Kd.R_drewN | apply Kd.R_drew)); exact Kd.R_mono HO330.out (fun _ hk => ⟨hk.1.2, hk.2⟩)⟩, ⟨by (with_reducible repeat (first | apply blk_drewN | apply blk_drew | apply blk_alloc)); exact BK307.out⟩, ⟨by (with_reducible repeat (first | apply blk_drewN | apply blk_drew | apply blk_alloc)); exact BK308.out⟩, ⟨by (with_reducible repeat (first | apply blk_drewN | apply blk_drew | apply blk_alloc)); exact BK321.out⟩, ⟨by (with_reducible repeat (first | apply blk_drewN | apply blk_drew | apply blk_alloc)); exact BK322.out⟩, ⟨by (with_reducible repeat (first | apply blk_drewN | apply blk_drew | apply blk_alloc)); exact BK327.out⟩, ⟨by repeat (first | (with_reducible first | exact HB.out | apply below_alloc | apply pw_below_drewN | apply below_drew1 | refine below_set ?_ GE307.out | refine below_set ?_ GE308.out | refine below_set ?_ GE321.out | refine below_set ?_ GE322.out | refine below_set ?_ GE327.out) | exact HB.out)⟩⟩
       case round =>
        clear H'
        try clear c1
        try clear c2
        try clear p2
        try clear c3
        try clear p3
        try clear q3
        try clear hx3
        try clear c4
        try clear c6
        try clear c10
        try clear c11
        try clear c12
        try clear c20
        try clear c21
        try clear c22
        try clear c23
        try clear c25
        try clear c26
        try clear c27
        try clear c29
        try clear c30
        try clear p32
        try clear q32
        try clear hx32
        try clear c35
        try clear c35b0
        try clear c36
        try clear c36b0
        try clear c37
        try clear c37b0
        try clear c39
        try clear c40
        try clear c41
        try clear c42
        try clear c44
        try clear c45
        try clear c46
        try clear c48
        try clear c49
        try clear hcz24_0
        try clear hcz24_1
        try clear hcz24_2
        try clear hcz24_3
        try clear hcz28_0
        try clear hcz28_1
        try clear hcz31_0
        try clear hcz31_1
        try clear hcz31_2
        try clear hcz31_3
        try clear hcz43_0
        try clear hcz43_1
        try clear hcz43_2
        try clear hcz43_3
        try clear hcz47_0
        try clear hcz47_1
        try clear hcz50_0
        try clear hcz50_1
        try clear hfz24_0
        try clear hfz24_1
        try clear hfz24_2
        try clear hfz24_3
        try clear hfz28_0
        try clear hfz28_1
        try clear hfz31_0
        try clear hfz31_1
        try clear hfz31_2
        try clear hfz31_3
        try clear hfz43_0
        try clear hfz43_1
        try clear hfz43_2
        try clear hfz43_3
        try clear hfz47_0
        try clear hfz47_1
        try clear hfz50_0
        try clear hfz50_1
        try clear hx326_0
        try clear hx326_1
        try clear hx326_2
        try clear hx326_3
        try clear p2
        try clear p326
        try clear q326
        obtain ⟨x63_2, rfl, HA, HK2, HO_53, HO_61, BK307, BK308, BK321, BK322, BK327, HB⟩ := hrel
        cases gk with
        | zero => exact absurd HA.out (by simp [soundservicelaw18_ControlBounds.l1])
        | succ k2 =>
         have H := HA.out
         clear HA
         simp only [soundservicelaw18_ControlBounds.l1] at H
         by_cases c54 : x63_2 < (y328.length : Int)
         ·rw [if_pos c54] at H
          have c54b0 : decide (x63_2 < (y328.length : Int)) = true := decide_eq_true c54
          clear c54
          by_cases c55 : 0 ≤ x63_2
          ·rw [if_pos c55] at H
           have c55b0 : decide (0 ≤ x63_2) = true := decide_eq_true c55
           clear c55
           by_cases c56 : x63_2 < (y328.length : Int)
           ·rw [if_pos c56] at H
            have c56b0 : decide (x63_2 < (y328.length : Int)) = true := decide_eq_true c56
            clear c56
            obtain ⟨y333, hy333⟩ : ∃ y_ : List (S44), y_ = (([(⟨a3, a4, a5⟩ : S44), (⟨t318, t319, Int.tmod (wrap64 ((Int.tmod a5 100) + 100)) 100⟩ : S44)] : List (S44))) := ⟨_, rfl⟩
            replace H : (soundservicelaw18_ControlBounds.l2 k2 a3 a4 a5 a6 a7 t318 t319 y323 (y323.length : Int) x55_1 y328 (y328.length : Int) x63_2 y333 (y333.length : Int) 0 a1_0 a1_1 t316 t317 ((rd_T23 y323 x55_1).f0) ((rd_T23 y323 x55_1).f1) ((rd_T23 y323 x55_1).f2) ((rd_T23 y323 x55_1).f3) ((rd_T27 y328 x63_2).f0) ((rd_T27 y328 x63_2).f1)) = some r := by first | (rw [hy333]; with_reducible exact H) | (have H2_ := (Option.bind_some _ _).symm.trans H; rw [hy333]; with_reducible exact H2_) | (have H2_ := (Option.bind_some _ _).symm.trans H; with_reducible exact H2_) | with_reducible exact H | (rw [hy333]; exact H) | exact H
            have Ny333 := Aside0.mk hy333
            clear hy333
            have H' := Aside0.mk H
            clear H
            have p331 : 0 ≤ (x63_2 : Int) := of_decide_eq_true (by first | (with_reducible assumption) | assumption)
            have q331 : x63_2 < (y328.length : Int) := of_decide_eq_true (by first | (with_reducible assumption) | assumption)
            obtain ⟨ad331, e331, hx331_0, hx331_1⟩ := at_T27 (Kd.R_reads' HO_61.out).2.2 x63_2 p331 q331
            cases e331
            replace p331 := eq_true p331
            replace q331 := eq_true q331
            go_wp2_with (first | ((with_reducible refine gate_dst (N := 24) rfl ?_); refine box_event ?hg (N := 24) ?hd (cs := #[.int .i64 0, .int .i64 0]) (t := 27) ?hr ?_; (case hd => rfl); (case hg => rfl); (case hr => first | (go_simp; done) | (go_simp; rfl)); intro gb332 hg w57 hbox hb; have n0_ := Aside0.mk (Kd.R_below (by (with_reducible repeat (first | apply Kd.R_alloc | apply Kd.R_drewN | apply Kd.R_drew)); exact HO_53.out) hb); have n1_ := Aside0.mk (Kd.R_below (Kd.R_elderB (by (with_reducible repeat (first | apply Kd.R_alloc | apply Kd.R_drewN | apply Kd.R_drew)); exact HO_61.out) gb332 (Nat.le_of_eq hg.symm)) hb); have n2_ := Aside0.mk (blk_below (g := gb307) (o := .cells #[.int .i64 a0_0, .int .i64 a0_1, .int .i64 a0_2, .int .i64 a0_3] 23 (0, 0)) (by (with_reducible repeat (first | apply blk_drewN | apply blk_drew | apply blk_alloc)); exact BK307.out) hb); have n3_ := Aside0.mk (blk_below (g := gb308) (o := .cells #[.int .i64 a1_0, .int .i64 a1_1] 27 (0, 0)) (by (with_reducible repeat (first | apply blk_drewN | apply blk_drew | apply blk_alloc)); exact BK308.out) hb); have n4_ := Aside0.mk (blk_below (g := gb321) (o := .cells #[.int .i64 t312, .int .i64 t313, .int .i64 t314, .int .i64 t315] 23 (0, 0)) (by (with_reducible repeat (first | apply blk_drewN | apply blk_drew | apply blk_alloc)); exact BK321.out) hb); have n5_ := Aside0.mk (blk_below (g := gb322) (o := .cells #[.int .i64 t316, .int .i64 t317] 27 (0, 0)) (by (with_reducible repeat (first | apply blk_drewN | apply blk_drew | apply blk_alloc)); exact BK322.out) hb); have n6_ := Aside0.mk (blk_below (g := gb327) (o := .cells #[.int .i64 ((rd_T23 y323 x55_1).f0), .int .i64 ((rd_T23 y323 x55_1).f1), .int .i64 ((rd_T23 y323 x55_1).f2), .int .i64 ((rd_T23 y323 x55_1).f3)] 23 (0, 0)) (by (with_reducible repeat (first | apply blk_drewN | apply blk_drew | apply blk_alloc)); exact BK327.out) hb); have n7_ := Aside0.mk (below_step (by repeat (first | (with_reducible first | exact HB.out | apply below_alloc | apply pw_below_drewN | apply below_drew1 | refine below_set ?_ GE307.out | refine below_set ?_ GE308.out | refine below_set ?_ GE321.out | refine below_set ?_ GE322.out | refine below_set ?_ GE327.out) | exact HB.out)) hb); have n8_ := Aside0.mk (hbox); have n9_ := Aside0.mk ((by rw [hg]; exact (below_size (by repeat (first | (with_reducible first | exact HB.out | apply below_alloc | apply pw_below_drewN | apply below_drew1 | refine below_set ?_ GE307.out | refine below_set ?_ GE308.out | refine below_set ?_ GE321.out | refine below_set ?_ GE322.out | refine below_set ?_ GE327.out) | exact HB.out))) : w.heap.size ≤ gb332)); have n10_ := Aside0.mk ((by rw [hg]; exact (below_size (by repeat (first | (with_reducible first | exact HB.out | apply below_alloc | apply pw_below_drewN | apply below_drew1 | refine below_set ?_ GE307.out | refine below_set ?_ GE308.out | refine below_set ?_ GE321.out | refine below_set ?_ GE322.out | refine below_set ?_ GE327.out) | exact HB.out))) : w.heap.size ≤ gb332)); have n11_ := Aside0.mk ((by rw [hg]; exact Nat.ne_of_lt (blk_lt (g := gb307) (o := .cells #[.int .i64 a0_0, .int .i64 a0_1, .int .i64 a0_2, .int .i64 a0_3] 23 (0, 0)) (by (with_reducible repeat (first | apply blk_drewN | apply blk_drew | apply blk_alloc)); exact BK307.out)) : gb307 ≠ gb332)); have n12_ := Aside0.mk ((by rw [hg]; exact Nat.ne_of_gt (blk_lt (g := gb307) (o := .cells #[.int .i64 a0_0, .int .i64 a0_1, .int .i64 a0_2, .int .i64 a0_3] 23 (0, 0)) (by (with_reducible repeat (first | apply blk_drewN | apply blk_drew | apply blk_alloc)); exact BK307.out)) : gb332 ≠ gb307)); have n13_ := Aside0.mk ((by rw [hg]; exact Nat.ne_of_lt (blk_lt (g := gb308) (o := .cells #[.int .i64 a1_0, .int .i64 a1_1] 27 (0, 0)) (by (with_reducible repeat (first | apply blk_drewN | apply blk_drew | apply blk_alloc)); exact BK308.out)) : gb308 ≠ gb332)); have n14_ := Aside0.mk ((by rw [hg]; exact Nat.ne_of_gt (blk_lt (g := gb308) (o := .cells #[.int .i64 a1_0, .int .i64 a1_1] 27 (0, 0)) (by (with_reducible repeat (first | apply blk_drewN | apply blk_drew | apply blk_alloc)); exact BK308.out)) : gb332 ≠ gb308)); have n15_ := Aside0.mk ((by rw [hg]; exact Nat.ne_of_lt (blk_lt (g := gb321) (o := .cells #[.int .i64 t312, .int .i64 t313, .int .i64 t314, .int .i64 t315] 23 (0, 0)) (by (with_reducible repeat (first | apply blk_drewN | apply blk_drew | apply blk_alloc)); exact BK321.out)) : gb321 ≠ gb332)); have n16_ := Aside0.mk ((by rw [hg]; exact Nat.ne_of_gt (blk_lt (g := gb321) (o := .cells #[.int .i64 t312, .int .i64 t313, .int .i64 t314, .int .i64 t315] 23 (0, 0)) (by (with_reducible repeat (first | apply blk_drewN | apply blk_drew | apply blk_alloc)); exact BK321.out)) : gb332 ≠ gb321)); have n17_ := Aside0.mk ((by rw [hg]; exact Nat.ne_of_lt (blk_lt (g := gb322) (o := .cells #[.int .i64 t316, .int .i64 t317] 27 (0, 0)) (by (with_reducible repeat (first | apply blk_drewN | apply blk_drew | apply blk_alloc)); exact BK322.out)) : gb322 ≠ gb332)); have n18_ := Aside0.mk ((by rw [hg]; exact Nat.ne_of_gt (blk_lt (g := gb322) (o := .cells #[.int .i64 t316, .int .i64 t317] 27 (0, 0)) (by (with_reducible repeat (first | apply blk_drewN | apply blk_drew | apply blk_alloc)); exact BK322.out)) : gb332 ≠ gb322)); have n19_ := Aside0.mk ((by rw [hg]; exact Nat.ne_of_lt (blk_lt (g := gb327) (o := .cells #[.int .i64 ((rd_T23 y323 x55_1).f0), .int .i64 ((rd_T23 y323 x55_1).f1), .int .i64 ((rd_T23 y323 x55_1).f2), .int .i64 ((rd_T23 y323 x55_1).f3)] 23 (0, 0)) (by (with_reducible repeat (first | apply blk_drewN | apply blk_drew | apply blk_alloc)); exact BK327.out)) : gb327 ≠ gb332)); have n20_ := Aside0.mk ((by rw [hg]; exact Nat.ne_of_gt (blk_lt (g := gb327) (o := .cells #[.int .i64 ((rd_T23 y323 x55_1).f0), .int .i64 ((rd_T23 y323 x55_1).f1), .int .i64 ((rd_T23 y323 x55_1).f2), .int .i64 ((rd_T23 y323 x55_1).f3)] 23 (0, 0)) (by (with_reducible repeat (first | apply blk_drewN | apply blk_drew | apply blk_alloc)); exact BK327.out)) : gb332 ≠ gb327)); clear HO_53; clear HO_61; clear BK307; clear BK308; clear BK321; clear BK322; clear BK327; clear HB; have HO_53 := n0_; have HO_61 := n1_; have BK307 := n2_; have BK308 := n3_; have BK321 := n4_; have BK322 := n5_; have BK327 := n6_; have HB := n7_; have BK332 := n8_; have GW332 := n9_; have GE332 := n10_; have NB307_332 := n11_; have NB332_307 := n12_; have NB308_332 := n13_; have NB332_308 := n14_; have NB321_332 := n15_; have NB332_321 := n16_; have NB322_332 := n17_; have NB332_322 := n18_; have NB327_332 := n19_; have NB332_327 := n20_; clear n0_ n1_ n2_ n3_ n4_ n5_ n6_ n7_ n8_ n9_ n10_ n11_ n12_ n13_ n14_ n15_ n16_ n17_ n18_ n19_ n20_; clear hb hbox hg; have hnb58 := NB332_307.out; have hnc58 := NB307_332.out; have hnb59 := NB332_308.out; have hnc59 := NB308_332.out; have hnb60 := NB332_321.out; have hnc60 := NB321_332.out; have hnb61 := NB332_322.out; have hnc61 := NB322_332.out; have hnb62 := NB332_327.out; have hnc62 := NB327_332.out; have hcz63_0 : w57.cell? ⟨gb332, 0, none⟩ = some (.int .i64 0) := (blk_cell BK332.out 0).trans rfl; have hcz63_1 : w57.cell? ⟨gb332, 1, none⟩ = some (.int .i64 0) := (blk_cell BK332.out 1).trans rfl; have hfz63_0 := blk_frozen BK332.out 0; have hfz63_1 := blk_frozen BK332.out 1) | ((with_reducible refine gate_dst (N := 78) rfl ?_); refine Kd.R_lit k44 _ 44 ?hg (N := 78) ?hd (xs := ([(⟨a3, a4, a5⟩ : S44), (⟨t318, t319, Int.tmod (wrap64 ((Int.tmod a5 100) + 100)) 100⟩ : S44)] : List (S44))) (inner := [.int .i64 a3, .int .i64 a4, .int .i64 a5, .int .i64 t318, .int .i64 t319, .int .i64 (Int.tmod (wrap64 ((Int.tmod a5 100) + 100)) 100)]) (ok := fun _ => True) (okp := fun _ => True) ?hr ?hp (fun _ hk => hk) trivial (Below.refl _ _) (Nat.le_refl _) (by simp) ?_; (case hd => rfl); (case hg => rfl); (case hr => first | (go_simp; done) | (go_simp; rfl)); (case hp => exact (Reps.c3 (show Kd.M k44 _ _ _ (⟨a3, a4, a5⟩ : S44) [.int .i64 a3, .int .i64 a4, .int .i64 a5] from (k44_mkM _ _ _ (⟨a3, a4, a5⟩ : S44) )) (Reps.c3 (show Kd.M k44 _ _ _ (⟨t318, t319, Int.tmod (wrap64 ((Int.tmod a5 100) + 100)) 100⟩ : S44) [.int .i64 t318, .int .i64 t319, .int .i64 (Int.tmod (wrap64 ((Int.tmod a5 100) + 100)) 100)] from (k44_mkM _ _ _ (⟨t318, t319, Int.tmod (wrap64 ((Int.tmod a5 100) + 100)) 100⟩ : S44) )) (Reps.none _ _)))); intro v334 w64 ho65 hb hg_ hnew_; clear hg_ hnew_; (first | rw [← Ny333.out] at ho65 | (simp only [Int.reduceToNat] at ho65; rw [← Ny333.out] at ho65)); have n0_ := Aside0.mk (Kd.R_below (by (with_reducible repeat (first | apply Kd.R_alloc | apply Kd.R_drewN | apply Kd.R_drew)); exact (Kd.R_mono (Kd.R_far (p := ⟨gb332, 1, none⟩) (Kd.R_far (p := ⟨gb332, 0, none⟩) (Kd.R_types HO_53.out BK332.out (by decide)) (fun _ hk => hk.2) (.int .i64 ((rd_T27 y328 x63_2).f0))) (fun _ hk => hk.2) (.int .i64 ((rd_T27 y328 x63_2).f1))) (fun _ h_ => h_.1))) hb); have n1_ := Aside0.mk (Kd.R_below (by (with_reducible repeat (first | apply Kd.R_alloc | apply Kd.R_drewN | apply Kd.R_drew)); exact (Kd.R_mono (Kd.R_far (p := ⟨gb332, 1, none⟩) (Kd.R_far (p := ⟨gb332, 0, none⟩) (Kd.R_mono HO_61.out (fun k_ hk => (⟨hk, hk.2⟩ : _ ∧ k_ ≠ gb332))) (fun _ hk => hk.2) (.int .i64 ((rd_T27 y328 x63_2).f0))) (fun _ hk => hk.2) (.int .i64 ((rd_T27 y328 x63_2).f1))) (fun _ h_ => h_.1))) hb); have n2_ := Aside0.mk (Kd.R_lower ho65 (below_size (by repeat (first | (with_reducible first | exact HB.out | apply below_alloc | apply pw_below_drewN | apply below_drew1 | refine below_set ?_ GE307.out | refine below_set ?_ GE308.out | refine below_set ?_ GE321.out | refine below_set ?_ GE322.out | refine below_set ?_ GE327.out | refine below_set ?_ GE332.out) | exact HB.out)))); have n3_ := Aside0.mk (blk_below (g := gb307) (o := .cells #[.int .i64 a0_0, .int .i64 a0_1, .int .i64 a0_2, .int .i64 a0_3] 23 (0, 0)) (by (with_reducible repeat (first | apply blk_drewN | apply blk_drew | apply blk_alloc)); refine blk_far ?_ NB307_332.out _; (with_reducible repeat (first | apply blk_drewN | apply blk_drew | apply blk_alloc)); refine blk_far ?_ NB307_332.out _; (with_reducible repeat (first | apply blk_drewN | apply blk_drew | apply blk_alloc)); exact BK307.out) hb); have n4_ := Aside0.mk (blk_below (g := gb308) (o := .cells #[.int .i64 a1_0, .int .i64 a1_1] 27 (0, 0)) (by (with_reducible repeat (first | apply blk_drewN | apply blk_drew | apply blk_alloc)); refine blk_far ?_ NB308_332.out _; (with_reducible repeat (first | apply blk_drewN | apply blk_drew | apply blk_alloc)); refine blk_far ?_ NB308_332.out _; (with_reducible repeat (first | apply blk_drewN | apply blk_drew | apply blk_alloc)); exact BK308.out) hb); have n5_ := Aside0.mk (blk_below (g := gb321) (o := .cells #[.int .i64 t312, .int .i64 t313, .int .i64 t314, .int .i64 t315] 23 (0, 0)) (by (with_reducible repeat (first | apply blk_drewN | apply blk_drew | apply blk_alloc)); refine blk_far ?_ NB321_332.out _; (with_reducible repeat (first | apply blk_drewN | apply blk_drew | apply blk_alloc)); refine blk_far ?_ NB321_332.out _; (with_reducible repeat (first | apply blk_drewN | apply blk_drew | apply blk_alloc)); exact BK321.out) hb); have n6_ := Aside0.mk (blk_below (g := gb322) (o := .cells #[.int .i64 t316, .int .i64 t317] 27 (0, 0)) (by (with_reducible repeat (first | apply blk_drewN | apply blk_drew | apply blk_alloc)); refine blk_far ?_ NB322_332.out _; (with_reducible repeat (first | apply blk_drewN | apply blk_drew | apply blk_alloc)); refine blk_far ?_ NB322_332.out _; (with_reducible repeat (first | apply blk_drewN | apply blk_drew | apply blk_alloc)); exact BK322.out) hb); have n7_ := Aside0.mk (blk_below (g := gb327) (o := .cells #[.int .i64 ((rd_T23 y323 x55_1).f0), .int .i64 ((rd_T23 y323 x55_1).f1), .int .i64 ((rd_T23 y323 x55_1).f2), .int .i64 ((rd_T23 y323 x55_1).f3)] 23 (0, 0)) (by (with_reducible repeat (first | apply blk_drewN | apply blk_drew | apply blk_alloc)); refine blk_far ?_ NB327_332.out _; (with_reducible repeat (first | apply blk_drewN | apply blk_drew | apply blk_alloc)); refine blk_far ?_ NB327_332.out _; (with_reducible repeat (first | apply blk_drewN | apply blk_drew | apply blk_alloc)); exact BK327.out) hb); have n8_ := Aside0.mk (blk_below (g := gb332) (o := .cells #[.int .i64 ((rd_T27 y328 x63_2).f0), .int .i64 ((rd_T27 y328 x63_2).f1)] 27 (0, 0)) (by (with_reducible repeat (first | apply blk_drewN | apply blk_drew | apply blk_alloc)); refine blk_put (cs := #[.int .i64 ((rd_T27 y328 x63_2).f0), .int .i64 0]) ?_ 1 _ rfl; (with_reducible repeat (first | apply blk_drewN | apply blk_drew | apply blk_alloc)); refine blk_put (cs := #[.int .i64 0, .int .i64 0]) ?_ 0 _ rfl; (with_reducible repeat (first | apply blk_drewN | apply blk_drew | apply blk_alloc)); exact BK332.out) hb); have n9_ := Aside0.mk (below_step (by repeat (first | (with_reducible first | exact HB.out | apply below_alloc | apply pw_below_drewN | apply below_drew1 | refine below_set ?_ GE307.out | refine below_set ?_ GE308.out | refine below_set ?_ GE321.out | refine below_set ?_ GE322.out | refine below_set ?_ GE327.out | refine below_set ?_ GE332.out) | exact HB.out)) hb); clear HO_53; clear HO_61; clear BK307; clear BK308; clear BK321; clear BK322; clear BK327; clear BK332; clear HB; have HO_53 := n0_; have HO_61 := n1_; have HO335 := n2_; have BK307 := n3_; have BK308 := n4_; have BK321 := n5_; have BK322 := n6_; have BK327 := n7_; have BK332 := n8_; have HB := n9_; clear n0_ n1_ n2_ n3_ n4_ n5_ n6_ n7_ n8_ n9_; clear hb ho65; obtain ⟨Ao66, co66, eo66⟩ := Kd.R_slice HO335.out; subst eo66))
            go_loopg [80] k2 (fun kq v80 w' => ∃ (x80_3 : Int), v80 = .int .i64 x80_3 ∧ Aside0 (soundservicelaw18_ControlBounds.l2 kq a3 a4 a5 a6 a7 t318 t319 y323 (y323.length : Int) x55_1 y328 (y328.length : Int) x63_2 y333 (y333.length : Int) x80_3 a1_0 a1_1 t316 t317 ((rd_T23 y323 x55_1).f0) ((rd_T23 y323 x55_1).f1) ((rd_T23 y323 x55_1).f2) ((rd_T23 y323 x55_1).f3) ((rd_T27 y328 x63_2).f0) ((rd_T27 y328 x63_2).f1) = some r) ∧ Aside0 (kq ≤ k2) ∧ Aside0 (Kd.R k23 23 w' w.heap.size (fun k_ => k_ ≠ gb307 ∧ k_ ≠ gb321 ∧ k_ ≠ gb327) (.slice (some ad326) y323.length co34) y323) ∧ Aside0 (Kd.R k27 27 w' w.heap.size (fun k_ => k_ ≠ gb308 ∧ k_ ≠ gb322 ∧ k_ ≠ gb332) (.slice (some ad331) y328.length co53) y328) ∧ Aside0 (Kd.R k44 44 w' w.heap.size (fun _ => True) (.slice Ao66 y333.length co66) y333) ∧ Aside0 (w'.heap[gb307]? = some (.cells #[.int .i64 a0_0, .int .i64 a0_1, .int .i64 a0_2, .int .i64 a0_3] 23 (0, 0))) ∧ Aside0 (w'.heap[gb308]? = some (.cells #[.int .i64 a1_0, .int .i64 a1_1] 27 (0, 0))) ∧ Aside0 (w'.heap[gb321]? = some (.cells #[.int .i64 t312, .int .i64 t313, .int .i64 t314, .int .i64 t315] 23 (0, 0))) ∧ Aside0 (w'.heap[gb322]? = some (.cells #[.int .i64 t316, .int .i64 t317] 27 (0, 0))) ∧ Aside0 (w'.heap[gb327]? = some (.cells #[.int .i64 ((rd_T23 y323 x55_1).f0), .int .i64 ((rd_T23 y323 x55_1).f1), .int .i64 ((rd_T23 y323 x55_1).f2), .int .i64 ((rd_T23 y323 x55_1).f3)] 23 (0, 0))) ∧ Aside0 (w'.heap[gb332]? = some (.cells #[.int .i64 ((rd_T27 y328 x63_2).f0), .int .i64 ((rd_T27 y328 x63_2).f1)] 27 (0, 0))) ∧ Aside0 (Below w.heap.size w w'))
            case atStart => exact ⟨(0), (by first | rfl | (simp; done) | (simp [*]; done)), H', ⟨Nat.le_refl _⟩, ⟨by (with_reducible repeat (first | apply Kd.R_alloc | apply Kd.R_drewN | apply Kd.R_drew)); exact HO_53.out⟩, ⟨by (with_reducible repeat (first | apply Kd.R_alloc | apply Kd.R_drewN | apply Kd.R_drew)); exact Kd.R_mono HO_61.out (fun _ hk => ⟨hk.1.1, ⟨hk.1.2, hk.2⟩⟩)⟩, ⟨by (with_reducible repeat (first | apply Kd.R_alloc | apply Kd.R_drewN | apply Kd.R_drew)); exact HO335.out⟩, ⟨by (with_reducible repeat (first | apply blk_drewN | apply blk_drew | apply blk_alloc)); exact BK307.out⟩, ⟨by (with_reducible repeat (first | apply blk_drewN | apply blk_drew | apply blk_alloc)); exact BK308.out⟩, ⟨by (with_reducible repeat (first | apply blk_drewN | apply blk_drew | apply blk_alloc)); exact BK321.out⟩, ⟨by (with_reducible repeat (first | apply blk_drewN | apply blk_drew | apply blk_alloc)); exact BK322.out⟩, ⟨by (with_reducible repeat (first | apply blk_drewN | apply blk_drew | apply blk_alloc)); exact BK327.out⟩, ⟨by (with_reducible repeat (first | apply blk_drewN | apply blk_drew | apply blk_alloc)); exact BK332.out⟩, ⟨by repeat (first | (with_reducible first | exact HB.out | apply below_alloc | apply pw_below_drewN | apply below_drew1 | refine below_set ?_ GE307.out | refine below_set ?_ GE308.out | refine below_set ?_ GE321.out | refine below_set ?_ GE322.out | refine below_set ?_ GE327.out | refine below_set ?_ GE332.out) | exact HB.out)⟩⟩
            case round =>
             clear H'
             try clear c1
             try clear c2
             try clear p2
             try clear c3
             try clear p3
             try clear q3
             try clear hx3
             try clear c4
             try clear c5
             try clear c6
             try clear p6
             try clear c10
             try clear c11
             try clear c12
             try clear c20
             try clear c21
             try clear c22
             try clear c23
             try clear c25
             try clear c26
             try clear c27
             try clear c29
             try clear c30
             try clear p32
             try clear q32
             try clear hx32
             try clear p33
             try clear q33
             try clear hx33
             try clear c35
             try clear c35b0
             try clear c36
             try clear c36b0
             try clear c37
             try clear c37b0
             try clear c39
             try clear c40
             try clear c41
             try clear c42
             try clear c44
             try clear c45
             try clear c46
             try clear c48
             try clear c49
             try clear c54
             try clear c54b0
             try clear c55
             try clear c55b0
             try clear c56
             try clear c56b0
             try clear c58
             try clear c59
             try clear c60
             try clear c61
             try clear c62
             try clear p64
             try clear hcz24_0
             try clear hcz24_1
             try clear hcz24_2
             try clear hcz24_3
             try clear hcz28_0
             try clear hcz28_1
             try clear hcz31_0
             try clear hcz31_1
             try clear hcz31_2
             try clear hcz31_3
             try clear hcz43_0
             try clear hcz43_1
             try clear hcz43_2
             try clear hcz43_3
             try clear hcz47_0
             try clear hcz47_1
             try clear hcz50_0
             try clear hcz50_1
             try clear hcz63_0
             try clear hcz63_1
             try clear hfz24_0
             try clear hfz24_1
             try clear hfz24_2
             try clear hfz24_3
             try clear hfz28_0
             try clear hfz28_1
             try clear hfz31_0
             try clear hfz31_1
             try clear hfz31_2
             try clear hfz31_3
             try clear hfz43_0
             try clear hfz43_1
             try clear hfz43_2
             try clear hfz43_3
             try clear hfz47_0
             try clear hfz47_1
             try clear hfz50_0
             try clear hfz50_1
             try clear hfz63_0
             try clear hfz63_1
             try clear hx326_0
             try clear hx326_1
             try clear hx326_2
             try clear hx326_3
             try clear hx331_0
             try clear hx331_1
             try clear p2
             try clear p3
             try clear p32
             try clear p326
             try clear p331
             try clear q3
             try clear q32
             try clear q326
             try clear q331
             obtain ⟨x80_3, rfl, HA, HK3, HO_53, HO_61, HO_78, BK307, BK308, BK321, BK322, BK327, BK332, HB⟩ := hrel
             cases gk with
             | zero => exact absurd HA.out (by simp [soundservicelaw18_ControlBounds.l2])
             | succ k3 =>
              have H := HA.out
              clear HA
              simp only [soundservicelaw18_ControlBounds.l2] at H
              by_cases c67 : x80_3 < (y333.length : Int)
              ·rw [if_pos c67] at H
               have c67b0 : decide (x80_3 < (y333.length : Int)) = true := decide_eq_true c67
               clear c67
               by_cases c68 : 0 ≤ x80_3
               ·rw [if_pos c68] at H
                have c68b0 : decide (0 ≤ x80_3) = true := decide_eq_true c68
                clear c68
                by_cases c69 : x80_3 < (y333.length : Int)
                ·rw [if_pos c69] at H
                 have c69b0 : decide (x80_3 < (y333.length : Int)) = true := decide_eq_true c69
                 clear c69
                 replace H := Option.bind_eq_some_iff.mp H
                 obtain ⟨⟨t338, t339⟩, A700, H⟩ := H
                 replace H : ((soundserviceref18_Bound.f k3 ((rd_T23 y323 x55_1).f0) ((rd_T23 y323 x55_1).f1) ((rd_T23 y323 x55_1).f2) ((rd_T23 y323 x55_1).f3) ((rd_T27 y328 x63_2).f0) ((rd_T27 y328 x63_2).f1) ((rd_T44 y333 x80_3).f0) ((rd_T44 y333 x80_3).f1) ((rd_T44 y333 x80_3).f2)).bind fun bt340 => ((control_Demand.f k3 ((rd_T23 y323 x55_1).f0) ((rd_T23 y323 x55_1).f1) ((rd_T23 y323 x55_1).f2) ((rd_T23 y323 x55_1).f3) ((rd_T27 y328 x63_2).f0) ((rd_T27 y328 x63_2).f1) ((rd_T44 y333 x80_3).f0) ((rd_T44 y333 x80_3).f1)).bind fun bt342 => ((soundserviceref18_Demand.f k3 ((rd_T23 y323 x55_1).f0) ((rd_T23 y323 x55_1).f1) ((rd_T23 y323 x55_1).f2) ((rd_T23 y323 x55_1).f3) ((rd_T27 y328 x63_2).f0) ((rd_T27 y328 x63_2).f1) ((rd_T44 y333 x80_3).f0) ((rd_T44 y333 x80_3).f1)).bind fun bt344 => (if t338 = bt340.1 then (if t339 = bt340.2 then (if bt342.1 = bt344.1 then (soundservicelaw18_ControlBounds.j3 k3 a3 a4 a5 a6 a7 t318 t319 y323 (y323.length : Int) x55_1 y328 (y328.length : Int) x63_2 y333 (y333.length : Int) x80_3 (bt342.2 != bt344.2) a1_0 a1_1 t316 t317 ((rd_T23 y323 x55_1).f0) ((rd_T23 y323 x55_1).f1) ((rd_T23 y323 x55_1).f2) ((rd_T23 y323 x55_1).f3) ((rd_T27 y328 x63_2).f0) ((rd_T27 y328 x63_2).f1) ((rd_T44 y333 x80_3).f0) ((rd_T44 y333 x80_3).f1) ((rd_T44 y333 x80_3).f2)) else (soundservicelaw18_ControlBounds.j3 k3 a3 a4 a5 a6 a7 t318 t319 y323 (y323.length : Int) x55_1 y328 (y328.length : Int) x63_2 y333 (y333.length : Int) x80_3 true a1_0 a1_1 t316 t317 ((rd_T23 y323 x55_1).f0) ((rd_T23 y323 x55_1).f1) ((rd_T23 y323 x55_1).f2) ((rd_T23 y323 x55_1).f3) ((rd_T27 y328 x63_2).f0) ((rd_T27 y328 x63_2).f1) ((rd_T44 y333 x80_3).f0) ((rd_T44 y333 x80_3).f1) ((rd_T44 y333 x80_3).f2))) else (soundservicelaw18_ControlBounds.j3 k3 a3 a4 a5 a6 a7 t318 t319 y323 (y323.length : Int) x55_1 y328 (y328.length : Int) x63_2 y333 (y333.length : Int) x80_3 true a1_0 a1_1 t316 t317 ((rd_T23 y323 x55_1).f0) ((rd_T23 y323 x55_1).f1) ((rd_T23 y323 x55_1).f2) ((rd_T23 y323 x55_1).f3) ((rd_T27 y328 x63_2).f0) ((rd_T27 y328 x63_2).f1) ((rd_T44 y333 x80_3).f0) ((rd_T44 y333 x80_3).f1) ((rd_T44 y333 x80_3).f2))) else (soundservicelaw18_ControlBounds.j3 k3 a3 a4 a5 a6 a7 t318 t319 y323 (y323.length : Int) x55_1 y328 (y328.length : Int) x63_2 y333 (y333.length : Int) x80_3 true a1_0 a1_1 t316 t317 ((rd_T23 y323 x55_1).f0) ((rd_T23 y323 x55_1).f1) ((rd_T23 y323 x55_1).f2) ((rd_T23 y323 x55_1).f3) ((rd_T27 y328 x63_2).f0) ((rd_T27 y328 x63_2).f1) ((rd_T44 y333 x80_3).f0) ((rd_T44 y333 x80_3).f1) ((rd_T44 y333 x80_3).f2)))))) = some r := H
                 have A70 := Aside0.mk A700
                 clear A700
                 replace H := Option.bind_eq_some_iff.mp H
                 obtain ⟨⟨t340, t341⟩, A710, H⟩ := H
                 replace H : ((control_Demand.f k3 ((rd_T23 y323 x55_1).f0) ((rd_T23 y323 x55_1).f1) ((rd_T23 y323 x55_1).f2) ((rd_T23 y323 x55_1).f3) ((rd_T27 y328 x63_2).f0) ((rd_T27 y328 x63_2).f1) ((rd_T44 y333 x80_3).f0) ((rd_T44 y333 x80_3).f1)).bind fun bt342 => ((soundserviceref18_Demand.f k3 ((rd_T23 y323 x55_1).f0) ((rd_T23 y323 x55_1).f1) ((rd_T23 y323 x55_1).f2) ((rd_T23 y323 x55_1).f3) ((rd_T27 y328 x63_2).f0) ((rd_T27 y328 x63_2).f1) ((rd_T44 y333 x80_3).f0) ((rd_T44 y333 x80_3).f1)).bind fun bt344 => (if t338 = t340 then (if t339 = t341 then (if bt342.1 = bt344.1 then (soundservicelaw18_ControlBounds.j3 k3 a3 a4 a5 a6 a7 t318 t319 y323 (y323.length : Int) x55_1 y328 (y328.length : Int) x63_2 y333 (y333.length : Int) x80_3 (bt342.2 != bt344.2) a1_0 a1_1 t316 t317 ((rd_T23 y323 x55_1).f0) ((rd_T23 y323 x55_1).f1) ((rd_T23 y323 x55_1).f2) ((rd_T23 y323 x55_1).f3) ((rd_T27 y328 x63_2).f0) ((rd_T27 y328 x63_2).f1) ((rd_T44 y333 x80_3).f0) ((rd_T44 y333 x80_3).f1) ((rd_T44 y333 x80_3).f2)) else (soundservicelaw18_ControlBounds.j3 k3 a3 a4 a5 a6 a7 t318 t319 y323 (y323.length : Int) x55_1 y328 (y328.length : Int) x63_2 y333 (y333.length : Int) x80_3 true a1_0 a1_1 t316 t317 ((rd_T23 y323 x55_1).f0) ((rd_T23 y323 x55_1).f1) ((rd_T23 y323 x55_1).f2) ((rd_T23 y323 x55_1).f3) ((rd_T27 y328 x63_2).f0) ((rd_T27 y328 x63_2).f1) ((rd_T44 y333 x80_3).f0) ((rd_T44 y333 x80_3).f1) ((rd_T44 y333 x80_3).f2))) else (soundservicelaw18_ControlBounds.j3 k3 a3 a4 a5 a6 a7 t318 t319 y323 (y323.length : Int) x55_1 y328 (y328.length : Int) x63_2 y333 (y333.length : Int) x80_3 true a1_0 a1_1 t316 t317 ((rd_T23 y323 x55_1).f0) ((rd_T23 y323 x55_1).f1) ((rd_T23 y323 x55_1).f2) ((rd_T23 y323 x55_1).f3) ((rd_T27 y328 x63_2).f0) ((rd_T27 y328 x63_2).f1) ((rd_T44 y333 x80_3).f0) ((rd_T44 y333 x80_3).f1) ((rd_T44 y333 x80_3).f2))) else (soundservicelaw18_ControlBounds.j3 k3 a3 a4 a5 a6 a7 t318 t319 y323 (y323.length : Int) x55_1 y328 (y328.length : Int) x63_2 y333 (y333.length : Int) x80_3 true a1_0 a1_1 t316 t317 ((rd_T23 y323 x55_1).f0) ((rd_T23 y323 x55_1).f1) ((rd_T23 y323 x55_1).f2) ((rd_T23 y323 x55_1).f3) ((rd_T27 y328 x63_2).f0) ((rd_T27 y328 x63_2).f1) ((rd_T44 y333 x80_3).f0) ((rd_T44 y333 x80_3).f1) ((rd_T44 y333 x80_3).f2))))) = some r := H
                 have A71 := Aside0.mk A710
                 clear A710
                 replace H := Option.bind_eq_some_iff.mp H
                 obtain ⟨⟨t342, t343⟩, A720, H⟩ := H
                 replace H : ((soundserviceref18_Demand.f k3 ((rd_T23 y323 x55_1).f0) ((rd_T23 y323 x55_1).f1) ((rd_T23 y323 x55_1).f2) ((rd_T23 y323 x55_1).f3) ((rd_T27 y328 x63_2).f0) ((rd_T27 y328 x63_2).f1) ((rd_T44 y333 x80_3).f0) ((rd_T44 y333 x80_3).f1)).bind fun bt344 => (if t338 = t340 then (if t339 = t341 then (if t342 = bt344.1 then (soundservicelaw18_ControlBounds.j3 k3 a3 a4 a5 a6 a7 t318 t319 y323 (y323.length : Int) x55_1 y328 (y328.length : Int) x63_2 y333 (y333.length : Int) x80_3 (t343 != bt344.2) a1_0 a1_1 t316 t317 ((rd_T23 y323 x55_1).f0) ((rd_T23 y323 x55_1).f1) ((rd_T23 y323 x55_1).f2) ((rd_T23 y323 x55_1).f3) ((rd_T27 y328 x63_2).f0) ((rd_T27 y328 x63_2).f1) ((rd_T44 y333 x80_3).f0) ((rd_T44 y333 x80_3).f1) ((rd_T44 y333 x80_3).f2)) else (soundservicelaw18_ControlBounds.j3 k3 a3 a4 a5 a6 a7 t318 t319 y323 (y323.length : Int) x55_1 y328 (y328.length : Int) x63_2 y333 (y333.length : Int) x80_3 true a1_0 a1_1 t316 t317 ((rd_T23 y323 x55_1).f0) ((rd_T23 y323 x55_1).f1) ((rd_T23 y323 x55_1).f2) ((rd_T23 y323 x55_1).f3) ((rd_T27 y328 x63_2).f0) ((rd_T27 y328 x63_2).f1) ((rd_T44 y333 x80_3).f0) ((rd_T44 y333 x80_3).f1) ((rd_T44 y333 x80_3).f2))) else (soundservicelaw18_ControlBounds.j3 k3 a3 a4 a5 a6 a7 t318 t319 y323 (y323.length : Int) x55_1 y328 (y328.length : Int) x63_2 y333 (y333.length : Int) x80_3 true a1_0 a1_1 t316 t317 ((rd_T23 y323 x55_1).f0) ((rd_T23 y323 x55_1).f1) ((rd_T23 y323 x55_1).f2) ((rd_T23 y323 x55_1).f3) ((rd_T27 y328 x63_2).f0) ((rd_T27 y328 x63_2).f1) ((rd_T44 y333 x80_3).f0) ((rd_T44 y333 x80_3).f1) ((rd_T44 y333 x80_3).f2))) else (soundservicelaw18_ControlBounds.j3 k3 a3 a4 a5 a6 a7 t318 t319 y323 (y323.length : Int) x55_1 y328 (y328.length : Int) x63_2 y333 (y333.length : Int) x80_3 true a1_0 a1_1 t316 t317 ((rd_T23 y323 x55_1).f0) ((rd_T23 y323 x55_1).f1) ((rd_T23 y323 x55_1).f2) ((rd_T23 y323 x55_1).f3) ((rd_T27 y328 x63_2).f0) ((rd_T27 y328 x63_2).f1) ((rd_T44 y333 x80_3).f0) ((rd_T44 y333 x80_3).f1) ((rd_T44 y333 x80_3).f2)))) = some r := H
                 have A72 := Aside0.mk A720
                 clear A720
                 replace H := Option.bind_eq_some_iff.mp H
                 obtain ⟨⟨t344, t345⟩, A730, H⟩ := H
                 replace H : (if t338 = t340 then (if t339 = t341 then (if t342 = t344 then (soundservicelaw18_ControlBounds.j3 k3 a3 a4 a5 a6 a7 t318 t319 y323 (y323.length : Int) x55_1 y328 (y328.length : Int) x63_2 y333 (y333.length : Int) x80_3 (t343 != t345) a1_0 a1_1 t316 t317 ((rd_T23 y323 x55_1).f0) ((rd_T23 y323 x55_1).f1) ((rd_T23 y323 x55_1).f2) ((rd_T23 y323 x55_1).f3) ((rd_T27 y328 x63_2).f0) ((rd_T27 y328 x63_2).f1) ((rd_T44 y333 x80_3).f0) ((rd_T44 y333 x80_3).f1) ((rd_T44 y333 x80_3).f2)) else (soundservicelaw18_ControlBounds.j3 k3 a3 a4 a5 a6 a7 t318 t319 y323 (y323.length : Int) x55_1 y328 (y328.length : Int) x63_2 y333 (y333.length : Int) x80_3 true a1_0 a1_1 t316 t317 ((rd_T23 y323 x55_1).f0) ((rd_T23 y323 x55_1).f1) ((rd_T23 y323 x55_1).f2) ((rd_T23 y323 x55_1).f3) ((rd_T27 y328 x63_2).f0) ((rd_T27 y328 x63_2).f1) ((rd_T44 y333 x80_3).f0) ((rd_T44 y333 x80_3).f1) ((rd_T44 y333 x80_3).f2))) else (soundservicelaw18_ControlBounds.j3 k3 a3 a4 a5 a6 a7 t318 t319 y323 (y323.length : Int) x55_1 y328 (y328.length : Int) x63_2 y333 (y333.length : Int) x80_3 true a1_0 a1_1 t316 t317 ((rd_T23 y323 x55_1).f0) ((rd_T23 y323 x55_1).f1) ((rd_T23 y323 x55_1).f2) ((rd_T23 y323 x55_1).f3) ((rd_T27 y328 x63_2).f0) ((rd_T27 y328 x63_2).f1) ((rd_T44 y333 x80_3).f0) ((rd_T44 y333 x80_3).f1) ((rd_T44 y333 x80_3).f2))) else (soundservicelaw18_ControlBounds.j3 k3 a3 a4 a5 a6 a7 t318 t319 y323 (y323.length : Int) x55_1 y328 (y328.length : Int) x63_2 y333 (y333.length : Int) x80_3 true a1_0 a1_1 t316 t317 ((rd_T23 y323 x55_1).f0) ((rd_T23 y323 x55_1).f1) ((rd_T23 y323 x55_1).f2) ((rd_T23 y323 x55_1).f3) ((rd_T27 y328 x63_2).f0) ((rd_T27 y328 x63_2).f1) ((rd_T44 y333 x80_3).f0) ((rd_T44 y333 x80_3).f1) ((rd_T44 y333 x80_3).f2))) = some r := H
                 have A73 := Aside0.mk A730
                 clear A730
                 have HC74 := Aside0.mk H
                 clear H
                 have p336 : 0 ≤ (x80_3 : Int) := of_decide_eq_true (by first | (with_reducible assumption) | assumption)
                 have q336 : x80_3 < (y333.length : Int) := of_decide_eq_true (by first | (with_reducible assumption) | assumption)
                 obtain ⟨ad336, e336, hx336_0, hx336_1, hx336_2⟩ := at_T44 (Kd.R_reads' HO_78.out).2.2 x80_3 p336 q336
                 cases e336
                 replace p336 := eq_true p336
                 replace q336 := eq_true q336
                 go_upto_region 17 with (first | ((with_reducible refine gate_dst (N := 26) rfl ?_); refine box_event ?hg (N := 26) ?hd (cs := #[.int .i64 0, .int .i64 0, .int .i64 0]) (t := 44) ?hr ?_; (case hd => rfl); (case hg => rfl); (case hr => first | (go_simp; done) | (go_simp; rfl)); intro gb337 hg w75 hbox hb; have n0_ := Aside0.mk (Kd.R_below (by (with_reducible repeat (first | apply Kd.R_alloc | apply Kd.R_drewN | apply Kd.R_drew)); exact HO_53.out) hb); have n1_ := Aside0.mk (Kd.R_below (by (with_reducible repeat (first | apply Kd.R_alloc | apply Kd.R_drewN | apply Kd.R_drew)); exact HO_61.out) hb); have n2_ := Aside0.mk (Kd.R_below (Kd.R_elderB (by (with_reducible repeat (first | apply Kd.R_alloc | apply Kd.R_drewN | apply Kd.R_drew)); exact HO_78.out) gb337 (Nat.le_of_eq hg.symm)) hb); have n3_ := Aside0.mk (blk_below (g := gb307) (o := .cells #[.int .i64 a0_0, .int .i64 a0_1, .int .i64 a0_2, .int .i64 a0_3] 23 (0, 0)) (by (with_reducible repeat (first | apply blk_drewN | apply blk_drew | apply blk_alloc)); exact BK307.out) hb); have n4_ := Aside0.mk (blk_below (g := gb308) (o := .cells #[.int .i64 a1_0, .int .i64 a1_1] 27 (0, 0)) (by (with_reducible repeat (first | apply blk_drewN | apply blk_drew | apply blk_alloc)); exact BK308.out) hb); have n5_ := Aside0.mk (blk_below (g := gb321) (o := .cells #[.int .i64 t312, .int .i64 t313, .int .i64 t314, .int .i64 t315] 23 (0, 0)) (by (with_reducible repeat (first | apply blk_drewN | apply blk_drew | apply blk_alloc)); exact BK321.out) hb); have n6_ := Aside0.mk (blk_below (g := gb322) (o := .cells #[.int .i64 t316, .int .i64 t317] 27 (0, 0)) (by (with_reducible repeat (first | apply blk_drewN | apply blk_drew | apply blk_alloc)); exact BK322.out) hb); have n7_ := Aside0.mk (blk_below (g := gb327) (o := .cells #[.int .i64 ((rd_T23 y323 x55_1).f0), .int .i64 ((rd_T23 y323 x55_1).f1), .int .i64 ((rd_T23 y323 x55_1).f2), .int .i64 ((rd_T23 y323 x55_1).f3)] 23 (0, 0)) (by (with_reducible repeat (first | apply blk_drewN | apply blk_drew | apply blk_alloc)); exact BK327.out) hb); have n8_ := Aside0.mk (blk_below (g := gb332) (o := .cells #[.int .i64 ((rd_T27 y328 x63_2).f0), .int .i64 ((rd_T27 y328 x63_2).f1)] 27 (0, 0)) (by (with_reducible repeat (first | apply blk_drewN | apply blk_drew | apply blk_alloc)); exact BK332.out) hb); have n9_ := Aside0.mk (below_step (by repeat (first | (with_reducible first | exact HB.out | apply below_alloc | apply pw_below_drewN | apply below_drew1 | refine below_set ?_ GE307.out | refine below_set ?_ GE308.out | refine below_set ?_ GE321.out | refine below_set ?_ GE322.out | refine below_set ?_ GE327.out | refine below_set ?_ GE332.out) | exact HB.out)) hb); have n10_ := Aside0.mk (hbox); have n11_ := Aside0.mk ((by rw [hg]; exact (below_size (by repeat (first | (with_reducible first | exact HB.out | apply below_alloc | apply pw_below_drewN | apply below_drew1 | refine below_set ?_ GE307.out | refine below_set ?_ GE308.out | refine below_set ?_ GE321.out | refine below_set ?_ GE322.out | refine below_set ?_ GE327.out | refine below_set ?_ GE332.out) | exact HB.out))) : w.heap.size ≤ gb337)); have n12_ := Aside0.mk ((by rw [hg]; exact (below_size (by repeat (first | (with_reducible first | exact HB.out | apply below_alloc | apply pw_below_drewN | apply below_drew1 | refine below_set ?_ GE307.out | refine below_set ?_ GE308.out | refine below_set ?_ GE321.out | refine below_set ?_ GE322.out | refine below_set ?_ GE327.out | refine below_set ?_ GE332.out) | exact HB.out))) : w.heap.size ≤ gb337)); have n13_ := Aside0.mk ((by rw [hg]; exact Nat.ne_of_lt (blk_lt (g := gb307) (o := .cells #[.int .i64 a0_0, .int .i64 a0_1, .int .i64 a0_2, .int .i64 a0_3] 23 (0, 0)) (by (with_reducible repeat (first | apply blk_drewN | apply blk_drew | apply blk_alloc)); exact BK307.out)) : gb307 ≠ gb337)); have n14_ := Aside0.mk ((by rw [hg]; exact Nat.ne_of_gt (blk_lt (g := gb307) (o := .cells #[.int .i64 a0_0, .int .i64 a0_1, .int .i64 a0_2, .int .i64 a0_3] 23 (0, 0)) (by (with_reducible repeat (first | apply blk_drewN | apply blk_drew | apply blk_alloc)); exact BK307.out)) : gb337 ≠ gb307)); have n15_ := Aside0.mk ((by rw [hg]; exact Nat.ne_of_lt (blk_lt (g := gb308) (o := .cells #[.int .i64 a1_0, .int .i64 a1_1] 27 (0, 0)) (by (with_reducible repeat (first | apply blk_drewN | apply blk_drew | apply blk_alloc)); exact BK308.out)) : gb308 ≠ gb337)); have n16_ := Aside0.mk ((by rw [hg]; exact Nat.ne_of_gt (blk_lt (g := gb308) (o := .cells #[.int .i64 a1_0, .int .i64 a1_1] 27 (0, 0)) (by (with_reducible repeat (first | apply blk_drewN | apply blk_drew | apply blk_alloc)); exact BK308.out)) : gb337 ≠ gb308)); have n17_ := Aside0.mk ((by rw [hg]; exact Nat.ne_of_lt (blk_lt (g := gb321) (o := .cells #[.int .i64 t312, .int .i64 t313, .int .i64 t314, .int .i64 t315] 23 (0, 0)) (by (with_reducible repeat (first | apply blk_drewN | apply blk_drew | apply blk_alloc)); exact BK321.out)) : gb321 ≠ gb337)); have n18_ := Aside0.mk ((by rw [hg]; exact Nat.ne_of_gt (blk_lt (g := gb321) (o := .cells #[.int .i64 t312, .int .i64 t313, .int .i64 t314, .int .i64 t315] 23 (0, 0)) (by (with_reducible repeat (first | apply blk_drewN | apply blk_drew | apply blk_alloc)); exact BK321.out)) : gb337 ≠ gb321)); have n19_ := Aside0.mk ((by rw [hg]; exact Nat.ne_of_lt (blk_lt (g := gb322) (o := .cells #[.int .i64 t316, .int .i64 t317] 27 (0, 0)) (by (with_reducible repeat (first | apply blk_drewN | apply blk_drew | apply blk_alloc)); exact BK322.out)) : gb322 ≠ gb337)); have n20_ := Aside0.mk ((by rw [hg]; exact Nat.ne_of_gt (blk_lt (g := gb322) (o := .cells #[.int .i64 t316, .int .i64 t317] 27 (0, 0)) (by (with_reducible repeat (first | apply blk_drewN | apply blk_drew | apply blk_alloc)); exact BK322.out)) : gb337 ≠ gb322)); have n21_ := Aside0.mk ((by rw [hg]; exact Nat.ne_of_lt (blk_lt (g := gb327) (o := .cells #[.int .i64 ((rd_T23 y323 x55_1).f0), .int .i64 ((rd_T23 y323 x55_1).f1), .int .i64 ((rd_T23 y323 x55_1).f2), .int .i64 ((rd_T23 y323 x55_1).f3)] 23 (0, 0)) (by (with_reducible repeat (first | apply blk_drewN | apply blk_drew | apply blk_alloc)); exact BK327.out)) : gb327 ≠ gb337)); have n22_ := Aside0.mk ((by rw [hg]; exact Nat.ne_of_gt (blk_lt (g := gb327) (o := .cells #[.int .i64 ((rd_T23 y323 x55_1).f0), .int .i64 ((rd_T23 y323 x55_1).f1), .int .i64 ((rd_T23 y323 x55_1).f2), .int .i64 ((rd_T23 y323 x55_1).f3)] 23 (0, 0)) (by (with_reducible repeat (first | apply blk_drewN | apply blk_drew | apply blk_alloc)); exact BK327.out)) : gb337 ≠ gb327)); have n23_ := Aside0.mk ((by rw [hg]; exact Nat.ne_of_lt (blk_lt (g := gb332) (o := .cells #[.int .i64 ((rd_T27 y328 x63_2).f0), .int .i64 ((rd_T27 y328 x63_2).f1)] 27 (0, 0)) (by (with_reducible repeat (first | apply blk_drewN | apply blk_drew | apply blk_alloc)); exact BK332.out)) : gb332 ≠ gb337)); have n24_ := Aside0.mk ((by rw [hg]; exact Nat.ne_of_gt (blk_lt (g := gb332) (o := .cells #[.int .i64 ((rd_T27 y328 x63_2).f0), .int .i64 ((rd_T27 y328 x63_2).f1)] 27 (0, 0)) (by (with_reducible repeat (first | apply blk_drewN | apply blk_drew | apply blk_alloc)); exact BK332.out)) : gb337 ≠ gb332)); clear HO_53; clear HO_61; clear HO_78; clear BK307; clear BK308; clear BK321; clear BK322; clear BK327; clear BK332; clear HB; have HO_53 := n0_; have HO_61 := n1_; have HO_78 := n2_; have BK307 := n3_; have BK308 := n4_; have BK321 := n5_; have BK322 := n6_; have BK327 := n7_; have BK332 := n8_; have HB := n9_; have BK337 := n10_; have GW337 := n11_; have GE337 := n12_; have NB307_337 := n13_; have NB337_307 := n14_; have NB308_337 := n15_; have NB337_308 := n16_; have NB321_337 := n17_; have NB337_321 := n18_; have NB322_337 := n19_; have NB337_322 := n20_; have NB327_337 := n21_; have NB337_327 := n22_; have NB332_337 := n23_; have NB337_332 := n24_; clear n0_ n1_ n2_ n3_ n4_ n5_ n6_ n7_ n8_ n9_ n10_ n11_ n12_ n13_ n14_ n15_ n16_ n17_ n18_ n19_ n20_ n21_ n22_ n23_ n24_; clear hb hbox hg; have hnb76 := NB337_307.out; have hnc76 := NB307_337.out; have hnb77 := NB337_308.out; have hnc77 := NB308_337.out; have hnb78 := NB337_321.out; have hnc78 := NB321_337.out; have hnb79 := NB337_322.out; have hnc79 := NB322_337.out; have hnb80 := NB337_327.out; have hnc80 := NB327_337.out; have hnb81 := NB337_332.out; have hnc81 := NB332_337.out; have hcz82_0 : w75.cell? ⟨gb337, 0, none⟩ = some (.int .i64 0) := (blk_cell BK337.out 0).trans rfl; have hcz82_1 : w75.cell? ⟨gb337, 1, none⟩ = some (.int .i64 0) := (blk_cell BK337.out 1).trans rfl; have hcz82_2 : w75.cell? ⟨gb337, 2, none⟩ = some (.int .i64 0) := (blk_cell BK337.out 2).trans rfl; have hfz82_0 := blk_frozen BK337.out 0; have hfz82_1 := blk_frozen BK337.out 1; have hfz82_2 := blk_frozen BK337.out 2; have hnb83 := NB327_307.out; have hnc83 := NB307_327.out; have hnb84 := NB327_308.out; have hnc84 := NB308_327.out; have hnb85 := NB327_321.out; have hnc85 := NB321_327.out; have hnb86 := NB327_322.out; have hnc86 := NB322_327.out; have hnb87 := NB327_332.out; have hnc87 := NB332_327.out; have hcz88_0 : w75.cell? ⟨gb327, 0, none⟩ = some (.int .i64 ((rd_T23 y323 x55_1).f0)) := (blk_cell BK327.out 0).trans rfl; have hcz88_1 : w75.cell? ⟨gb327, 1, none⟩ = some (.int .i64 ((rd_T23 y323 x55_1).f1)) := (blk_cell BK327.out 1).trans rfl; have hcz88_2 : w75.cell? ⟨gb327, 2, none⟩ = some (.int .i64 ((rd_T23 y323 x55_1).f2)) := (blk_cell BK327.out 2).trans rfl; have hcz88_3 : w75.cell? ⟨gb327, 3, none⟩ = some (.int .i64 ((rd_T23 y323 x55_1).f3)) := (blk_cell BK327.out 3).trans rfl; have hfz88_0 := blk_frozen BK327.out 0; have hfz88_1 := blk_frozen BK327.out 1; have hfz88_2 := blk_frozen BK327.out 2; have hfz88_3 := blk_frozen BK327.out 3; have hnb89 := NB332_307.out; have hnc89 := NB307_332.out; have hnb90 := NB332_308.out; have hnc90 := NB308_332.out; have hnb91 := NB332_321.out; have hnc91 := NB321_332.out; have hnb92 := NB332_322.out; have hnc92 := NB322_332.out; have hcz93_0 : w75.cell? ⟨gb332, 0, none⟩ = some (.int .i64 ((rd_T27 y328 x63_2).f0)) := (blk_cell BK332.out 0).trans rfl; have hcz93_1 : w75.cell? ⟨gb332, 1, none⟩ = some (.int .i64 ((rd_T27 y328 x63_2).f1)) := (blk_cell BK332.out 1).trans rfl; have hfz93_0 := blk_frozen BK332.out 0; have hfz93_1 := blk_frozen BK332.out 1) | ((with_reducible refine gate_callee (f := 17) rfl ?_); refine goesL_ (some 93) rfl rfl Try.func17 (by kernel_rfl) rfl #[.agg #[.int .i64 ((rd_T23 y323 x55_1).f0), .int .i64 ((rd_T23 y323 x55_1).f1), .int .i64 ((rd_T23 y323 x55_1).f2), .int .i64 ((rd_T23 y323 x55_1).f3)], .agg #[.int .i64 ((rd_T27 y328 x63_2).f0), .int .i64 ((rd_T27 y328 x63_2).f1)], .int .i64 ((rd_T44 y333 x80_3).f0), .int .i64 ((rd_T44 y333 x80_3).f1), .int .i64 ((rd_T44 y333 x80_3).f2)] rfl (by (try simp only [List.map_toArray, List.map_cons, List.map_nil]); first | done | rfl | (simp only [List.length_drop, List.length_take]; rfl)) ?_; (with_reducible refine (control_Bound.calls k3 ((rd_T23 y323 x55_1).f0) ((rd_T23 y323 x55_1).f1) ((rd_T23 y323 x55_1).f2) ((rd_T23 y323 x55_1).f3) ((rd_T27 y328 x63_2).f0) ((rd_T27 y328 x63_2).f1) ((rd_T44 y333 x80_3).f0) ((rd_T44 y333 x80_3).f1) ((rd_T44 y333 x80_3).f2) t338 t339 _ A70.out).mono ?_); rintro e w94 ⟨rfl, hb⟩; refine ⟨_, rfl, ?_⟩; have n0_ := Aside0.mk (Kd.R_below (by (with_reducible repeat (first | apply Kd.R_alloc | apply Kd.R_drewN | apply Kd.R_drew)); exact (Kd.R_mono (Kd.R_far (p := ⟨gb337, 2, none⟩) (Kd.R_far (p := ⟨gb337, 1, none⟩) (Kd.R_far (p := ⟨gb337, 0, none⟩) (Kd.R_types HO_53.out BK337.out (by decide)) (fun _ hk => hk.2) (.int .i64 ((rd_T44 y333 x80_3).f0))) (fun _ hk => hk.2) (.int .i64 ((rd_T44 y333 x80_3).f1))) (fun _ hk => hk.2) (.int .i64 ((rd_T44 y333 x80_3).f2))) (fun _ h_ => h_.1))) hb); have n1_ := Aside0.mk (Kd.R_below (by (with_reducible repeat (first | apply Kd.R_alloc | apply Kd.R_drewN | apply Kd.R_drew)); exact (Kd.R_mono (Kd.R_far (p := ⟨gb337, 2, none⟩) (Kd.R_far (p := ⟨gb337, 1, none⟩) (Kd.R_far (p := ⟨gb337, 0, none⟩) (Kd.R_types HO_61.out BK337.out (by decide)) (fun _ hk => hk.2) (.int .i64 ((rd_T44 y333 x80_3).f0))) (fun _ hk => hk.2) (.int .i64 ((rd_T44 y333 x80_3).f1))) (fun _ hk => hk.2) (.int .i64 ((rd_T44 y333 x80_3).f2))) (fun _ h_ => h_.1))) hb); have n2_ := Aside0.mk (Kd.R_below (by (with_reducible repeat (first | apply Kd.R_alloc | apply Kd.R_drewN | apply Kd.R_drew)); exact (Kd.R_mono (Kd.R_far (p := ⟨gb337, 2, none⟩) (Kd.R_far (p := ⟨gb337, 1, none⟩) (Kd.R_far (p := ⟨gb337, 0, none⟩) (Kd.R_mono HO_78.out (fun k_ hk => (⟨hk, hk.2⟩ : _ ∧ k_ ≠ gb337))) (fun _ hk => hk.2) (.int .i64 ((rd_T44 y333 x80_3).f0))) (fun _ hk => hk.2) (.int .i64 ((rd_T44 y333 x80_3).f1))) (fun _ hk => hk.2) (.int .i64 ((rd_T44 y333 x80_3).f2))) (fun _ h_ => h_.1))) hb); have n3_ := Aside0.mk (blk_below (g := gb307) (o := .cells #[.int .i64 a0_0, .int .i64 a0_1, .int .i64 a0_2, .int .i64 a0_3] 23 (0, 0)) (by (with_reducible repeat (first | apply blk_drewN | apply blk_drew | apply blk_alloc)); refine blk_far ?_ NB307_337.out _; (with_reducible repeat (first | apply blk_drewN | apply blk_drew | apply blk_alloc)); refine blk_far ?_ NB307_337.out _; (with_reducible repeat (first | apply blk_drewN | apply blk_drew | apply blk_alloc)); refine blk_far ?_ NB307_337.out _; (with_reducible repeat (first | apply blk_drewN | apply blk_drew | apply blk_alloc)); exact BK307.out) hb); have n4_ := Aside0.mk (blk_below (g := gb308) (o := .cells #[.int .i64 a1_0, .int .i64 a1_1] 27 (0, 0)) (by (with_reducible repeat (first | apply blk_drewN | apply blk_drew | apply blk_alloc)); refine blk_far ?_ NB308_337.out _; (with_reducible repeat (first | apply blk_drewN | apply blk_drew | apply blk_alloc)); refine blk_far ?_ NB308_337.out _; (with_reducible repeat (first | apply blk_drewN | apply blk_drew | apply blk_alloc)); refine blk_far ?_ NB308_337.out _; (with_reducible repeat (first | apply blk_drewN | apply blk_drew | apply blk_alloc)); exact BK308.out) hb); have n5_ := Aside0.mk (blk_below (g := gb321) (o := .cells #[.int .i64 t312, .int .i64 t313, .int .i64 t314, .int .i64 t315] 23 (0, 0)) (by (with_reducible repeat (first | apply blk_drewN | apply blk_drew | apply blk_alloc)); refine blk_far ?_ NB321_337.out _; (with_reducible repeat (first | apply blk_drewN | apply blk_drew | apply blk_alloc)); refine blk_far ?_ NB321_337.out _; (with_reducible repeat (first | apply blk_drewN | apply blk_drew | apply blk_alloc)); refine blk_far ?_ NB321_337.out _; (with_reducible repeat (first | apply blk_drewN | apply blk_drew | apply blk_alloc)); exact BK321.out) hb); have n6_ := Aside0.mk (blk_below (g := gb322) (o := .cells #[.int .i64 t316, .int .i64 t317] 27 (0, 0)) (by (with_reducible repeat (first | apply blk_drewN | apply blk_drew | apply blk_alloc)); refine blk_far ?_ NB322_337.out _; (with_reducible repeat (first | apply blk_drewN | apply blk_drew | apply blk_alloc)); refine blk_far ?_ NB322_337.out _; (with_reducible repeat (first | apply blk_drewN | apply blk_drew | apply blk_alloc)); refine blk_far ?_ NB322_337.out _; (with_reducible repeat (first | apply blk_drewN | apply blk_drew | apply blk_alloc)); exact BK322.out) hb); have n7_ := Aside0.mk (blk_below (g := gb327) (o := .cells #[.int .i64 ((rd_T23 y323 x55_1).f0), .int .i64 ((rd_T23 y323 x55_1).f1), .int .i64 ((rd_T23 y323 x55_1).f2), .int .i64 ((rd_T23 y323 x55_1).f3)] 23 (0, 0)) (by (with_reducible repeat (first | apply blk_drewN | apply blk_drew | apply blk_alloc)); refine blk_far ?_ NB327_337.out _; (with_reducible repeat (first | apply blk_drewN | apply blk_drew | apply blk_alloc)); refine blk_far ?_ NB327_337.out _; (with_reducible repeat (first | apply blk_drewN | apply blk_drew | apply blk_alloc)); refine blk_far ?_ NB327_337.out _; (with_reducible repeat (first | apply blk_drewN | apply blk_drew | apply blk_alloc)); exact BK327.out) hb); have n8_ := Aside0.mk (blk_below (g := gb332) (o := .cells #[.int .i64 ((rd_T27 y328 x63_2).f0), .int .i64 ((rd_T27 y328 x63_2).f1)] 27 (0, 0)) (by (with_reducible repeat (first | apply blk_drewN | apply blk_drew | apply blk_alloc)); refine blk_far ?_ NB332_337.out _; (with_reducible repeat (first | apply blk_drewN | apply blk_drew | apply blk_alloc)); refine blk_far ?_ NB332_337.out _; (with_reducible repeat (first | apply blk_drewN | apply blk_drew | apply blk_alloc)); refine blk_far ?_ NB332_337.out _; (with_reducible repeat (first | apply blk_drewN | apply blk_drew | apply blk_alloc)); exact BK332.out) hb); have n9_ := Aside0.mk (blk_below (g := gb337) (o := .cells #[.int .i64 ((rd_T44 y333 x80_3).f0), .int .i64 ((rd_T44 y333 x80_3).f1), .int .i64 ((rd_T44 y333 x80_3).f2)] 44 (0, 0)) (by (with_reducible repeat (first | apply blk_drewN | apply blk_drew | apply blk_alloc)); refine blk_put (cs := #[.int .i64 ((rd_T44 y333 x80_3).f0), .int .i64 ((rd_T44 y333 x80_3).f1), .int .i64 0]) ?_ 2 _ rfl; (with_reducible repeat (first | apply blk_drewN | apply blk_drew | apply blk_alloc)); refine blk_put (cs := #[.int .i64 ((rd_T44 y333 x80_3).f0), .int .i64 0, .int .i64 0]) ?_ 1 _ rfl; (with_reducible repeat (first | apply blk_drewN | apply blk_drew | apply blk_alloc)); refine blk_put (cs := #[.int .i64 0, .int .i64 0, .int .i64 0]) ?_ 0 _ rfl; (with_reducible repeat (first | apply blk_drewN | apply blk_drew | apply blk_alloc)); exact BK337.out) hb); have n10_ := Aside0.mk (below_step (by repeat (first | (with_reducible first | exact HB.out | apply below_alloc | apply pw_below_drewN | apply below_drew1 | refine below_set ?_ GE307.out | refine below_set ?_ GE308.out | refine below_set ?_ GE321.out | refine below_set ?_ GE322.out | refine below_set ?_ GE327.out | refine below_set ?_ GE332.out | refine below_set ?_ GE337.out) | exact HB.out)) hb); clear HO_53; clear HO_61; clear HO_78; clear BK307; clear BK308; clear BK321; clear BK322; clear BK327; clear BK332; clear BK337; clear HB; have HO_53 := n0_; have HO_61 := n1_; have HO_78 := n2_; have BK307 := n3_; have BK308 := n4_; have BK321 := n5_; have BK322 := n6_; have BK327 := n7_; have BK332 := n8_; have BK337 := n9_; have HB := n10_; clear n0_ n1_ n2_ n3_ n4_ n5_ n6_ n7_ n8_ n9_ n10_; (try clear hb); (try clear hb2); (try clear hk); (try clear hi); have hcz95_0 : w94.cell? ⟨gb327, 0, none⟩ = some (.int .i64 ((rd_T23 y323 x55_1).f0)) := (blk_cell BK327.out 0).trans rfl; have hcz95_1 : w94.cell? ⟨gb327, 1, none⟩ = some (.int .i64 ((rd_T23 y323 x55_1).f1)) := (blk_cell BK327.out 1).trans rfl; have hcz95_2 : w94.cell? ⟨gb327, 2, none⟩ = some (.int .i64 ((rd_T23 y323 x55_1).f2)) := (blk_cell BK327.out 2).trans rfl; have hcz95_3 : w94.cell? ⟨gb327, 3, none⟩ = some (.int .i64 ((rd_T23 y323 x55_1).f3)) := (blk_cell BK327.out 3).trans rfl; have hfz95_0 := blk_frozen BK327.out 0; have hfz95_1 := blk_frozen BK327.out 1; have hfz95_2 := blk_frozen BK327.out 2; have hfz95_3 := blk_frozen BK327.out 3; have hcz96_0 : w94.cell? ⟨gb332, 0, none⟩ = some (.int .i64 ((rd_T27 y328 x63_2).f0)) := (blk_cell BK332.out 0).trans rfl; have hcz96_1 : w94.cell? ⟨gb332, 1, none⟩ = some (.int .i64 ((rd_T27 y328 x63_2).f1)) := (blk_cell BK332.out 1).trans rfl; have hfz96_0 := blk_frozen BK332.out 0; have hfz96_1 := blk_frozen BK332.out 1; have hcz97_0 : w94.cell? ⟨gb337, 0, none⟩ = some (.int .i64 ((rd_T44 y333 x80_3).f0)) := (blk_cell BK337.out 0).trans rfl; have hcz97_1 : w94.cell? ⟨gb337, 1, none⟩ = some (.int .i64 ((rd_T44 y333 x80_3).f1)) := (blk_cell BK337.out 1).trans rfl; have hcz97_2 : w94.cell? ⟨gb337, 2, none⟩ = some (.int .i64 ((rd_T44 y333 x80_3).f2)) := (blk_cell BK337.out 2).trans rfl; have hfz97_0 := blk_frozen BK337.out 0; have hfz97_1 := blk_frozen BK337.out 1; have hfz97_2 := blk_frozen BK337.out 2) | ((with_reducible refine gate_callee (f := 18) rfl ?_); refine goesL_ (some 105) rfl rfl Try.func18 (by kernel_rfl) rfl #[.agg #[.int .i64 ((rd_T23 y323 x55_1).f0), .int .i64 ((rd_T23 y323 x55_1).f1), .int .i64 ((rd_T23 y323 x55_1).f2), .int .i64 ((rd_T23 y323 x55_1).f3)], .agg #[.int .i64 ((rd_T27 y328 x63_2).f0), .int .i64 ((rd_T27 y328 x63_2).f1)], .int .i64 ((rd_T44 y333 x80_3).f0), .int .i64 ((rd_T44 y333 x80_3).f1), .int .i64 ((rd_T44 y333 x80_3).f2)] rfl (by (try simp only [List.map_toArray, List.map_cons, List.map_nil]); first | done | rfl | (simp only [List.length_drop, List.length_take]; rfl)) ?_; (with_reducible refine (soundserviceref18_Bound.calls k3 ((rd_T23 y323 x55_1).f0) ((rd_T23 y323 x55_1).f1) ((rd_T23 y323 x55_1).f2) ((rd_T23 y323 x55_1).f3) ((rd_T27 y328 x63_2).f0) ((rd_T27 y328 x63_2).f1) ((rd_T44 y333 x80_3).f0) ((rd_T44 y333 x80_3).f1) ((rd_T44 y333 x80_3).f2) t340 t341 _ A71.out).mono ?_); rintro e w98 ⟨rfl, hb⟩; refine ⟨_, rfl, ?_⟩; have n0_ := Aside0.mk (Kd.R_below (by (with_reducible repeat (first | apply Kd.R_alloc | apply Kd.R_drewN | apply Kd.R_drew)); exact HO_53.out) hb); have n1_ := Aside0.mk (Kd.R_below (by (with_reducible repeat (first | apply Kd.R_alloc | apply Kd.R_drewN | apply Kd.R_drew)); exact HO_61.out) hb); have n2_ := Aside0.mk (Kd.R_below (by (with_reducible repeat (first | apply Kd.R_alloc | apply Kd.R_drewN | apply Kd.R_drew)); exact HO_78.out) hb); have n3_ := Aside0.mk (blk_below (g := gb307) (o := .cells #[.int .i64 a0_0, .int .i64 a0_1, .int .i64 a0_2, .int .i64 a0_3] 23 (0, 0)) (by (with_reducible repeat (first | apply blk_drewN | apply blk_drew | apply blk_alloc)); exact BK307.out) hb); have n4_ := Aside0.mk (blk_below (g := gb308) (o := .cells #[.int .i64 a1_0, .int .i64 a1_1] 27 (0, 0)) (by (with_reducible repeat (first | apply blk_drewN | apply blk_drew | apply blk_alloc)); exact BK308.out) hb); have n5_ := Aside0.mk (blk_below (g := gb321) (o := .cells #[.int .i64 t312, .int .i64 t313, .int .i64 t314, .int .i64 t315] 23 (0, 0)) (by (with_reducible repeat (first | apply blk_drewN | apply blk_drew | apply blk_alloc)); exact BK321.out) hb); have n6_ := Aside0.mk (blk_below (g := gb322) (o := .cells #[.int .i64 t316, .int .i64 t317] 27 (0, 0)) (by (with_reducible repeat (first | apply blk_drewN | apply blk_drew | apply blk_alloc)); exact BK322.out) hb); have n7_ := Aside0.mk (blk_below (g := gb327) (o := .cells #[.int .i64 ((rd_T23 y323 x55_1).f0), .int .i64 ((rd_T23 y323 x55_1).f1), .int .i64 ((rd_T23 y323 x55_1).f2), .int .i64 ((rd_T23 y323 x55_1).f3)] 23 (0, 0)) (by (with_reducible repeat (first | apply blk_drewN | apply blk_drew | apply blk_alloc)); exact BK327.out) hb); have n8_ := Aside0.mk (blk_below (g := gb332) (o := .cells #[.int .i64 ((rd_T27 y328 x63_2).f0), .int .i64 ((rd_T27 y328 x63_2).f1)] 27 (0, 0)) (by (with_reducible repeat (first | apply blk_drewN | apply blk_drew | apply blk_alloc)); exact BK332.out) hb); have n9_ := Aside0.mk (blk_below (g := gb337) (o := .cells #[.int .i64 ((rd_T44 y333 x80_3).f0), .int .i64 ((rd_T44 y333 x80_3).f1), .int .i64 ((rd_T44 y333 x80_3).f2)] 44 (0, 0)) (by (with_reducible repeat (first | apply blk_drewN | apply blk_drew | apply blk_alloc)); exact BK337.out) hb); have n10_ := Aside0.mk (below_step (by repeat (first | (with_reducible first | exact HB.out | apply below_alloc | apply pw_below_drewN | apply below_drew1 | refine below_set ?_ GE307.out | refine below_set ?_ GE308.out | refine below_set ?_ GE321.out | refine below_set ?_ GE322.out | refine below_set ?_ GE327.out | refine below_set ?_ GE332.out | refine below_set ?_ GE337.out) | exact HB.out)) hb); clear HO_53; clear HO_61; clear HO_78; clear BK307; clear BK308; clear BK321; clear BK322; clear BK327; clear BK332; clear BK337; clear HB; have HO_53 := n0_; have HO_61 := n1_; have HO_78 := n2_; have BK307 := n3_; have BK308 := n4_; have BK321 := n5_; have BK322 := n6_; have BK327 := n7_; have BK332 := n8_; have BK337 := n9_; have HB := n10_; clear n0_ n1_ n2_ n3_ n4_ n5_ n6_ n7_ n8_ n9_ n10_; (try clear hb); (try clear hb2); (try clear hk); (try clear hi); have hcz99_0 : w98.cell? ⟨gb327, 0, none⟩ = some (.int .i64 ((rd_T23 y323 x55_1).f0)) := (blk_cell BK327.out 0).trans rfl; have hcz99_1 : w98.cell? ⟨gb327, 1, none⟩ = some (.int .i64 ((rd_T23 y323 x55_1).f1)) := (blk_cell BK327.out 1).trans rfl; have hcz99_2 : w98.cell? ⟨gb327, 2, none⟩ = some (.int .i64 ((rd_T23 y323 x55_1).f2)) := (blk_cell BK327.out 2).trans rfl; have hcz99_3 : w98.cell? ⟨gb327, 3, none⟩ = some (.int .i64 ((rd_T23 y323 x55_1).f3)) := (blk_cell BK327.out 3).trans rfl; have hfz99_0 := blk_frozen BK327.out 0; have hfz99_1 := blk_frozen BK327.out 1; have hfz99_2 := blk_frozen BK327.out 2; have hfz99_3 := blk_frozen BK327.out 3; have hcz100_0 : w98.cell? ⟨gb332, 0, none⟩ = some (.int .i64 ((rd_T27 y328 x63_2).f0)) := (blk_cell BK332.out 0).trans rfl; have hcz100_1 : w98.cell? ⟨gb332, 1, none⟩ = some (.int .i64 ((rd_T27 y328 x63_2).f1)) := (blk_cell BK332.out 1).trans rfl; have hfz100_0 := blk_frozen BK332.out 0; have hfz100_1 := blk_frozen BK332.out 1; have hcz101_0 : w98.cell? ⟨gb337, 0, none⟩ = some (.int .i64 ((rd_T44 y333 x80_3).f0)) := (blk_cell BK337.out 0).trans rfl; have hcz101_1 : w98.cell? ⟨gb337, 1, none⟩ = some (.int .i64 ((rd_T44 y333 x80_3).f1)) := (blk_cell BK337.out 1).trans rfl; have hcz101_2 : w98.cell? ⟨gb337, 2, none⟩ = some (.int .i64 ((rd_T44 y333 x80_3).f2)) := (blk_cell BK337.out 2).trans rfl; have hfz101_0 := blk_frozen BK337.out 0; have hfz101_1 := blk_frozen BK337.out 1; have hfz101_2 := blk_frozen BK337.out 2) | ((with_reducible refine gate_callee (f := 19) rfl ?_); refine goesL_ (some 115) rfl rfl Try.func19 (by kernel_rfl) rfl #[.agg #[.int .i64 ((rd_T23 y323 x55_1).f0), .int .i64 ((rd_T23 y323 x55_1).f1), .int .i64 ((rd_T23 y323 x55_1).f2), .int .i64 ((rd_T23 y323 x55_1).f3)], .agg #[.int .i64 ((rd_T27 y328 x63_2).f0), .int .i64 ((rd_T27 y328 x63_2).f1)], .int .i64 ((rd_T44 y333 x80_3).f0), .int .i64 ((rd_T44 y333 x80_3).f1)] rfl (by (try simp only [List.map_toArray, List.map_cons, List.map_nil]); first | done | rfl | (simp only [List.length_drop, List.length_take]; rfl)) ?_; (with_reducible refine (control_Demand.calls k3 ((rd_T23 y323 x55_1).f0) ((rd_T23 y323 x55_1).f1) ((rd_T23 y323 x55_1).f2) ((rd_T23 y323 x55_1).f3) ((rd_T27 y328 x63_2).f0) ((rd_T27 y328 x63_2).f1) ((rd_T44 y333 x80_3).f0) ((rd_T44 y333 x80_3).f1) t342 t343 _ A72.out).mono ?_); rintro e w102 ⟨rfl, hb⟩; refine ⟨_, rfl, ?_⟩; have n0_ := Aside0.mk (Kd.R_below (by (with_reducible repeat (first | apply Kd.R_alloc | apply Kd.R_drewN | apply Kd.R_drew)); exact HO_53.out) hb); have n1_ := Aside0.mk (Kd.R_below (by (with_reducible repeat (first | apply Kd.R_alloc | apply Kd.R_drewN | apply Kd.R_drew)); exact HO_61.out) hb); have n2_ := Aside0.mk (Kd.R_below (by (with_reducible repeat (first | apply Kd.R_alloc | apply Kd.R_drewN | apply Kd.R_drew)); exact HO_78.out) hb); have n3_ := Aside0.mk (blk_below (g := gb307) (o := .cells #[.int .i64 a0_0, .int .i64 a0_1, .int .i64 a0_2, .int .i64 a0_3] 23 (0, 0)) (by (with_reducible repeat (first | apply blk_drewN | apply blk_drew | apply blk_alloc)); exact BK307.out) hb); have n4_ := Aside0.mk (blk_below (g := gb308) (o := .cells #[.int .i64 a1_0, .int .i64 a1_1] 27 (0, 0)) (by (with_reducible repeat (first | apply blk_drewN | apply blk_drew | apply blk_alloc)); exact BK308.out) hb); have n5_ := Aside0.mk (blk_below (g := gb321) (o := .cells #[.int .i64 t312, .int .i64 t313, .int .i64 t314, .int .i64 t315] 23 (0, 0)) (by (with_reducible repeat (first | apply blk_drewN | apply blk_drew | apply blk_alloc)); exact BK321.out) hb); have n6_ := Aside0.mk (blk_below (g := gb322) (o := .cells #[.int .i64 t316, .int .i64 t317] 27 (0, 0)) (by (with_reducible repeat (first | apply blk_drewN | apply blk_drew | apply blk_alloc)); exact BK322.out) hb); have n7_ := Aside0.mk (blk_below (g := gb327) (o := .cells #[.int .i64 ((rd_T23 y323 x55_1).f0), .int .i64 ((rd_T23 y323 x55_1).f1), .int .i64 ((rd_T23 y323 x55_1).f2), .int .i64 ((rd_T23 y323 x55_1).f3)] 23 (0, 0)) (by (with_reducible repeat (first | apply blk_drewN | apply blk_drew | apply blk_alloc)); exact BK327.out) hb); have n8_ := Aside0.mk (blk_below (g := gb332) (o := .cells #[.int .i64 ((rd_T27 y328 x63_2).f0), .int .i64 ((rd_T27 y328 x63_2).f1)] 27 (0, 0)) (by (with_reducible repeat (first | apply blk_drewN | apply blk_drew | apply blk_alloc)); exact BK332.out) hb); have n9_ := Aside0.mk (blk_below (g := gb337) (o := .cells #[.int .i64 ((rd_T44 y333 x80_3).f0), .int .i64 ((rd_T44 y333 x80_3).f1), .int .i64 ((rd_T44 y333 x80_3).f2)] 44 (0, 0)) (by (with_reducible repeat (first | apply blk_drewN | apply blk_drew | apply blk_alloc)); exact BK337.out) hb); have n10_ := Aside0.mk (below_step (by repeat (first | (with_reducible first | exact HB.out | apply below_alloc | apply pw_below_drewN | apply below_drew1 | refine below_set ?_ GE307.out | refine below_set ?_ GE308.out | refine below_set ?_ GE321.out | refine below_set ?_ GE322.out | refine below_set ?_ GE327.out | refine below_set ?_ GE332.out | refine below_set ?_ GE337.out) | exact HB.out)) hb); clear HO_53; clear HO_61; clear HO_78; clear BK307; clear BK308; clear BK321; clear BK322; clear BK327; clear BK332; clear BK337; clear HB; have HO_53 := n0_; have HO_61 := n1_; have HO_78 := n2_; have BK307 := n3_; have BK308 := n4_; have BK321 := n5_; have BK322 := n6_; have BK327 := n7_; have BK332 := n8_; have BK337 := n9_; have HB := n10_; clear n0_ n1_ n2_ n3_ n4_ n5_ n6_ n7_ n8_ n9_ n10_; (try clear hb); (try clear hb2); (try clear hk); (try clear hi); have hcz103_0 : w102.cell? ⟨gb327, 0, none⟩ = some (.int .i64 ((rd_T23 y323 x55_1).f0)) := (blk_cell BK327.out 0).trans rfl; have hcz103_1 : w102.cell? ⟨gb327, 1, none⟩ = some (.int .i64 ((rd_T23 y323 x55_1).f1)) := (blk_cell BK327.out 1).trans rfl; have hcz103_2 : w102.cell? ⟨gb327, 2, none⟩ = some (.int .i64 ((rd_T23 y323 x55_1).f2)) := (blk_cell BK327.out 2).trans rfl; have hcz103_3 : w102.cell? ⟨gb327, 3, none⟩ = some (.int .i64 ((rd_T23 y323 x55_1).f3)) := (blk_cell BK327.out 3).trans rfl; have hfz103_0 := blk_frozen BK327.out 0; have hfz103_1 := blk_frozen BK327.out 1; have hfz103_2 := blk_frozen BK327.out 2; have hfz103_3 := blk_frozen BK327.out 3; have hcz104_0 : w102.cell? ⟨gb332, 0, none⟩ = some (.int .i64 ((rd_T27 y328 x63_2).f0)) := (blk_cell BK332.out 0).trans rfl; have hcz104_1 : w102.cell? ⟨gb332, 1, none⟩ = some (.int .i64 ((rd_T27 y328 x63_2).f1)) := (blk_cell BK332.out 1).trans rfl; have hfz104_0 := blk_frozen BK332.out 0; have hfz104_1 := blk_frozen BK332.out 1; have hcz105_0 : w102.cell? ⟨gb337, 0, none⟩ = some (.int .i64 ((rd_T44 y333 x80_3).f0)) := (blk_cell BK337.out 0).trans rfl; have hcz105_1 : w102.cell? ⟨gb337, 1, none⟩ = some (.int .i64 ((rd_T44 y333 x80_3).f1)) := (blk_cell BK337.out 1).trans rfl; have hcz105_2 : w102.cell? ⟨gb337, 2, none⟩ = some (.int .i64 ((rd_T44 y333 x80_3).f2)) := (blk_cell BK337.out 2).trans rfl; have hfz105_0 := blk_frozen BK337.out 0; have hfz105_1 := blk_frozen BK337.out 1; have hfz105_2 := blk_frozen BK337.out 2) | ((with_reducible refine gate_callee (f := 20) rfl ?_); refine goesL_ (some 125) rfl rfl Try.func20 (by kernel_rfl) rfl #[.agg #[.int .i64 ((rd_T23 y323 x55_1).f0), .int .i64 ((rd_T23 y323 x55_1).f1), .int .i64 ((rd_T23 y323 x55_1).f2), .int .i64 ((rd_T23 y323 x55_1).f3)], .agg #[.int .i64 ((rd_T27 y328 x63_2).f0), .int .i64 ((rd_T27 y328 x63_2).f1)], .int .i64 ((rd_T44 y333 x80_3).f0), .int .i64 ((rd_T44 y333 x80_3).f1)] rfl (by (try simp only [List.map_toArray, List.map_cons, List.map_nil]); first | done | rfl | (simp only [List.length_drop, List.length_take]; rfl)) ?_; (with_reducible refine (soundserviceref18_Demand.calls k3 ((rd_T23 y323 x55_1).f0) ((rd_T23 y323 x55_1).f1) ((rd_T23 y323 x55_1).f2) ((rd_T23 y323 x55_1).f3) ((rd_T27 y328 x63_2).f0) ((rd_T27 y328 x63_2).f1) ((rd_T44 y333 x80_3).f0) ((rd_T44 y333 x80_3).f1) t344 t345 _ A73.out).mono ?_); rintro e w106 ⟨rfl, hb⟩; refine ⟨_, rfl, ?_⟩; have n0_ := Aside0.mk (Kd.R_below (by (with_reducible repeat (first | apply Kd.R_alloc | apply Kd.R_drewN | apply Kd.R_drew)); exact HO_53.out) hb); have n1_ := Aside0.mk (Kd.R_below (by (with_reducible repeat (first | apply Kd.R_alloc | apply Kd.R_drewN | apply Kd.R_drew)); exact HO_61.out) hb); have n2_ := Aside0.mk (Kd.R_below (by (with_reducible repeat (first | apply Kd.R_alloc | apply Kd.R_drewN | apply Kd.R_drew)); exact HO_78.out) hb); have n3_ := Aside0.mk (blk_below (g := gb307) (o := .cells #[.int .i64 a0_0, .int .i64 a0_1, .int .i64 a0_2, .int .i64 a0_3] 23 (0, 0)) (by (with_reducible repeat (first | apply blk_drewN | apply blk_drew | apply blk_alloc)); exact BK307.out) hb); have n4_ := Aside0.mk (blk_below (g := gb308) (o := .cells #[.int .i64 a1_0, .int .i64 a1_1] 27 (0, 0)) (by (with_reducible repeat (first | apply blk_drewN | apply blk_drew | apply blk_alloc)); exact BK308.out) hb); have n5_ := Aside0.mk (blk_below (g := gb321) (o := .cells #[.int .i64 t312, .int .i64 t313, .int .i64 t314, .int .i64 t315] 23 (0, 0)) (by (with_reducible repeat (first | apply blk_drewN | apply blk_drew | apply blk_alloc)); exact BK321.out) hb); have n6_ := Aside0.mk (blk_below (g := gb322) (o := .cells #[.int .i64 t316, .int .i64 t317] 27 (0, 0)) (by (with_reducible repeat (first | apply blk_drewN | apply blk_drew | apply blk_alloc)); exact BK322.out) hb); have n7_ := Aside0.mk (blk_below (g := gb327) (o := .cells #[.int .i64 ((rd_T23 y323 x55_1).f0), .int .i64 ((rd_T23 y323 x55_1).f1), .int .i64 ((rd_T23 y323 x55_1).f2), .int .i64 ((rd_T23 y323 x55_1).f3)] 23 (0, 0)) (by (with_reducible repeat (first | apply blk_drewN | apply blk_drew | apply blk_alloc)); exact BK327.out) hb); have n8_ := Aside0.mk (blk_below (g := gb332) (o := .cells #[.int .i64 ((rd_T27 y328 x63_2).f0), .int .i64 ((rd_T27 y328 x63_2).f1)] 27 (0, 0)) (by (with_reducible repeat (first | apply blk_drewN | apply blk_drew | apply blk_alloc)); exact BK332.out) hb); have n9_ := Aside0.mk (blk_below (g := gb337) (o := .cells #[.int .i64 ((rd_T44 y333 x80_3).f0), .int .i64 ((rd_T44 y333 x80_3).f1), .int .i64 ((rd_T44 y333 x80_3).f2)] 44 (0, 0)) (by (with_reducible repeat (first | apply blk_drewN | apply blk_drew | apply blk_alloc)); exact BK337.out) hb); have n10_ := Aside0.mk (below_step (by repeat (first | (with_reducible first | exact HB.out | apply below_alloc | apply pw_below_drewN | apply below_drew1 | refine below_set ?_ GE307.out | refine below_set ?_ GE308.out | refine below_set ?_ GE321.out | refine below_set ?_ GE322.out | refine below_set ?_ GE327.out | refine below_set ?_ GE332.out | refine below_set ?_ GE337.out) | exact HB.out)) hb); clear HO_53; clear HO_61; clear HO_78; clear BK307; clear BK308; clear BK321; clear BK322; clear BK327; clear BK332; clear BK337; clear HB; have HO_53 := n0_; have HO_61 := n1_; have HO_78 := n2_; have BK307 := n3_; have BK308 := n4_; have BK321 := n5_; have BK322 := n6_; have BK327 := n7_; have BK332 := n8_; have BK337 := n9_; have HB := n10_; clear n0_ n1_ n2_ n3_ n4_ n5_ n6_ n7_ n8_ n9_ n10_; (try clear hb); (try clear hb2); (try clear hk); (try clear hi)))
                 (try simp only [Act.put, List.setIfInBounds_toArray, List.set_cons_zero, List.set_cons_succ])
                 go_cut [145] (fun v145 wc => ∃ (kq : Nat) (x145_73 : Bool), v145 = .bool x145_73 ∧ Aside0 (soundservicelaw18_ControlBounds.j4 kq a3 a4 a5 a6 a7 t318 t319 y323 (y323.length : Int) x55_1 y328 (y328.length : Int) x63_2 y333 (y333.length : Int) x80_3 x145_73 a1_0 a1_1 t316 t317 ((rd_T23 y323 x55_1).f0) ((rd_T23 y323 x55_1).f1) ((rd_T23 y323 x55_1).f2) ((rd_T23 y323 x55_1).f3) ((rd_T27 y328 x63_2).f0) ((rd_T27 y328 x63_2).f1) ((rd_T44 y333 x80_3).f0) ((rd_T44 y333 x80_3).f1) ((rd_T44 y333 x80_3).f2) = some r) ∧ Aside0 (kq ≤ k3) ∧ Aside0 (Kd.R k23 23 wc w.heap.size (fun k_ => k_ ≠ gb307 ∧ k_ ≠ gb321 ∧ k_ ≠ gb327) (.slice (some ad326) y323.length co34) y323) ∧ Aside0 (Kd.R k27 27 wc w.heap.size (fun k_ => k_ ≠ gb308 ∧ k_ ≠ gb322 ∧ k_ ≠ gb332) (.slice (some ad331) y328.length co53) y328) ∧ Aside0 (Kd.R k44 44 wc w.heap.size (fun k_ => k_ ≠ gb337) (.slice (some ad336) y333.length co66) y333) ∧ Aside0 (wc.heap[gb307]? = some (.cells #[.int .i64 a0_0, .int .i64 a0_1, .int .i64 a0_2, .int .i64 a0_3] 23 (0, 0))) ∧ Aside0 (wc.heap[gb308]? = some (.cells #[.int .i64 a1_0, .int .i64 a1_1] 27 (0, 0))) ∧ Aside0 (wc.heap[gb321]? = some (.cells #[.int .i64 t312, .int .i64 t313, .int .i64 t314, .int .i64 t315] 23 (0, 0))) ∧ Aside0 (wc.heap[gb322]? = some (.cells #[.int .i64 t316, .int .i64 t317] 27 (0, 0))) ∧ Aside0 (wc.heap[gb327]? = some (.cells #[.int .i64 ((rd_T23 y323 x55_1).f0), .int .i64 ((rd_T23 y323 x55_1).f1), .int .i64 ((rd_T23 y323 x55_1).f2), .int .i64 ((rd_T23 y323 x55_1).f3)] 23 (0, 0))) ∧ Aside0 (wc.heap[gb332]? = some (.cells #[.int .i64 ((rd_T27 y328 x63_2).f0), .int .i64 ((rd_T27 y328 x63_2).f1)] 27 (0, 0))) ∧ Aside0 (wc.heap[gb337]? = some (.cells #[.int .i64 ((rd_T44 y333 x80_3).f0), .int .i64 ((rd_T44 y333 x80_3).f1), .int .i64 ((rd_T44 y333 x80_3).f2)] 44 (0, 0))) ∧ Aside0 (Below w.heap.size w wc))
                 case first =>
                  have H := HC74.out
                  clear HC74
                  have HC107 := Aside0.mk H
                  clear H
                  go_upto_region 17 with (fail)
                  go_cut [145] (fun v145 wc => ∃ (kq : Nat) (x145_106 : Bool), v145 = .bool x145_106 ∧ Aside0 (soundservicelaw18_ControlBounds.j3 kq a3 a4 a5 a6 a7 t318 t319 y323 (y323.length : Int) x55_1 y328 (y328.length : Int) x63_2 y333 (y333.length : Int) x80_3 x145_106 a1_0 a1_1 t316 t317 ((rd_T23 y323 x55_1).f0) ((rd_T23 y323 x55_1).f1) ((rd_T23 y323 x55_1).f2) ((rd_T23 y323 x55_1).f3) ((rd_T27 y328 x63_2).f0) ((rd_T27 y328 x63_2).f1) ((rd_T44 y333 x80_3).f0) ((rd_T44 y333 x80_3).f1) ((rd_T44 y333 x80_3).f2) = some r) ∧ Aside0 (kq ≤ k3) ∧ Aside0 (Kd.R k23 23 wc w.heap.size (fun k_ => k_ ≠ gb307 ∧ k_ ≠ gb321 ∧ k_ ≠ gb327) (.slice (some ad326) y323.length co34) y323) ∧ Aside0 (Kd.R k27 27 wc w.heap.size (fun k_ => k_ ≠ gb308 ∧ k_ ≠ gb322 ∧ k_ ≠ gb332) (.slice (some ad331) y328.length co53) y328) ∧ Aside0 (Kd.R k44 44 wc w.heap.size (fun k_ => k_ ≠ gb337) (.slice (some ad336) y333.length co66) y333) ∧ Aside0 (wc.heap[gb307]? = some (.cells #[.int .i64 a0_0, .int .i64 a0_1, .int .i64 a0_2, .int .i64 a0_3] 23 (0, 0))) ∧ Aside0 (wc.heap[gb308]? = some (.cells #[.int .i64 a1_0, .int .i64 a1_1] 27 (0, 0))) ∧ Aside0 (wc.heap[gb321]? = some (.cells #[.int .i64 t312, .int .i64 t313, .int .i64 t314, .int .i64 t315] 23 (0, 0))) ∧ Aside0 (wc.heap[gb322]? = some (.cells #[.int .i64 t316, .int .i64 t317] 27 (0, 0))) ∧ Aside0 (wc.heap[gb327]? = some (.cells #[.int .i64 ((rd_T23 y323 x55_1).f0), .int .i64 ((rd_T23 y323 x55_1).f1), .int .i64 ((rd_T23 y323 x55_1).f2), .int .i64 ((rd_T23 y323 x55_1).f3)] 23 (0, 0))) ∧ Aside0 (wc.heap[gb332]? = some (.cells #[.int .i64 ((rd_T27 y328 x63_2).f0), .int .i64 ((rd_T27 y328 x63_2).f1)] 27 (0, 0))) ∧ Aside0 (wc.heap[gb337]? = some (.cells #[.int .i64 ((rd_T44 y333 x80_3).f0), .int .i64 ((rd_T44 y333 x80_3).f1), .int .i64 ((rd_T44 y333 x80_3).f2)] 44 (0, 0))) ∧ Aside0 (Below w.heap.size w wc))
                  case first =>
                   have H := HC107.out
                   clear HC107
                   by_cases c108 : t338 = t340
                   ·rw [if_pos c108] at H
                    have c108b0 : (t338 == t340) = true := beq_iff_eq.mpr c108
                    have c108b1 : (t338 != t340) = false := bne_eq_false_iff_eq.mpr c108
                    clear c108
                    (first | rw [c108b0] | (simp only [i64_w, i32_w]; rw [c108b0]) | skip)
                    by_cases c109 : t339 = t341
                    ·rw [if_pos c109] at H
                     have c109b0 : (t339 == t341) = true := beq_iff_eq.mpr c109
                     have c109b1 : (t339 != t341) = false := bne_eq_false_iff_eq.mpr c109
                     clear c109
                     by_cases c110 : t342 = t344
                     ·rw [if_pos c110] at H
                      have c110b0 : (t342 == t344) = true := beq_iff_eq.mpr c110
                      have c110b1 : (t342 != t344) = false := bne_eq_false_iff_eq.mpr c110
                      clear c110
                      have H' := Aside0.mk H
                      clear H
                      go_wp2
                      go_meet
                      case rel => exact ⟨_, ((t343 != t345)), (by first | rfl | (simp; done) | (simp [*]; done)), H', ⟨by have := HK1.out; have := HK2.out; have := HK3.out; first | omega | exact Nat.le_refl _⟩, ⟨by (with_reducible repeat (first | apply Kd.R_alloc | apply Kd.R_drewN | apply Kd.R_drew)); exact HO_53.out⟩, ⟨by (with_reducible repeat (first | apply Kd.R_alloc | apply Kd.R_drewN | apply Kd.R_drew)); exact HO_61.out⟩, ⟨by (with_reducible repeat (first | apply Kd.R_alloc | apply Kd.R_drewN | apply Kd.R_drew)); exact Kd.R_mono HO_78.out (fun _ hk => by first | exact hk.2 | trivial)⟩, ⟨by (with_reducible repeat (first | apply blk_drewN | apply blk_drew | apply blk_alloc)); exact BK307.out⟩, ⟨by (with_reducible repeat (first | apply blk_drewN | apply blk_drew | apply blk_alloc)); exact BK308.out⟩, ⟨by (with_reducible repeat (first | apply blk_drewN | apply blk_drew | apply blk_alloc)); exact BK321.out⟩, ⟨by (with_reducible repeat (first | apply blk_drewN | apply blk_drew | apply blk_alloc)); exact BK322.out⟩, ⟨by (with_reducible repeat (first | apply blk_drewN | apply blk_drew | apply blk_alloc)); exact BK327.out⟩, ⟨by (with_reducible repeat (first | apply blk_drewN | apply blk_drew | apply blk_alloc)); exact BK332.out⟩, ⟨by (with_reducible repeat (first | apply blk_drewN | apply blk_drew | apply blk_alloc)); exact BK337.out⟩, ⟨by repeat (first | (with_reducible first | exact HB.out | apply below_alloc | apply pw_below_drewN | apply below_drew1 | refine below_set ?_ GE307.out | refine below_set ?_ GE308.out | refine below_set ?_ GE321.out | refine below_set ?_ GE322.out | refine below_set ?_ GE327.out | refine below_set ?_ GE332.out | refine below_set ?_ GE337.out) | exact HB.out)⟩⟩
                     ·rw [if_neg c110] at H
                      have c110b0 : (t342 == t344) = false := beq_eq_false_iff_ne.mpr c110
                      have c110b1 : (t342 != t344) = true := bne_iff_ne.mpr c110
                      have H' := Aside0.mk H
                      clear H
                      go_wp2
                      go_meet
                      case rel => exact ⟨_, (true), (by first | rfl | (simp; done) | (simp [*]; done)), H', ⟨by have := HK1.out; have := HK2.out; have := HK3.out; first | omega | exact Nat.le_refl _⟩, ⟨by (with_reducible repeat (first | apply Kd.R_alloc | apply Kd.R_drewN | apply Kd.R_drew)); exact HO_53.out⟩, ⟨by (with_reducible repeat (first | apply Kd.R_alloc | apply Kd.R_drewN | apply Kd.R_drew)); exact HO_61.out⟩, ⟨by (with_reducible repeat (first | apply Kd.R_alloc | apply Kd.R_drewN | apply Kd.R_drew)); exact Kd.R_mono HO_78.out (fun _ hk => by first | exact hk.2 | trivial)⟩, ⟨by (with_reducible repeat (first | apply blk_drewN | apply blk_drew | apply blk_alloc)); exact BK307.out⟩, ⟨by (with_reducible repeat (first | apply blk_drewN | apply blk_drew | apply blk_alloc)); exact BK308.out⟩, ⟨by (with_reducible repeat (first | apply blk_drewN | apply blk_drew | apply blk_alloc)); exact BK321.out⟩, ⟨by (with_reducible repeat (first | apply blk_drewN | apply blk_drew | apply blk_alloc)); exact BK322.out⟩, ⟨by (with_reducible repeat (first | apply blk_drewN | apply blk_drew | apply blk_alloc)); exact BK327.out⟩, ⟨by (with_reducible repeat (first | apply blk_drewN | apply blk_drew | apply blk_alloc)); exact BK332.out⟩, ⟨by (with_reducible repeat (first | apply blk_drewN | apply blk_drew | apply blk_alloc)); exact BK337.out⟩, ⟨by repeat (first | (with_reducible first | exact HB.out | apply below_alloc | apply pw_below_drewN | apply below_drew1 | refine below_set ?_ GE307.out | refine below_set ?_ GE308.out | refine below_set ?_ GE321.out | refine below_set ?_ GE322.out | refine below_set ?_ GE327.out | refine below_set ?_ GE332.out | refine below_set ?_ GE337.out) | exact HB.out)⟩⟩
                    ·rw [if_neg c109] at H
                     have c109b0 : (t339 == t341) = false := beq_eq_false_iff_ne.mpr c109
                     have c109b1 : (t339 != t341) = true := bne_iff_ne.mpr c109
                     have H' := Aside0.mk H
                     clear H
                     go_wp2
                     go_meet
                     case rel => exact ⟨_, (true), (by first | rfl | (simp; done) | (simp [*]; done)), H', ⟨by have := HK1.out; have := HK2.out; have := HK3.out; first | omega | exact Nat.le_refl _⟩, ⟨by (with_reducible repeat (first | apply Kd.R_alloc | apply Kd.R_drewN | apply Kd.R_drew)); exact HO_53.out⟩, ⟨by (with_reducible repeat (first | apply Kd.R_alloc | apply Kd.R_drewN | apply Kd.R_drew)); exact HO_61.out⟩, ⟨by (with_reducible repeat (first | apply Kd.R_alloc | apply Kd.R_drewN | apply Kd.R_drew)); exact Kd.R_mono HO_78.out (fun _ hk => by first | exact hk.2 | trivial)⟩, ⟨by (with_reducible repeat (first | apply blk_drewN | apply blk_drew | apply blk_alloc)); exact BK307.out⟩, ⟨by (with_reducible repeat (first | apply blk_drewN | apply blk_drew | apply blk_alloc)); exact BK308.out⟩, ⟨by (with_reducible repeat (first | apply blk_drewN | apply blk_drew | apply blk_alloc)); exact BK321.out⟩, ⟨by (with_reducible repeat (first | apply blk_drewN | apply blk_drew | apply blk_alloc)); exact BK322.out⟩, ⟨by (with_reducible repeat (first | apply blk_drewN | apply blk_drew | apply blk_alloc)); exact BK327.out⟩, ⟨by (with_reducible repeat (first | apply blk_drewN | apply blk_drew | apply blk_alloc)); exact BK332.out⟩, ⟨by (with_reducible repeat (first | apply blk_drewN | apply blk_drew | apply blk_alloc)); exact BK337.out⟩, ⟨by repeat (first | (with_reducible first | exact HB.out | apply below_alloc | apply pw_below_drewN | apply below_drew1 | refine below_set ?_ GE307.out | refine below_set ?_ GE308.out | refine below_set ?_ GE321.out | refine below_set ?_ GE322.out | refine below_set ?_ GE327.out | refine below_set ?_ GE332.out | refine below_set ?_ GE337.out) | exact HB.out)⟩⟩
                   ·rw [if_neg c108] at H
                    have c108b0 : (t338 == t340) = false := beq_eq_false_iff_ne.mpr c108
                    have c108b1 : (t338 != t340) = true := bne_iff_ne.mpr c108
                    (first | rw [c108b0] | (simp only [i64_w, i32_w]; rw [c108b0]) | skip)
                    have H' := Aside0.mk H
                    clear H
                    go_wp2
                    go_meet
                    case rel => exact ⟨_, (true), (by first | rfl | (simp; done) | (simp [*]; done)), H', ⟨by have := HK1.out; have := HK2.out; have := HK3.out; first | omega | exact Nat.le_refl _⟩, ⟨by (with_reducible repeat (first | apply Kd.R_alloc | apply Kd.R_drewN | apply Kd.R_drew)); exact HO_53.out⟩, ⟨by (with_reducible repeat (first | apply Kd.R_alloc | apply Kd.R_drewN | apply Kd.R_drew)); exact HO_61.out⟩, ⟨by (with_reducible repeat (first | apply Kd.R_alloc | apply Kd.R_drewN | apply Kd.R_drew)); exact Kd.R_mono HO_78.out (fun _ hk => by first | exact hk.2 | trivial)⟩, ⟨by (with_reducible repeat (first | apply blk_drewN | apply blk_drew | apply blk_alloc)); exact BK307.out⟩, ⟨by (with_reducible repeat (first | apply blk_drewN | apply blk_drew | apply blk_alloc)); exact BK308.out⟩, ⟨by (with_reducible repeat (first | apply blk_drewN | apply blk_drew | apply blk_alloc)); exact BK321.out⟩, ⟨by (with_reducible repeat (first | apply blk_drewN | apply blk_drew | apply blk_alloc)); exact BK322.out⟩, ⟨by (with_reducible repeat (first | apply blk_drewN | apply blk_drew | apply blk_alloc)); exact BK327.out⟩, ⟨by (with_reducible repeat (first | apply blk_drewN | apply blk_drew | apply blk_alloc)); exact BK332.out⟩, ⟨by (with_reducible repeat (first | apply blk_drewN | apply blk_drew | apply blk_alloc)); exact BK337.out⟩, ⟨by repeat (first | (with_reducible first | exact HB.out | apply below_alloc | apply pw_below_drewN | apply below_drew1 | refine below_set ?_ GE307.out | refine below_set ?_ GE308.out | refine below_set ?_ GE321.out | refine below_set ?_ GE322.out | refine below_set ?_ GE327.out | refine below_set ?_ GE332.out | refine below_set ?_ GE337.out) | exact HB.out)⟩⟩
                  case rest =>
                   clear HC107
                   try clear c1
                   try clear c2
                   try clear p2
                   try clear c3
                   try clear p3
                   try clear q3
                   try clear hx3
                   try clear c4
                   try clear c5
                   try clear c6
                   try clear p6
                   try clear c7
                   try clear c8
                   try clear c9
                   try clear c10
                   try clear c11
                   try clear c12
                   try clear c17
                   try clear c18
                   try clear c19
                   try clear c20
                   try clear c21
                   try clear c22
                   try clear c23
                   try clear c25
                   try clear c26
                   try clear c27
                   try clear c29
                   try clear c30
                   try clear p32
                   try clear q32
                   try clear hx32
                   try clear p33
                   try clear q33
                   try clear hx33
                   try clear c35
                   try clear c35b0
                   try clear c36
                   try clear c36b0
                   try clear c37
                   try clear c37b0
                   try clear c39
                   try clear c40
                   try clear c41
                   try clear c42
                   try clear c44
                   try clear c45
                   try clear c46
                   try clear c48
                   try clear c49
                   try clear c54
                   try clear c54b0
                   try clear c55
                   try clear c55b0
                   try clear c56
                   try clear c56b0
                   try clear c58
                   try clear c59
                   try clear c60
                   try clear c61
                   try clear c62
                   try clear p64
                   try clear c67
                   try clear c67b0
                   try clear c68
                   try clear c68b0
                   try clear c69
                   try clear c69b0
                   try clear c76
                   try clear c77
                   try clear c78
                   try clear c79
                   try clear c80
                   try clear c81
                   try clear c83
                   try clear c84
                   try clear c85
                   try clear c86
                   try clear c87
                   try clear c89
                   try clear c90
                   try clear c91
                   try clear c92
                   try clear c108
                   try clear c108b0
                   try clear c108b1
                   try clear c109
                   try clear c109b0
                   try clear c109b1
                   try clear c110
                   try clear c110b0
                   try clear c110b1
                   try clear hcz100_0
                   try clear hcz100_1
                   try clear hcz101_0
                   try clear hcz101_1
                   try clear hcz101_2
                   try clear hcz103_0
                   try clear hcz103_1
                   try clear hcz103_2
                   try clear hcz103_3
                   try clear hcz104_0
                   try clear hcz104_1
                   try clear hcz105_0
                   try clear hcz105_1
                   try clear hcz105_2
                   try clear hcz24_0
                   try clear hcz24_1
                   try clear hcz24_2
                   try clear hcz24_3
                   try clear hcz28_0
                   try clear hcz28_1
                   try clear hcz31_0
                   try clear hcz31_1
                   try clear hcz31_2
                   try clear hcz31_3
                   try clear hcz43_0
                   try clear hcz43_1
                   try clear hcz43_2
                   try clear hcz43_3
                   try clear hcz47_0
                   try clear hcz47_1
                   try clear hcz50_0
                   try clear hcz50_1
                   try clear hcz63_0
                   try clear hcz63_1
                   try clear hcz82_0
                   try clear hcz82_1
                   try clear hcz82_2
                   try clear hcz88_0
                   try clear hcz88_1
                   try clear hcz88_2
                   try clear hcz88_3
                   try clear hcz93_0
                   try clear hcz93_1
                   try clear hcz95_0
                   try clear hcz95_1
                   try clear hcz95_2
                   try clear hcz95_3
                   try clear hcz96_0
                   try clear hcz96_1
                   try clear hcz97_0
                   try clear hcz97_1
                   try clear hcz97_2
                   try clear hcz99_0
                   try clear hcz99_1
                   try clear hcz99_2
                   try clear hcz99_3
                   try clear hfz100_0
                   try clear hfz100_1
                   try clear hfz101_0
                   try clear hfz101_1
                   try clear hfz101_2
                   try clear hfz103_0
                   try clear hfz103_1
                   try clear hfz103_2
                   try clear hfz103_3
                   try clear hfz104_0
                   try clear hfz104_1
                   try clear hfz105_0
                   try clear hfz105_1
                   try clear hfz105_2
                   try clear hfz24_0
                   try clear hfz24_1
                   try clear hfz24_2
                   try clear hfz24_3
                   try clear hfz28_0
                   try clear hfz28_1
                   try clear hfz31_0
                   try clear hfz31_1
                   try clear hfz31_2
                   try clear hfz31_3
                   try clear hfz43_0
                   try clear hfz43_1
                   try clear hfz43_2
                   try clear hfz43_3
                   try clear hfz47_0
                   try clear hfz47_1
                   try clear hfz50_0
                   try clear hfz50_1
                   try clear hfz63_0
                   try clear hfz63_1
                   try clear hfz82_0
                   try clear hfz82_1
                   try clear hfz82_2
                   try clear hfz88_0
                   try clear hfz88_1
                   try clear hfz88_2
                   try clear hfz88_3
                   try clear hfz93_0
                   try clear hfz93_1
                   try clear hfz95_0
                   try clear hfz95_1
                   try clear hfz95_2
                   try clear hfz95_3
                   try clear hfz96_0
                   try clear hfz96_1
                   try clear hfz97_0
                   try clear hfz97_1
                   try clear hfz97_2
                   try clear hfz99_0
                   try clear hfz99_1
                   try clear hfz99_2
                   try clear hfz99_3
                   try clear hx326_0
                   try clear hx326_1
                   try clear hx326_2
                   try clear hx326_3
                   try clear hx331_0
                   try clear hx331_1
                   try clear hx336_0
                   try clear hx336_1
                   try clear hx336_2
                   try clear p2
                   try clear p3
                   try clear p32
                   try clear p326
                   try clear p33
                   try clear p331
                   try clear p336
                   try clear p6
                   try clear p64
                   try clear q3
                   try clear q32
                   try clear q326
                   try clear q33
                   try clear q331
                   try clear q336
                   obtain ⟨kq, x145_106, rfl, HA, HJ106, HO_53, HO_61, HO_78, BK307, BK308, BK321, BK322, BK327, BK332, BK337, HB⟩ := hcut
                   cases kq with
                   | zero => exact absurd HA.out (by simp [soundservicelaw18_ControlBounds.j3])
                   | succ kj106 =>
                    have H := HA.out
                    clear HA
                    simp only [soundservicelaw18_ControlBounds.j3] at H
                    have H' := Aside0.mk H
                    clear H
                    go_wp2
                    go_meet
                    case rel => exact ⟨_, (x145_106), (by first | rfl | (simp; done) | (simp [*]; done)), H', ⟨by have := HK1.out; have := HK2.out; have := HK3.out; have := HJ106.out; first | omega | exact Nat.le_refl _⟩, ⟨by (with_reducible repeat (first | apply Kd.R_alloc | apply Kd.R_drewN | apply Kd.R_drew)); exact HO_53.out⟩, ⟨by (with_reducible repeat (first | apply Kd.R_alloc | apply Kd.R_drewN | apply Kd.R_drew)); exact HO_61.out⟩, ⟨by (with_reducible repeat (first | apply Kd.R_alloc | apply Kd.R_drewN | apply Kd.R_drew)); exact HO_78.out⟩, ⟨by (with_reducible repeat (first | apply blk_drewN | apply blk_drew | apply blk_alloc)); exact BK307.out⟩, ⟨by (with_reducible repeat (first | apply blk_drewN | apply blk_drew | apply blk_alloc)); exact BK308.out⟩, ⟨by (with_reducible repeat (first | apply blk_drewN | apply blk_drew | apply blk_alloc)); exact BK321.out⟩, ⟨by (with_reducible repeat (first | apply blk_drewN | apply blk_drew | apply blk_alloc)); exact BK322.out⟩, ⟨by (with_reducible repeat (first | apply blk_drewN | apply blk_drew | apply blk_alloc)); exact BK327.out⟩, ⟨by (with_reducible repeat (first | apply blk_drewN | apply blk_drew | apply blk_alloc)); exact BK332.out⟩, ⟨by (with_reducible repeat (first | apply blk_drewN | apply blk_drew | apply blk_alloc)); exact BK337.out⟩, ⟨by repeat (first | (with_reducible first | exact HB.out | apply below_alloc | apply pw_below_drewN | apply below_drew1 | refine below_set ?_ GE307.out | refine below_set ?_ GE308.out | refine below_set ?_ GE321.out | refine below_set ?_ GE322.out | refine below_set ?_ GE327.out | refine below_set ?_ GE332.out | refine below_set ?_ GE337.out) | exact HB.out)⟩⟩
                 case rest =>
                  clear HC74
                  try clear c1
                  try clear c2
                  try clear p2
                  try clear c3
                  try clear p3
                  try clear q3
                  try clear hx3
                  try clear c4
                  try clear c5
                  try clear c6
                  try clear p6
                  try clear c7
                  try clear c8
                  try clear c9
                  try clear c10
                  try clear c11
                  try clear c12
                  try clear c17
                  try clear c18
                  try clear c19
                  try clear c20
                  try clear c21
                  try clear c22
                  try clear c23
                  try clear c25
                  try clear c26
                  try clear c27
                  try clear c29
                  try clear c30
                  try clear p32
                  try clear q32
                  try clear hx32
                  try clear p33
                  try clear q33
                  try clear hx33
                  try clear c35
                  try clear c35b0
                  try clear c36
                  try clear c36b0
                  try clear c37
                  try clear c37b0
                  try clear c39
                  try clear c40
                  try clear c41
                  try clear c42
                  try clear c44
                  try clear c45
                  try clear c46
                  try clear c48
                  try clear c49
                  try clear c54
                  try clear c54b0
                  try clear c55
                  try clear c55b0
                  try clear c56
                  try clear c56b0
                  try clear c58
                  try clear c59
                  try clear c60
                  try clear c61
                  try clear c62
                  try clear p64
                  try clear c67
                  try clear c67b0
                  try clear c68
                  try clear c68b0
                  try clear c69
                  try clear c69b0
                  try clear c76
                  try clear c77
                  try clear c78
                  try clear c79
                  try clear c80
                  try clear c81
                  try clear c83
                  try clear c84
                  try clear c85
                  try clear c86
                  try clear c87
                  try clear c89
                  try clear c90
                  try clear c91
                  try clear c92
                  try clear c108
                  try clear c108b0
                  try clear c108b1
                  try clear c109
                  try clear c109b0
                  try clear c109b1
                  try clear c110
                  try clear c110b0
                  try clear c110b1
                  try clear hcz100_0
                  try clear hcz100_1
                  try clear hcz101_0
                  try clear hcz101_1
                  try clear hcz101_2
                  try clear hcz103_0
                  try clear hcz103_1
                  try clear hcz103_2
                  try clear hcz103_3
                  try clear hcz104_0
                  try clear hcz104_1
                  try clear hcz105_0
                  try clear hcz105_1
                  try clear hcz105_2
                  try clear hcz24_0
                  try clear hcz24_1
                  try clear hcz24_2
                  try clear hcz24_3
                  try clear hcz28_0
                  try clear hcz28_1
                  try clear hcz31_0
                  try clear hcz31_1
                  try clear hcz31_2
                  try clear hcz31_3
                  try clear hcz43_0
                  try clear hcz43_1
                  try clear hcz43_2
                  try clear hcz43_3
                  try clear hcz47_0
                  try clear hcz47_1
                  try clear hcz50_0
                  try clear hcz50_1
                  try clear hcz63_0
                  try clear hcz63_1
                  try clear hcz82_0
                  try clear hcz82_1
                  try clear hcz82_2
                  try clear hcz88_0
                  try clear hcz88_1
                  try clear hcz88_2
                  try clear hcz88_3
                  try clear hcz93_0
                  try clear hcz93_1
                  try clear hcz95_0
                  try clear hcz95_1
                  try clear hcz95_2
                  try clear hcz95_3
                  try clear hcz96_0
                  try clear hcz96_1
                  try clear hcz97_0
                  try clear hcz97_1
                  try clear hcz97_2
                  try clear hcz99_0
                  try clear hcz99_1
                  try clear hcz99_2
                  try clear hcz99_3
                  try clear hfz100_0
                  try clear hfz100_1
                  try clear hfz101_0
                  try clear hfz101_1
                  try clear hfz101_2
                  try clear hfz103_0
                  try clear hfz103_1
                  try clear hfz103_2
                  try clear hfz103_3
                  try clear hfz104_0
                  try clear hfz104_1
                  try clear hfz105_0
                  try clear hfz105_1
                  try clear hfz105_2
                  try clear hfz24_0
                  try clear hfz24_1
                  try clear hfz24_2
                  try clear hfz24_3
                  try clear hfz28_0
                  try clear hfz28_1
                  try clear hfz31_0
                  try clear hfz31_1
                  try clear hfz31_2
                  try clear hfz31_3
                  try clear hfz43_0
                  try clear hfz43_1
                  try clear hfz43_2
                  try clear hfz43_3
                  try clear hfz47_0
                  try clear hfz47_1
                  try clear hfz50_0
                  try clear hfz50_1
                  try clear hfz63_0
                  try clear hfz63_1
                  try clear hfz82_0
                  try clear hfz82_1
                  try clear hfz82_2
                  try clear hfz88_0
                  try clear hfz88_1
                  try clear hfz88_2
                  try clear hfz88_3
                  try clear hfz93_0
                  try clear hfz93_1
                  try clear hfz95_0
                  try clear hfz95_1
                  try clear hfz95_2
                  try clear hfz95_3
                  try clear hfz96_0
                  try clear hfz96_1
                  try clear hfz97_0
                  try clear hfz97_1
                  try clear hfz97_2
                  try clear hfz99_0
                  try clear hfz99_1
                  try clear hfz99_2
                  try clear hfz99_3
                  try clear hx326_0
                  try clear hx326_1
                  try clear hx326_2
                  try clear hx326_3
                  try clear hx331_0
                  try clear hx331_1
                  try clear hx336_0
                  try clear hx336_1
                  try clear hx336_2
                  try clear p2
                  try clear p3
                  try clear p32
                  try clear p326
                  try clear p33
                  try clear p331
                  try clear p336
                  try clear p6
                  try clear p64
                  try clear q3
                  try clear q32
                  try clear q326
                  try clear q33
                  try clear q331
                  try clear q336
                  obtain ⟨kq, x145_73, rfl, HA, HJ73, HO_53, HO_61, HO_78, BK307, BK308, BK321, BK322, BK327, BK332, BK337, HB⟩ := hcut
                  cases kq with
                  | zero => exact absurd HA.out (by simp [soundservicelaw18_ControlBounds.j4])
                  | succ kj73 =>
                   have H := HA.out
                   clear HA
                   simp only [soundservicelaw18_ControlBounds.j4] at H
                   by_cases c111 : x145_73 = true
                   ·subst c111
                    have H1 : (some false) = some r := by rw [if_pos rfl] at H; exact H
                    clear H
                    have H := H1
                    clear H1
                    obtain rfl := Option.some.inj H
                    go_wp2
                    go_ret
                    exact ⟨by first | rfl | (simp [errW_none, errW_some] <;> rfl) | (simp [*, errW_none, errW_some] <;> rfl), by repeat (first | (with_reducible first | exact HB.out | apply below_alloc | apply pw_below_drewN | apply below_drew1 | refine below_set ?_ GE307.out | refine below_set ?_ GE308.out | refine below_set ?_ GE321.out | refine below_set ?_ GE322.out | refine below_set ?_ GE327.out | refine below_set ?_ GE332.out | refine below_set ?_ GE337.out) | exact HB.out)⟩
                   ·replace c111 := Bool.eq_false_iff.mpr c111
                    subst c111
                    have H1 : ((control_Plan.f kj73 ((rd_T27 y328 x63_2).f0) ((rd_T27 y328 x63_2).f1) ((rd_T44 y333 x80_3).f0) ((rd_T44 y333 x80_3).f1) a6 a7).bind fun bt346 => ((soundserviceref18_Plan.f kj73 ((rd_T27 y328 x63_2).f0) ((rd_T27 y328 x63_2).f1) ((rd_T44 y333 x80_3).f0) ((rd_T44 y333 x80_3).f1) a6 a7).bind fun bt353 => (if (!(bt346.1 == bt353.1) || (!(bt346.2.1 == bt353.2.1) || (!(bt346.2.2.1 == bt353.2.2.1) || (!(bt346.2.2.2.1 == bt353.2.2.2.1))))) = true then (soundservicelaw18_ControlBounds.j5 kj73 a3 a4 a5 a6 a7 t318 t319 y323 (y323.length : Int) x55_1 y328 (y328.length : Int) x63_2 y333 (y333.length : Int) x80_3 true a1_0 a1_1 t316 t317 ((rd_T23 y323 x55_1).f0) ((rd_T23 y323 x55_1).f1) ((rd_T23 y323 x55_1).f2) ((rd_T23 y323 x55_1).f3) ((rd_T27 y328 x63_2).f0) ((rd_T27 y328 x63_2).f1)) else (if bt346.2.2.2.2.1 = bt353.2.2.2.2.1 then (soundservicelaw18_ControlBounds.j5 kj73 a3 a4 a5 a6 a7 t318 t319 y323 (y323.length : Int) x55_1 y328 (y328.length : Int) x63_2 y333 (y333.length : Int) x80_3 (bt346.2.2.2.2.2 != bt353.2.2.2.2.2) a1_0 a1_1 t316 t317 ((rd_T23 y323 x55_1).f0) ((rd_T23 y323 x55_1).f1) ((rd_T23 y323 x55_1).f2) ((rd_T23 y323 x55_1).f3) ((rd_T27 y328 x63_2).f0) ((rd_T27 y328 x63_2).f1)) else (soundservicelaw18_ControlBounds.j5 kj73 a3 a4 a5 a6 a7 t318 t319 y323 (y323.length : Int) x55_1 y328 (y328.length : Int) x63_2 y333 (y333.length : Int) x80_3 true a1_0 a1_1 t316 t317 ((rd_T23 y323 x55_1).f0) ((rd_T23 y323 x55_1).f1) ((rd_T23 y323 x55_1).f2) ((rd_T23 y323 x55_1).f3) ((rd_T27 y328 x63_2).f0) ((rd_T27 y328 x63_2).f1)))))) = some r := by rw [if_neg (show ¬ (false = true) by decide)] at H; exact H
                    clear H
                    have H := H1
                    clear H1
                    replace H := Option.bind_eq_some_iff.mp H
                    obtain ⟨⟨t346, t347, t348, t349, t350, t351⟩, A1120, H⟩ := H
                    replace H : ((soundserviceref18_Plan.f kj73 ((rd_T27 y328 x63_2).f0) ((rd_T27 y328 x63_2).f1) ((rd_T44 y333 x80_3).f0) ((rd_T44 y333 x80_3).f1) a6 a7).bind fun bt353 => (if (!(t346 == bt353.1) || (!(t347 == bt353.2.1) || (!(t348 == bt353.2.2.1) || (!(t349 == bt353.2.2.2.1))))) = true then (soundservicelaw18_ControlBounds.j5 kj73 a3 a4 a5 a6 a7 t318 t319 y323 (y323.length : Int) x55_1 y328 (y328.length : Int) x63_2 y333 (y333.length : Int) x80_3 true a1_0 a1_1 t316 t317 ((rd_T23 y323 x55_1).f0) ((rd_T23 y323 x55_1).f1) ((rd_T23 y323 x55_1).f2) ((rd_T23 y323 x55_1).f3) ((rd_T27 y328 x63_2).f0) ((rd_T27 y328 x63_2).f1)) else (if t350 = bt353.2.2.2.2.1 then (soundservicelaw18_ControlBounds.j5 kj73 a3 a4 a5 a6 a7 t318 t319 y323 (y323.length : Int) x55_1 y328 (y328.length : Int) x63_2 y333 (y333.length : Int) x80_3 (t351 != bt353.2.2.2.2.2) a1_0 a1_1 t316 t317 ((rd_T23 y323 x55_1).f0) ((rd_T23 y323 x55_1).f1) ((rd_T23 y323 x55_1).f2) ((rd_T23 y323 x55_1).f3) ((rd_T27 y328 x63_2).f0) ((rd_T27 y328 x63_2).f1)) else (soundservicelaw18_ControlBounds.j5 kj73 a3 a4 a5 a6 a7 t318 t319 y323 (y323.length : Int) x55_1 y328 (y328.length : Int) x63_2 y333 (y333.length : Int) x80_3 true a1_0 a1_1 t316 t317 ((rd_T23 y323 x55_1).f0) ((rd_T23 y323 x55_1).f1) ((rd_T23 y323 x55_1).f2) ((rd_T23 y323 x55_1).f3) ((rd_T27 y328 x63_2).f0) ((rd_T27 y328 x63_2).f1))))) = some r := H
                    have A112 := Aside0.mk A1120
                    clear A1120
                    replace H := Option.bind_eq_some_iff.mp H
                    obtain ⟨⟨t353, t354, t355, t356, t357, t358⟩, A1130, H⟩ := H
                    replace H : (if (!(t346 == t353) || (!(t347 == t354) || (!(t348 == t355) || (!(t349 == t356))))) = true then (soundservicelaw18_ControlBounds.j5 kj73 a3 a4 a5 a6 a7 t318 t319 y323 (y323.length : Int) x55_1 y328 (y328.length : Int) x63_2 y333 (y333.length : Int) x80_3 true a1_0 a1_1 t316 t317 ((rd_T23 y323 x55_1).f0) ((rd_T23 y323 x55_1).f1) ((rd_T23 y323 x55_1).f2) ((rd_T23 y323 x55_1).f3) ((rd_T27 y328 x63_2).f0) ((rd_T27 y328 x63_2).f1)) else (if t350 = t357 then (soundservicelaw18_ControlBounds.j5 kj73 a3 a4 a5 a6 a7 t318 t319 y323 (y323.length : Int) x55_1 y328 (y328.length : Int) x63_2 y333 (y333.length : Int) x80_3 (t351 != t358) a1_0 a1_1 t316 t317 ((rd_T23 y323 x55_1).f0) ((rd_T23 y323 x55_1).f1) ((rd_T23 y323 x55_1).f2) ((rd_T23 y323 x55_1).f3) ((rd_T27 y328 x63_2).f0) ((rd_T27 y328 x63_2).f1)) else (soundservicelaw18_ControlBounds.j5 kj73 a3 a4 a5 a6 a7 t318 t319 y323 (y323.length : Int) x55_1 y328 (y328.length : Int) x63_2 y333 (y333.length : Int) x80_3 true a1_0 a1_1 t316 t317 ((rd_T23 y323 x55_1).f0) ((rd_T23 y323 x55_1).f1) ((rd_T23 y323 x55_1).f2) ((rd_T23 y323 x55_1).f3) ((rd_T27 y328 x63_2).f0) ((rd_T27 y328 x63_2).f1)))) = some r := H
                    have A113 := Aside0.mk A1130
                    clear A1130
                    have HC114 := Aside0.mk H
                    clear H
                    have hnb115 := NB332_307.out
                    have hnc115 := NB307_332.out
                    have hnb116 := NB332_308.out
                    have hnc116 := NB308_332.out
                    have hnb117 := NB332_321.out
                    have hnc117 := NB321_332.out
                    have hnb118 := NB332_322.out
                    have hnc118 := NB322_332.out
                    have hnb119 := NB332_327.out
                    have hnc119 := NB327_332.out
                    have hnb120 := NB332_337.out
                    have hnc120 := NB337_332.out
                    have hcz121_0 : wc.cell? ⟨gb332, 0, none⟩ = some (.int .i64 ((rd_T27 y328 x63_2).f0)) := (blk_cell BK332.out 0).trans rfl
                    have hcz121_1 : wc.cell? ⟨gb332, 1, none⟩ = some (.int .i64 ((rd_T27 y328 x63_2).f1)) := (blk_cell BK332.out 1).trans rfl
                    have hfz121_0 := blk_frozen BK332.out 0
                    have hfz121_1 := blk_frozen BK332.out 1
                    have hnb122 := NB337_307.out
                    have hnc122 := NB307_337.out
                    have hnb123 := NB337_308.out
                    have hnc123 := NB308_337.out
                    have hnb124 := NB337_321.out
                    have hnc124 := NB321_337.out
                    have hnb125 := NB337_322.out
                    have hnc125 := NB322_337.out
                    have hnb126 := NB337_327.out
                    have hnc126 := NB327_337.out
                    have hcz127_0 : wc.cell? ⟨gb337, 0, none⟩ = some (.int .i64 ((rd_T44 y333 x80_3).f0)) := (blk_cell BK337.out 0).trans rfl
                    have hcz127_1 : wc.cell? ⟨gb337, 1, none⟩ = some (.int .i64 ((rd_T44 y333 x80_3).f1)) := (blk_cell BK337.out 1).trans rfl
                    have hcz127_2 : wc.cell? ⟨gb337, 2, none⟩ = some (.int .i64 ((rd_T44 y333 x80_3).f2)) := (blk_cell BK337.out 2).trans rfl
                    have hfz127_0 := blk_frozen BK337.out 0
                    have hfz127_1 := blk_frozen BK337.out 1
                    have hfz127_2 := blk_frozen BK337.out 2
                    go_upto_region 21 with (first | ((with_reducible refine gate_callee (f := 21) rfl ?_); refine goesL_ (some 154) rfl rfl Try.func21 (by kernel_rfl) rfl #[.agg #[.int .i64 ((rd_T27 y328 x63_2).f0), .int .i64 ((rd_T27 y328 x63_2).f1)], .int .i64 ((rd_T44 y333 x80_3).f0), .int .i64 ((rd_T44 y333 x80_3).f1), .int .i64 a6, .int .i64 a7] rfl (by (try simp only [List.map_toArray, List.map_cons, List.map_nil]); first | done | rfl | (simp only [List.length_drop, List.length_take]; rfl)) ?_; (with_reducible refine (control_Plan.calls kj73 ((rd_T27 y328 x63_2).f0) ((rd_T27 y328 x63_2).f1) ((rd_T44 y333 x80_3).f0) ((rd_T44 y333 x80_3).f1) a6 a7 t346 t347 t348 t349 t350 t351 _ A112.out).mono ?_); rintro e w128 ⟨rfl, hb⟩; refine ⟨_, rfl, ?_⟩; have n0_ := Aside0.mk (Kd.R_below (by (with_reducible repeat (first | apply Kd.R_alloc | apply Kd.R_drewN | apply Kd.R_drew)); exact HO_53.out) hb); have n1_ := Aside0.mk (Kd.R_below (by (with_reducible repeat (first | apply Kd.R_alloc | apply Kd.R_drewN | apply Kd.R_drew)); exact HO_61.out) hb); have n2_ := Aside0.mk (Kd.R_below (by (with_reducible repeat (first | apply Kd.R_alloc | apply Kd.R_drewN | apply Kd.R_drew)); exact HO_78.out) hb); have n3_ := Aside0.mk (blk_below (g := gb307) (o := .cells #[.int .i64 a0_0, .int .i64 a0_1, .int .i64 a0_2, .int .i64 a0_3] 23 (0, 0)) (by (with_reducible repeat (first | apply blk_drewN | apply blk_drew | apply blk_alloc)); exact BK307.out) hb); have n4_ := Aside0.mk (blk_below (g := gb308) (o := .cells #[.int .i64 a1_0, .int .i64 a1_1] 27 (0, 0)) (by (with_reducible repeat (first | apply blk_drewN | apply blk_drew | apply blk_alloc)); exact BK308.out) hb); have n5_ := Aside0.mk (blk_below (g := gb321) (o := .cells #[.int .i64 t312, .int .i64 t313, .int .i64 t314, .int .i64 t315] 23 (0, 0)) (by (with_reducible repeat (first | apply blk_drewN | apply blk_drew | apply blk_alloc)); exact BK321.out) hb); have n6_ := Aside0.mk (blk_below (g := gb322) (o := .cells #[.int .i64 t316, .int .i64 t317] 27 (0, 0)) (by (with_reducible repeat (first | apply blk_drewN | apply blk_drew | apply blk_alloc)); exact BK322.out) hb); have n7_ := Aside0.mk (blk_below (g := gb327) (o := .cells #[.int .i64 ((rd_T23 y323 x55_1).f0), .int .i64 ((rd_T23 y323 x55_1).f1), .int .i64 ((rd_T23 y323 x55_1).f2), .int .i64 ((rd_T23 y323 x55_1).f3)] 23 (0, 0)) (by (with_reducible repeat (first | apply blk_drewN | apply blk_drew | apply blk_alloc)); exact BK327.out) hb); have n8_ := Aside0.mk (blk_below (g := gb332) (o := .cells #[.int .i64 ((rd_T27 y328 x63_2).f0), .int .i64 ((rd_T27 y328 x63_2).f1)] 27 (0, 0)) (by (with_reducible repeat (first | apply blk_drewN | apply blk_drew | apply blk_alloc)); exact BK332.out) hb); have n9_ := Aside0.mk (blk_below (g := gb337) (o := .cells #[.int .i64 ((rd_T44 y333 x80_3).f0), .int .i64 ((rd_T44 y333 x80_3).f1), .int .i64 ((rd_T44 y333 x80_3).f2)] 44 (0, 0)) (by (with_reducible repeat (first | apply blk_drewN | apply blk_drew | apply blk_alloc)); exact BK337.out) hb); have n10_ := Aside0.mk (below_step (by repeat (first | (with_reducible first | exact HB.out | apply below_alloc | apply pw_below_drewN | apply below_drew1 | refine below_set ?_ GE307.out | refine below_set ?_ GE308.out | refine below_set ?_ GE321.out | refine below_set ?_ GE322.out | refine below_set ?_ GE327.out | refine below_set ?_ GE332.out | refine below_set ?_ GE337.out) | exact HB.out)) hb); clear HO_53; clear HO_61; clear HO_78; clear BK307; clear BK308; clear BK321; clear BK322; clear BK327; clear BK332; clear BK337; clear HB; have HO_53 := n0_; have HO_61 := n1_; have HO_78 := n2_; have BK307 := n3_; have BK308 := n4_; have BK321 := n5_; have BK322 := n6_; have BK327 := n7_; have BK332 := n8_; have BK337 := n9_; have HB := n10_; clear n0_ n1_ n2_ n3_ n4_ n5_ n6_ n7_ n8_ n9_ n10_; (try clear hb); (try clear hb2); (try clear hk); (try clear hi)) | ((with_reducible refine gate_dst (N := 35) rfl ?_); refine box_event ?hg (N := 35) ?hd (cs := #[.int .i64 0, .int .i64 0, .int .i64 0, .int .i64 0]) (t := 23) ?hr ?_; (case hd => rfl); (case hg => rfl); (case hr => first | (go_simp; done) | (go_simp; rfl)); intro gb352 hg w129 hbox hb; have n0_ := Aside0.mk (Kd.R_below (Kd.R_elderB (by (with_reducible repeat (first | apply Kd.R_alloc | apply Kd.R_drewN | apply Kd.R_drew)); exact HO_53.out) gb352 (Nat.le_of_eq hg.symm)) hb); have n1_ := Aside0.mk (Kd.R_below (by (with_reducible repeat (first | apply Kd.R_alloc | apply Kd.R_drewN | apply Kd.R_drew)); exact HO_61.out) hb); have n2_ := Aside0.mk (Kd.R_below (by (with_reducible repeat (first | apply Kd.R_alloc | apply Kd.R_drewN | apply Kd.R_drew)); exact HO_78.out) hb); have n3_ := Aside0.mk (blk_below (g := gb307) (o := .cells #[.int .i64 a0_0, .int .i64 a0_1, .int .i64 a0_2, .int .i64 a0_3] 23 (0, 0)) (by (with_reducible repeat (first | apply blk_drewN | apply blk_drew | apply blk_alloc)); exact BK307.out) hb); have n4_ := Aside0.mk (blk_below (g := gb308) (o := .cells #[.int .i64 a1_0, .int .i64 a1_1] 27 (0, 0)) (by (with_reducible repeat (first | apply blk_drewN | apply blk_drew | apply blk_alloc)); exact BK308.out) hb); have n5_ := Aside0.mk (blk_below (g := gb321) (o := .cells #[.int .i64 t312, .int .i64 t313, .int .i64 t314, .int .i64 t315] 23 (0, 0)) (by (with_reducible repeat (first | apply blk_drewN | apply blk_drew | apply blk_alloc)); exact BK321.out) hb); have n6_ := Aside0.mk (blk_below (g := gb322) (o := .cells #[.int .i64 t316, .int .i64 t317] 27 (0, 0)) (by (with_reducible repeat (first | apply blk_drewN | apply blk_drew | apply blk_alloc)); exact BK322.out) hb); have n7_ := Aside0.mk (blk_below (g := gb327) (o := .cells #[.int .i64 ((rd_T23 y323 x55_1).f0), .int .i64 ((rd_T23 y323 x55_1).f1), .int .i64 ((rd_T23 y323 x55_1).f2), .int .i64 ((rd_T23 y323 x55_1).f3)] 23 (0, 0)) (by (with_reducible repeat (first | apply blk_drewN | apply blk_drew | apply blk_alloc)); exact BK327.out) hb); have n8_ := Aside0.mk (blk_below (g := gb332) (o := .cells #[.int .i64 ((rd_T27 y328 x63_2).f0), .int .i64 ((rd_T27 y328 x63_2).f1)] 27 (0, 0)) (by (with_reducible repeat (first | apply blk_drewN | apply blk_drew | apply blk_alloc)); exact BK332.out) hb); have n9_ := Aside0.mk (blk_below (g := gb337) (o := .cells #[.int .i64 ((rd_T44 y333 x80_3).f0), .int .i64 ((rd_T44 y333 x80_3).f1), .int .i64 ((rd_T44 y333 x80_3).f2)] 44 (0, 0)) (by (with_reducible repeat (first | apply blk_drewN | apply blk_drew | apply blk_alloc)); exact BK337.out) hb); have n10_ := Aside0.mk (below_step (by repeat (first | (with_reducible first | exact HB.out | apply below_alloc | apply pw_below_drewN | apply below_drew1 | refine below_set ?_ GE307.out | refine below_set ?_ GE308.out | refine below_set ?_ GE321.out | refine below_set ?_ GE322.out | refine below_set ?_ GE327.out | refine below_set ?_ GE332.out | refine below_set ?_ GE337.out) | exact HB.out)) hb); have n11_ := Aside0.mk (hbox); have n12_ := Aside0.mk ((by rw [hg]; exact (below_size (by repeat (first | (with_reducible first | exact HB.out | apply below_alloc | apply pw_below_drewN | apply below_drew1 | refine below_set ?_ GE307.out | refine below_set ?_ GE308.out | refine below_set ?_ GE321.out | refine below_set ?_ GE322.out | refine below_set ?_ GE327.out | refine below_set ?_ GE332.out | refine below_set ?_ GE337.out) | exact HB.out))) : w.heap.size ≤ gb352)); have n13_ := Aside0.mk ((by rw [hg]; exact (below_size (by repeat (first | (with_reducible first | exact HB.out | apply below_alloc | apply pw_below_drewN | apply below_drew1 | refine below_set ?_ GE307.out | refine below_set ?_ GE308.out | refine below_set ?_ GE321.out | refine below_set ?_ GE322.out | refine below_set ?_ GE327.out | refine below_set ?_ GE332.out | refine below_set ?_ GE337.out) | exact HB.out))) : w.heap.size ≤ gb352)); have n14_ := Aside0.mk ((by rw [hg]; exact Nat.ne_of_lt (blk_lt (g := gb307) (o := .cells #[.int .i64 a0_0, .int .i64 a0_1, .int .i64 a0_2, .int .i64 a0_3] 23 (0, 0)) (by (with_reducible repeat (first | apply blk_drewN | apply blk_drew | apply blk_alloc)); exact BK307.out)) : gb307 ≠ gb352)); have n15_ := Aside0.mk ((by rw [hg]; exact Nat.ne_of_gt (blk_lt (g := gb307) (o := .cells #[.int .i64 a0_0, .int .i64 a0_1, .int .i64 a0_2, .int .i64 a0_3] 23 (0, 0)) (by (with_reducible repeat (first | apply blk_drewN | apply blk_drew | apply blk_alloc)); exact BK307.out)) : gb352 ≠ gb307)); have n16_ := Aside0.mk ((by rw [hg]; exact Nat.ne_of_lt (blk_lt (g := gb308) (o := .cells #[.int .i64 a1_0, .int .i64 a1_1] 27 (0, 0)) (by (with_reducible repeat (first | apply blk_drewN | apply blk_drew | apply blk_alloc)); exact BK308.out)) : gb308 ≠ gb352)); have n17_ := Aside0.mk ((by rw [hg]; exact Nat.ne_of_gt (blk_lt (g := gb308) (o := .cells #[.int .i64 a1_0, .int .i64 a1_1] 27 (0, 0)) (by (with_reducible repeat (first | apply blk_drewN | apply blk_drew | apply blk_alloc)); exact BK308.out)) : gb352 ≠ gb308)); have n18_ := Aside0.mk ((by rw [hg]; exact Nat.ne_of_lt (blk_lt (g := gb321) (o := .cells #[.int .i64 t312, .int .i64 t313, .int .i64 t314, .int .i64 t315] 23 (0, 0)) (by (with_reducible repeat (first | apply blk_drewN | apply blk_drew | apply blk_alloc)); exact BK321.out)) : gb321 ≠ gb352)); have n19_ := Aside0.mk ((by rw [hg]; exact Nat.ne_of_gt (blk_lt (g := gb321) (o := .cells #[.int .i64 t312, .int .i64 t313, .int .i64 t314, .int .i64 t315] 23 (0, 0)) (by (with_reducible repeat (first | apply blk_drewN | apply blk_drew | apply blk_alloc)); exact BK321.out)) : gb352 ≠ gb321)); have n20_ := Aside0.mk ((by rw [hg]; exact Nat.ne_of_lt (blk_lt (g := gb322) (o := .cells #[.int .i64 t316, .int .i64 t317] 27 (0, 0)) (by (with_reducible repeat (first | apply blk_drewN | apply blk_drew | apply blk_alloc)); exact BK322.out)) : gb322 ≠ gb352)); have n21_ := Aside0.mk ((by rw [hg]; exact Nat.ne_of_gt (blk_lt (g := gb322) (o := .cells #[.int .i64 t316, .int .i64 t317] 27 (0, 0)) (by (with_reducible repeat (first | apply blk_drewN | apply blk_drew | apply blk_alloc)); exact BK322.out)) : gb352 ≠ gb322)); have n22_ := Aside0.mk ((by rw [hg]; exact Nat.ne_of_lt (blk_lt (g := gb327) (o := .cells #[.int .i64 ((rd_T23 y323 x55_1).f0), .int .i64 ((rd_T23 y323 x55_1).f1), .int .i64 ((rd_T23 y323 x55_1).f2), .int .i64 ((rd_T23 y323 x55_1).f3)] 23 (0, 0)) (by (with_reducible repeat (first | apply blk_drewN | apply blk_drew | apply blk_alloc)); exact BK327.out)) : gb327 ≠ gb352)); have n23_ := Aside0.mk ((by rw [hg]; exact Nat.ne_of_gt (blk_lt (g := gb327) (o := .cells #[.int .i64 ((rd_T23 y323 x55_1).f0), .int .i64 ((rd_T23 y323 x55_1).f1), .int .i64 ((rd_T23 y323 x55_1).f2), .int .i64 ((rd_T23 y323 x55_1).f3)] 23 (0, 0)) (by (with_reducible repeat (first | apply blk_drewN | apply blk_drew | apply blk_alloc)); exact BK327.out)) : gb352 ≠ gb327)); have n24_ := Aside0.mk ((by rw [hg]; exact Nat.ne_of_lt (blk_lt (g := gb332) (o := .cells #[.int .i64 ((rd_T27 y328 x63_2).f0), .int .i64 ((rd_T27 y328 x63_2).f1)] 27 (0, 0)) (by (with_reducible repeat (first | apply blk_drewN | apply blk_drew | apply blk_alloc)); exact BK332.out)) : gb332 ≠ gb352)); have n25_ := Aside0.mk ((by rw [hg]; exact Nat.ne_of_gt (blk_lt (g := gb332) (o := .cells #[.int .i64 ((rd_T27 y328 x63_2).f0), .int .i64 ((rd_T27 y328 x63_2).f1)] 27 (0, 0)) (by (with_reducible repeat (first | apply blk_drewN | apply blk_drew | apply blk_alloc)); exact BK332.out)) : gb352 ≠ gb332)); have n26_ := Aside0.mk ((by rw [hg]; exact Nat.ne_of_lt (blk_lt (g := gb337) (o := .cells #[.int .i64 ((rd_T44 y333 x80_3).f0), .int .i64 ((rd_T44 y333 x80_3).f1), .int .i64 ((rd_T44 y333 x80_3).f2)] 44 (0, 0)) (by (with_reducible repeat (first | apply blk_drewN | apply blk_drew | apply blk_alloc)); exact BK337.out)) : gb337 ≠ gb352)); have n27_ := Aside0.mk ((by rw [hg]; exact Nat.ne_of_gt (blk_lt (g := gb337) (o := .cells #[.int .i64 ((rd_T44 y333 x80_3).f0), .int .i64 ((rd_T44 y333 x80_3).f1), .int .i64 ((rd_T44 y333 x80_3).f2)] 44 (0, 0)) (by (with_reducible repeat (first | apply blk_drewN | apply blk_drew | apply blk_alloc)); exact BK337.out)) : gb352 ≠ gb337)); clear HO_53; clear HO_61; clear HO_78; clear BK307; clear BK308; clear BK321; clear BK322; clear BK327; clear BK332; clear BK337; clear HB; have HO_53 := n0_; have HO_61 := n1_; have HO_78 := n2_; have BK307 := n3_; have BK308 := n4_; have BK321 := n5_; have BK322 := n6_; have BK327 := n7_; have BK332 := n8_; have BK337 := n9_; have HB := n10_; have BK352 := n11_; have GW352 := n12_; have GE352 := n13_; have NB307_352 := n14_; have NB352_307 := n15_; have NB308_352 := n16_; have NB352_308 := n17_; have NB321_352 := n18_; have NB352_321 := n19_; have NB322_352 := n20_; have NB352_322 := n21_; have NB327_352 := n22_; have NB352_327 := n23_; have NB332_352 := n24_; have NB352_332 := n25_; have NB337_352 := n26_; have NB352_337 := n27_; clear n0_ n1_ n2_ n3_ n4_ n5_ n6_ n7_ n8_ n9_ n10_ n11_ n12_ n13_ n14_ n15_ n16_ n17_ n18_ n19_ n20_ n21_ n22_ n23_ n24_ n25_ n26_ n27_; clear hb hbox hg; have hnb130 := NB352_307.out; have hnc130 := NB307_352.out; have hnb131 := NB352_308.out; have hnc131 := NB308_352.out; have hnb132 := NB352_321.out; have hnc132 := NB321_352.out; have hnb133 := NB352_322.out; have hnc133 := NB322_352.out; have hnb134 := NB352_327.out; have hnc134 := NB327_352.out; have hnb135 := NB352_332.out; have hnc135 := NB332_352.out; have hnb136 := NB352_337.out; have hnc136 := NB337_352.out; have hcz137_0 : w129.cell? ⟨gb352, 0, none⟩ = some (.int .i64 0) := (blk_cell BK352.out 0).trans rfl; have hcz137_1 : w129.cell? ⟨gb352, 1, none⟩ = some (.int .i64 0) := (blk_cell BK352.out 1).trans rfl; have hcz137_2 : w129.cell? ⟨gb352, 2, none⟩ = some (.int .i64 0) := (blk_cell BK352.out 2).trans rfl; have hcz137_3 : w129.cell? ⟨gb352, 3, none⟩ = some (.int .i64 0) := (blk_cell BK352.out 3).trans rfl; have hfz137_0 := blk_frozen BK352.out 0; have hfz137_1 := blk_frozen BK352.out 1; have hfz137_2 := blk_frozen BK352.out 2; have hfz137_3 := blk_frozen BK352.out 3; have hcz138_0 : w129.cell? ⟨gb332, 0, none⟩ = some (.int .i64 ((rd_T27 y328 x63_2).f0)) := (blk_cell BK332.out 0).trans rfl; have hcz138_1 : w129.cell? ⟨gb332, 1, none⟩ = some (.int .i64 ((rd_T27 y328 x63_2).f1)) := (blk_cell BK332.out 1).trans rfl; have hfz138_0 := blk_frozen BK332.out 0; have hfz138_1 := blk_frozen BK332.out 1; have hcz139_0 : w129.cell? ⟨gb337, 0, none⟩ = some (.int .i64 ((rd_T44 y333 x80_3).f0)) := (blk_cell BK337.out 0).trans rfl; have hcz139_1 : w129.cell? ⟨gb337, 1, none⟩ = some (.int .i64 ((rd_T44 y333 x80_3).f1)) := (blk_cell BK337.out 1).trans rfl; have hcz139_2 : w129.cell? ⟨gb337, 2, none⟩ = some (.int .i64 ((rd_T44 y333 x80_3).f2)) := (blk_cell BK337.out 2).trans rfl; have hfz139_0 := blk_frozen BK337.out 0; have hfz139_1 := blk_frozen BK337.out 1; have hfz139_2 := blk_frozen BK337.out 2) | ((with_reducible refine gate_callee (f := 22) rfl ?_); refine goesL_ (some 166) rfl rfl Try.func22 (by kernel_rfl) rfl #[.agg #[.int .i64 ((rd_T27 y328 x63_2).f0), .int .i64 ((rd_T27 y328 x63_2).f1)], .int .i64 ((rd_T44 y333 x80_3).f0), .int .i64 ((rd_T44 y333 x80_3).f1), .int .i64 a6, .int .i64 a7] rfl (by (try simp only [List.map_toArray, List.map_cons, List.map_nil]); first | done | rfl | (simp only [List.length_drop, List.length_take]; rfl)) ?_; (with_reducible refine (soundserviceref18_Plan.calls kj73 ((rd_T27 y328 x63_2).f0) ((rd_T27 y328 x63_2).f1) ((rd_T44 y333 x80_3).f0) ((rd_T44 y333 x80_3).f1) a6 a7 t353 t354 t355 t356 t357 t358 _ A113.out).mono ?_); rintro e w140 ⟨rfl, hb⟩; refine ⟨_, rfl, ?_⟩; have n0_ := Aside0.mk (Kd.R_below (by (with_reducible repeat (first | apply Kd.R_alloc | apply Kd.R_drewN | apply Kd.R_drew)); exact (Kd.R_mono (Kd.R_far (p := ⟨gb352, 3, none⟩) (Kd.R_far (p := ⟨gb352, 2, none⟩) (Kd.R_far (p := ⟨gb352, 1, none⟩) (Kd.R_far (p := ⟨gb352, 0, none⟩) (Kd.R_mono HO_53.out (fun k_ hk => (⟨hk, hk.2⟩ : _ ∧ k_ ≠ gb352))) (fun _ hk => hk.2) (.int .i64 t346)) (fun _ hk => hk.2) (.int .i64 t347)) (fun _ hk => hk.2) (.int .i64 t348)) (fun _ hk => hk.2) (.int .i64 t349)) (fun _ h_ => h_.1))) hb); have n1_ := Aside0.mk (Kd.R_below (by (with_reducible repeat (first | apply Kd.R_alloc | apply Kd.R_drewN | apply Kd.R_drew)); exact (Kd.R_mono (Kd.R_far (p := ⟨gb352, 3, none⟩) (Kd.R_far (p := ⟨gb352, 2, none⟩) (Kd.R_far (p := ⟨gb352, 1, none⟩) (Kd.R_far (p := ⟨gb352, 0, none⟩) (Kd.R_types HO_61.out BK352.out (by decide)) (fun _ hk => hk.2) (.int .i64 t346)) (fun _ hk => hk.2) (.int .i64 t347)) (fun _ hk => hk.2) (.int .i64 t348)) (fun _ hk => hk.2) (.int .i64 t349)) (fun _ h_ => h_.1))) hb); have n2_ := Aside0.mk (Kd.R_below (by (with_reducible repeat (first | apply Kd.R_alloc | apply Kd.R_drewN | apply Kd.R_drew)); exact (Kd.R_mono (Kd.R_far (p := ⟨gb352, 3, none⟩) (Kd.R_far (p := ⟨gb352, 2, none⟩) (Kd.R_far (p := ⟨gb352, 1, none⟩) (Kd.R_far (p := ⟨gb352, 0, none⟩) (Kd.R_types HO_78.out BK352.out (by decide)) (fun _ hk => hk.2) (.int .i64 t346)) (fun _ hk => hk.2) (.int .i64 t347)) (fun _ hk => hk.2) (.int .i64 t348)) (fun _ hk => hk.2) (.int .i64 t349)) (fun _ h_ => h_.1))) hb); have n3_ := Aside0.mk (blk_below (g := gb307) (o := .cells #[.int .i64 a0_0, .int .i64 a0_1, .int .i64 a0_2, .int .i64 a0_3] 23 (0, 0)) (by (with_reducible repeat (first | apply blk_drewN | apply blk_drew | apply blk_alloc)); refine blk_far ?_ NB307_352.out _; (with_reducible repeat (first | apply blk_drewN | apply blk_drew | apply blk_alloc)); refine blk_far ?_ NB307_352.out _; (with_reducible repeat (first | apply blk_drewN | apply blk_drew | apply blk_alloc)); refine blk_far ?_ NB307_352.out _; (with_reducible repeat (first | apply blk_drewN | apply blk_drew | apply blk_alloc)); refine blk_far ?_ NB307_352.out _; (with_reducible repeat (first | apply blk_drewN | apply blk_drew | apply blk_alloc)); exact BK307.out) hb); have n4_ := Aside0.mk (blk_below (g := gb308) (o := .cells #[.int .i64 a1_0, .int .i64 a1_1] 27 (0, 0)) (by (with_reducible repeat (first | apply blk_drewN | apply blk_drew | apply blk_alloc)); refine blk_far ?_ NB308_352.out _; (with_reducible repeat (first | apply blk_drewN | apply blk_drew | apply blk_alloc)); refine blk_far ?_ NB308_352.out _; (with_reducible repeat (first | apply blk_drewN | apply blk_drew | apply blk_alloc)); refine blk_far ?_ NB308_352.out _; (with_reducible repeat (first | apply blk_drewN | apply blk_drew | apply blk_alloc)); refine blk_far ?_ NB308_352.out _; (with_reducible repeat (first | apply blk_drewN | apply blk_drew | apply blk_alloc)); exact BK308.out) hb); have n5_ := Aside0.mk (blk_below (g := gb321) (o := .cells #[.int .i64 t312, .int .i64 t313, .int .i64 t314, .int .i64 t315] 23 (0, 0)) (by (with_reducible repeat (first | apply blk_drewN | apply blk_drew | apply blk_alloc)); refine blk_far ?_ NB321_352.out _; (with_reducible repeat (first | apply blk_drewN | apply blk_drew | apply blk_alloc)); refine blk_far ?_ NB321_352.out _; (with_reducible repeat (first | apply blk_drewN | apply blk_drew | apply blk_alloc)); refine blk_far ?_ NB321_352.out _; (with_reducible repeat (first | apply blk_drewN | apply blk_drew | apply blk_alloc)); refine blk_far ?_ NB321_352.out _; (with_reducible repeat (first | apply blk_drewN | apply blk_drew | apply blk_alloc)); exact BK321.out) hb); have n6_ := Aside0.mk (blk_below (g := gb322) (o := .cells #[.int .i64 t316, .int .i64 t317] 27 (0, 0)) (by (with_reducible repeat (first | apply blk_drewN | apply blk_drew | apply blk_alloc)); refine blk_far ?_ NB322_352.out _; (with_reducible repeat (first | apply blk_drewN | apply blk_drew | apply blk_alloc)); refine blk_far ?_ NB322_352.out _; (with_reducible repeat (first | apply blk_drewN | apply blk_drew | apply blk_alloc)); refine blk_far ?_ NB322_352.out _; (with_reducible repeat (first | apply blk_drewN | apply blk_drew | apply blk_alloc)); refine blk_far ?_ NB322_352.out _; (with_reducible repeat (first | apply blk_drewN | apply blk_drew | apply blk_alloc)); exact BK322.out) hb); have n7_ := Aside0.mk (blk_below (g := gb327) (o := .cells #[.int .i64 ((rd_T23 y323 x55_1).f0), .int .i64 ((rd_T23 y323 x55_1).f1), .int .i64 ((rd_T23 y323 x55_1).f2), .int .i64 ((rd_T23 y323 x55_1).f3)] 23 (0, 0)) (by (with_reducible repeat (first | apply blk_drewN | apply blk_drew | apply blk_alloc)); refine blk_far ?_ NB327_352.out _; (with_reducible repeat (first | apply blk_drewN | apply blk_drew | apply blk_alloc)); refine blk_far ?_ NB327_352.out _; (with_reducible repeat (first | apply blk_drewN | apply blk_drew | apply blk_alloc)); refine blk_far ?_ NB327_352.out _; (with_reducible repeat (first | apply blk_drewN | apply blk_drew | apply blk_alloc)); refine blk_far ?_ NB327_352.out _; (with_reducible repeat (first | apply blk_drewN | apply blk_drew | apply blk_alloc)); exact BK327.out) hb); have n8_ := Aside0.mk (blk_below (g := gb332) (o := .cells #[.int .i64 ((rd_T27 y328 x63_2).f0), .int .i64 ((rd_T27 y328 x63_2).f1)] 27 (0, 0)) (by (with_reducible repeat (first | apply blk_drewN | apply blk_drew | apply blk_alloc)); refine blk_far ?_ NB332_352.out _; (with_reducible repeat (first | apply blk_drewN | apply blk_drew | apply blk_alloc)); refine blk_far ?_ NB332_352.out _; (with_reducible repeat (first | apply blk_drewN | apply blk_drew | apply blk_alloc)); refine blk_far ?_ NB332_352.out _; (with_reducible repeat (first | apply blk_drewN | apply blk_drew | apply blk_alloc)); refine blk_far ?_ NB332_352.out _; (with_reducible repeat (first | apply blk_drewN | apply blk_drew | apply blk_alloc)); exact BK332.out) hb); have n9_ := Aside0.mk (blk_below (g := gb337) (o := .cells #[.int .i64 ((rd_T44 y333 x80_3).f0), .int .i64 ((rd_T44 y333 x80_3).f1), .int .i64 ((rd_T44 y333 x80_3).f2)] 44 (0, 0)) (by (with_reducible repeat (first | apply blk_drewN | apply blk_drew | apply blk_alloc)); refine blk_far ?_ NB337_352.out _; (with_reducible repeat (first | apply blk_drewN | apply blk_drew | apply blk_alloc)); refine blk_far ?_ NB337_352.out _; (with_reducible repeat (first | apply blk_drewN | apply blk_drew | apply blk_alloc)); refine blk_far ?_ NB337_352.out _; (with_reducible repeat (first | apply blk_drewN | apply blk_drew | apply blk_alloc)); refine blk_far ?_ NB337_352.out _; (with_reducible repeat (first | apply blk_drewN | apply blk_drew | apply blk_alloc)); exact BK337.out) hb); have n10_ := Aside0.mk (blk_below (g := gb352) (o := .cells #[.int .i64 t346, .int .i64 t347, .int .i64 t348, .int .i64 t349] 23 (0, 0)) (by (with_reducible repeat (first | apply blk_drewN | apply blk_drew | apply blk_alloc)); refine blk_put (cs := #[.int .i64 t346, .int .i64 t347, .int .i64 t348, .int .i64 0]) ?_ 3 _ rfl; (with_reducible repeat (first | apply blk_drewN | apply blk_drew | apply blk_alloc)); refine blk_put (cs := #[.int .i64 t346, .int .i64 t347, .int .i64 0, .int .i64 0]) ?_ 2 _ rfl; (with_reducible repeat (first | apply blk_drewN | apply blk_drew | apply blk_alloc)); refine blk_put (cs := #[.int .i64 t346, .int .i64 0, .int .i64 0, .int .i64 0]) ?_ 1 _ rfl; (with_reducible repeat (first | apply blk_drewN | apply blk_drew | apply blk_alloc)); refine blk_put (cs := #[.int .i64 0, .int .i64 0, .int .i64 0, .int .i64 0]) ?_ 0 _ rfl; (with_reducible repeat (first | apply blk_drewN | apply blk_drew | apply blk_alloc)); exact BK352.out) hb); have n11_ := Aside0.mk (below_step (by repeat (first | (with_reducible first | exact HB.out | apply below_alloc | apply pw_below_drewN | apply below_drew1 | refine below_set ?_ GE307.out | refine below_set ?_ GE308.out | refine below_set ?_ GE321.out | refine below_set ?_ GE322.out | refine below_set ?_ GE327.out | refine below_set ?_ GE332.out | refine below_set ?_ GE337.out | refine below_set ?_ GE352.out) | exact HB.out)) hb); clear HO_53; clear HO_61; clear HO_78; clear BK307; clear BK308; clear BK321; clear BK322; clear BK327; clear BK332; clear BK337; clear BK352; clear HB; have HO_53 := n0_; have HO_61 := n1_; have HO_78 := n2_; have BK307 := n3_; have BK308 := n4_; have BK321 := n5_; have BK322 := n6_; have BK327 := n7_; have BK332 := n8_; have BK337 := n9_; have BK352 := n10_; have HB := n11_; clear n0_ n1_ n2_ n3_ n4_ n5_ n6_ n7_ n8_ n9_ n10_ n11_; (try clear hb); (try clear hb2); (try clear hk); (try clear hi)) | ((with_reducible refine gate_dst (N := 38) rfl ?_); refine box_event ?hg (N := 38) ?hd (cs := #[.int .i64 0, .int .i64 0, .int .i64 0, .int .i64 0]) (t := 23) ?hr ?_; (case hd => rfl); (case hg => rfl); (case hr => first | (go_simp; done) | (go_simp; rfl)); intro gb359 hg w141 hbox hb; have n0_ := Aside0.mk (Kd.R_below (Kd.R_elderB (by (with_reducible repeat (first | apply Kd.R_alloc | apply Kd.R_drewN | apply Kd.R_drew)); exact HO_53.out) gb359 (Nat.le_of_eq hg.symm)) hb); have n1_ := Aside0.mk (Kd.R_below (by (with_reducible repeat (first | apply Kd.R_alloc | apply Kd.R_drewN | apply Kd.R_drew)); exact HO_61.out) hb); have n2_ := Aside0.mk (Kd.R_below (by (with_reducible repeat (first | apply Kd.R_alloc | apply Kd.R_drewN | apply Kd.R_drew)); exact HO_78.out) hb); have n3_ := Aside0.mk (blk_below (g := gb307) (o := .cells #[.int .i64 a0_0, .int .i64 a0_1, .int .i64 a0_2, .int .i64 a0_3] 23 (0, 0)) (by (with_reducible repeat (first | apply blk_drewN | apply blk_drew | apply blk_alloc)); exact BK307.out) hb); have n4_ := Aside0.mk (blk_below (g := gb308) (o := .cells #[.int .i64 a1_0, .int .i64 a1_1] 27 (0, 0)) (by (with_reducible repeat (first | apply blk_drewN | apply blk_drew | apply blk_alloc)); exact BK308.out) hb); have n5_ := Aside0.mk (blk_below (g := gb321) (o := .cells #[.int .i64 t312, .int .i64 t313, .int .i64 t314, .int .i64 t315] 23 (0, 0)) (by (with_reducible repeat (first | apply blk_drewN | apply blk_drew | apply blk_alloc)); exact BK321.out) hb); have n6_ := Aside0.mk (blk_below (g := gb322) (o := .cells #[.int .i64 t316, .int .i64 t317] 27 (0, 0)) (by (with_reducible repeat (first | apply blk_drewN | apply blk_drew | apply blk_alloc)); exact BK322.out) hb); have n7_ := Aside0.mk (blk_below (g := gb327) (o := .cells #[.int .i64 ((rd_T23 y323 x55_1).f0), .int .i64 ((rd_T23 y323 x55_1).f1), .int .i64 ((rd_T23 y323 x55_1).f2), .int .i64 ((rd_T23 y323 x55_1).f3)] 23 (0, 0)) (by (with_reducible repeat (first | apply blk_drewN | apply blk_drew | apply blk_alloc)); exact BK327.out) hb); have n8_ := Aside0.mk (blk_below (g := gb332) (o := .cells #[.int .i64 ((rd_T27 y328 x63_2).f0), .int .i64 ((rd_T27 y328 x63_2).f1)] 27 (0, 0)) (by (with_reducible repeat (first | apply blk_drewN | apply blk_drew | apply blk_alloc)); exact BK332.out) hb); have n9_ := Aside0.mk (blk_below (g := gb337) (o := .cells #[.int .i64 ((rd_T44 y333 x80_3).f0), .int .i64 ((rd_T44 y333 x80_3).f1), .int .i64 ((rd_T44 y333 x80_3).f2)] 44 (0, 0)) (by (with_reducible repeat (first | apply blk_drewN | apply blk_drew | apply blk_alloc)); exact BK337.out) hb); have n10_ := Aside0.mk (blk_below (g := gb352) (o := .cells #[.int .i64 t346, .int .i64 t347, .int .i64 t348, .int .i64 t349] 23 (0, 0)) (by (with_reducible repeat (first | apply blk_drewN | apply blk_drew | apply blk_alloc)); exact BK352.out) hb); have n11_ := Aside0.mk (below_step (by repeat (first | (with_reducible first | exact HB.out | apply below_alloc | apply pw_below_drewN | apply below_drew1 | refine below_set ?_ GE307.out | refine below_set ?_ GE308.out | refine below_set ?_ GE321.out | refine below_set ?_ GE322.out | refine below_set ?_ GE327.out | refine below_set ?_ GE332.out | refine below_set ?_ GE337.out | refine below_set ?_ GE352.out) | exact HB.out)) hb); have n12_ := Aside0.mk (hbox); have n13_ := Aside0.mk ((by rw [hg]; exact (below_size (by repeat (first | (with_reducible first | exact HB.out | apply below_alloc | apply pw_below_drewN | apply below_drew1 | refine below_set ?_ GE307.out | refine below_set ?_ GE308.out | refine below_set ?_ GE321.out | refine below_set ?_ GE322.out | refine below_set ?_ GE327.out | refine below_set ?_ GE332.out | refine below_set ?_ GE337.out | refine below_set ?_ GE352.out) | exact HB.out))) : w.heap.size ≤ gb359)); have n14_ := Aside0.mk ((by rw [hg]; exact (below_size (by repeat (first | (with_reducible first | exact HB.out | apply below_alloc | apply pw_below_drewN | apply below_drew1 | refine below_set ?_ GE307.out | refine below_set ?_ GE308.out | refine below_set ?_ GE321.out | refine below_set ?_ GE322.out | refine below_set ?_ GE327.out | refine below_set ?_ GE332.out | refine below_set ?_ GE337.out | refine below_set ?_ GE352.out) | exact HB.out))) : w.heap.size ≤ gb359)); have n15_ := Aside0.mk ((by rw [hg]; exact Nat.ne_of_lt (blk_lt (g := gb307) (o := .cells #[.int .i64 a0_0, .int .i64 a0_1, .int .i64 a0_2, .int .i64 a0_3] 23 (0, 0)) (by (with_reducible repeat (first | apply blk_drewN | apply blk_drew | apply blk_alloc)); exact BK307.out)) : gb307 ≠ gb359)); have n16_ := Aside0.mk ((by rw [hg]; exact Nat.ne_of_gt (blk_lt (g := gb307) (o := .cells #[.int .i64 a0_0, .int .i64 a0_1, .int .i64 a0_2, .int .i64 a0_3] 23 (0, 0)) (by (with_reducible repeat (first | apply blk_drewN | apply blk_drew | apply blk_alloc)); exact BK307.out)) : gb359 ≠ gb307)); have n17_ := Aside0.mk ((by rw [hg]; exact Nat.ne_of_lt (blk_lt (g := gb308) (o := .cells #[.int .i64 a1_0, .int .i64 a1_1] 27 (0, 0)) (by (with_reducible repeat (first | apply blk_drewN | apply blk_drew | apply blk_alloc)); exact BK308.out)) : gb308 ≠ gb359)); have n18_ := Aside0.mk ((by rw [hg]; exact Nat.ne_of_gt (blk_lt (g := gb308) (o := .cells #[.int .i64 a1_0, .int .i64 a1_1] 27 (0, 0)) (by (with_reducible repeat (first | apply blk_drewN | apply blk_drew | apply blk_alloc)); exact BK308.out)) : gb359 ≠ gb308)); have n19_ := Aside0.mk ((by rw [hg]; exact Nat.ne_of_lt (blk_lt (g := gb321) (o := .cells #[.int .i64 t312, .int .i64 t313, .int .i64 t314, .int .i64 t315] 23 (0, 0)) (by (with_reducible repeat (first | apply blk_drewN | apply blk_drew | apply blk_alloc)); exact BK321.out)) : gb321 ≠ gb359)); have n20_ := Aside0.mk ((by rw [hg]; exact Nat.ne_of_gt (blk_lt (g := gb321) (o := .cells #[.int .i64 t312, .int .i64 t313, .int .i64 t314, .int .i64 t315] 23 (0, 0)) (by (with_reducible repeat (first | apply blk_drewN | apply blk_drew | apply blk_alloc)); exact BK321.out)) : gb359 ≠ gb321)); have n21_ := Aside0.mk ((by rw [hg]; exact Nat.ne_of_lt (blk_lt (g := gb322) (o := .cells #[.int .i64 t316, .int .i64 t317] 27 (0, 0)) (by (with_reducible repeat (first | apply blk_drewN | apply blk_drew | apply blk_alloc)); exact BK322.out)) : gb322 ≠ gb359)); have n22_ := Aside0.mk ((by rw [hg]; exact Nat.ne_of_gt (blk_lt (g := gb322) (o := .cells #[.int .i64 t316, .int .i64 t317] 27 (0, 0)) (by (with_reducible repeat (first | apply blk_drewN | apply blk_drew | apply blk_alloc)); exact BK322.out)) : gb359 ≠ gb322)); have n23_ := Aside0.mk ((by rw [hg]; exact Nat.ne_of_lt (blk_lt (g := gb327) (o := .cells #[.int .i64 ((rd_T23 y323 x55_1).f0), .int .i64 ((rd_T23 y323 x55_1).f1), .int .i64 ((rd_T23 y323 x55_1).f2), .int .i64 ((rd_T23 y323 x55_1).f3)] 23 (0, 0)) (by (with_reducible repeat (first | apply blk_drewN | apply blk_drew | apply blk_alloc)); exact BK327.out)) : gb327 ≠ gb359)); have n24_ := Aside0.mk ((by rw [hg]; exact Nat.ne_of_gt (blk_lt (g := gb327) (o := .cells #[.int .i64 ((rd_T23 y323 x55_1).f0), .int .i64 ((rd_T23 y323 x55_1).f1), .int .i64 ((rd_T23 y323 x55_1).f2), .int .i64 ((rd_T23 y323 x55_1).f3)] 23 (0, 0)) (by (with_reducible repeat (first | apply blk_drewN | apply blk_drew | apply blk_alloc)); exact BK327.out)) : gb359 ≠ gb327)); have n25_ := Aside0.mk ((by rw [hg]; exact Nat.ne_of_lt (blk_lt (g := gb332) (o := .cells #[.int .i64 ((rd_T27 y328 x63_2).f0), .int .i64 ((rd_T27 y328 x63_2).f1)] 27 (0, 0)) (by (with_reducible repeat (first | apply blk_drewN | apply blk_drew | apply blk_alloc)); exact BK332.out)) : gb332 ≠ gb359)); have n26_ := Aside0.mk ((by rw [hg]; exact Nat.ne_of_gt (blk_lt (g := gb332) (o := .cells #[.int .i64 ((rd_T27 y328 x63_2).f0), .int .i64 ((rd_T27 y328 x63_2).f1)] 27 (0, 0)) (by (with_reducible repeat (first | apply blk_drewN | apply blk_drew | apply blk_alloc)); exact BK332.out)) : gb359 ≠ gb332)); have n27_ := Aside0.mk ((by rw [hg]; exact Nat.ne_of_lt (blk_lt (g := gb337) (o := .cells #[.int .i64 ((rd_T44 y333 x80_3).f0), .int .i64 ((rd_T44 y333 x80_3).f1), .int .i64 ((rd_T44 y333 x80_3).f2)] 44 (0, 0)) (by (with_reducible repeat (first | apply blk_drewN | apply blk_drew | apply blk_alloc)); exact BK337.out)) : gb337 ≠ gb359)); have n28_ := Aside0.mk ((by rw [hg]; exact Nat.ne_of_gt (blk_lt (g := gb337) (o := .cells #[.int .i64 ((rd_T44 y333 x80_3).f0), .int .i64 ((rd_T44 y333 x80_3).f1), .int .i64 ((rd_T44 y333 x80_3).f2)] 44 (0, 0)) (by (with_reducible repeat (first | apply blk_drewN | apply blk_drew | apply blk_alloc)); exact BK337.out)) : gb359 ≠ gb337)); have n29_ := Aside0.mk ((by rw [hg]; exact Nat.ne_of_lt (blk_lt (g := gb352) (o := .cells #[.int .i64 t346, .int .i64 t347, .int .i64 t348, .int .i64 t349] 23 (0, 0)) (by (with_reducible repeat (first | apply blk_drewN | apply blk_drew | apply blk_alloc)); exact BK352.out)) : gb352 ≠ gb359)); have n30_ := Aside0.mk ((by rw [hg]; exact Nat.ne_of_gt (blk_lt (g := gb352) (o := .cells #[.int .i64 t346, .int .i64 t347, .int .i64 t348, .int .i64 t349] 23 (0, 0)) (by (with_reducible repeat (first | apply blk_drewN | apply blk_drew | apply blk_alloc)); exact BK352.out)) : gb359 ≠ gb352)); clear HO_53; clear HO_61; clear HO_78; clear BK307; clear BK308; clear BK321; clear BK322; clear BK327; clear BK332; clear BK337; clear BK352; clear HB; have HO_53 := n0_; have HO_61 := n1_; have HO_78 := n2_; have BK307 := n3_; have BK308 := n4_; have BK321 := n5_; have BK322 := n6_; have BK327 := n7_; have BK332 := n8_; have BK337 := n9_; have BK352 := n10_; have HB := n11_; have BK359 := n12_; have GW359 := n13_; have GE359 := n14_; have NB307_359 := n15_; have NB359_307 := n16_; have NB308_359 := n17_; have NB359_308 := n18_; have NB321_359 := n19_; have NB359_321 := n20_; have NB322_359 := n21_; have NB359_322 := n22_; have NB327_359 := n23_; have NB359_327 := n24_; have NB332_359 := n25_; have NB359_332 := n26_; have NB337_359 := n27_; have NB359_337 := n28_; have NB352_359 := n29_; have NB359_352 := n30_; clear n0_ n1_ n2_ n3_ n4_ n5_ n6_ n7_ n8_ n9_ n10_ n11_ n12_ n13_ n14_ n15_ n16_ n17_ n18_ n19_ n20_ n21_ n22_ n23_ n24_ n25_ n26_ n27_ n28_ n29_ n30_; clear hb hbox hg; have hnb142 := NB359_307.out; have hnc142 := NB307_359.out; have hnb143 := NB359_308.out; have hnc143 := NB308_359.out; have hnb144 := NB359_321.out; have hnc144 := NB321_359.out; have hnb145 := NB359_322.out; have hnc145 := NB322_359.out; have hnb146 := NB359_327.out; have hnc146 := NB327_359.out; have hnb147 := NB359_332.out; have hnc147 := NB332_359.out; have hnb148 := NB359_337.out; have hnc148 := NB337_359.out; have hnb149 := NB359_352.out; have hnc149 := NB352_359.out; have hcz150_0 : w141.cell? ⟨gb359, 0, none⟩ = some (.int .i64 0) := (blk_cell BK359.out 0).trans rfl; have hcz150_1 : w141.cell? ⟨gb359, 1, none⟩ = some (.int .i64 0) := (blk_cell BK359.out 1).trans rfl; have hcz150_2 : w141.cell? ⟨gb359, 2, none⟩ = some (.int .i64 0) := (blk_cell BK359.out 2).trans rfl; have hcz150_3 : w141.cell? ⟨gb359, 3, none⟩ = some (.int .i64 0) := (blk_cell BK359.out 3).trans rfl; have hfz150_0 := blk_frozen BK359.out 0; have hfz150_1 := blk_frozen BK359.out 1; have hfz150_2 := blk_frozen BK359.out 2; have hfz150_3 := blk_frozen BK359.out 3))
                    (try simp only [Act.put, List.setIfInBounds_toArray, List.set_cons_zero, List.set_cons_succ])
                    go_cut [182] (fun v182 wc => ∃ (kq : Nat) (x182_113 : Bool), v182 = .bool x182_113 ∧ Aside0 (soundservicelaw18_ControlBounds.j6 kq a3 a4 a5 a6 a7 t318 t319 y323 (y323.length : Int) x55_1 y328 (y328.length : Int) x63_2 y333 (y333.length : Int) x80_3 x182_113 a1_0 a1_1 t316 t317 ((rd_T23 y323 x55_1).f0) ((rd_T23 y323 x55_1).f1) ((rd_T23 y323 x55_1).f2) ((rd_T23 y323 x55_1).f3) ((rd_T27 y328 x63_2).f0) ((rd_T27 y328 x63_2).f1) = some r) ∧ Aside0 (kq ≤ kj73) ∧ Aside0 (Kd.R k23 23 wc w.heap.size (fun k_ => k_ ≠ gb307 ∧ k_ ≠ gb321 ∧ k_ ≠ gb327 ∧ k_ ≠ gb352 ∧ k_ ≠ gb359) (.slice (some ad326) y323.length co34) y323) ∧ Aside0 (Kd.R k27 27 wc w.heap.size (fun k_ => k_ ≠ gb308 ∧ k_ ≠ gb322 ∧ k_ ≠ gb332) (.slice (some ad331) y328.length co53) y328) ∧ Aside0 (Kd.R k44 44 wc w.heap.size (fun k_ => k_ ≠ gb337) (.slice (some ad336) y333.length co66) y333) ∧ Aside0 (wc.heap[gb307]? = some (.cells #[.int .i64 a0_0, .int .i64 a0_1, .int .i64 a0_2, .int .i64 a0_3] 23 (0, 0))) ∧ Aside0 (wc.heap[gb308]? = some (.cells #[.int .i64 a1_0, .int .i64 a1_1] 27 (0, 0))) ∧ Aside0 (wc.heap[gb321]? = some (.cells #[.int .i64 t312, .int .i64 t313, .int .i64 t314, .int .i64 t315] 23 (0, 0))) ∧ Aside0 (wc.heap[gb322]? = some (.cells #[.int .i64 t316, .int .i64 t317] 27 (0, 0))) ∧ Aside0 (wc.heap[gb327]? = some (.cells #[.int .i64 ((rd_T23 y323 x55_1).f0), .int .i64 ((rd_T23 y323 x55_1).f1), .int .i64 ((rd_T23 y323 x55_1).f2), .int .i64 ((rd_T23 y323 x55_1).f3)] 23 (0, 0))) ∧ Aside0 (wc.heap[gb332]? = some (.cells #[.int .i64 ((rd_T27 y328 x63_2).f0), .int .i64 ((rd_T27 y328 x63_2).f1)] 27 (0, 0))) ∧ Aside0 (wc.heap[gb337]? = some (.cells #[.int .i64 ((rd_T44 y333 x80_3).f0), .int .i64 ((rd_T44 y333 x80_3).f1), .int .i64 ((rd_T44 y333 x80_3).f2)] 44 (0, 0))) ∧ Aside0 (wc.heap[gb352]? = some (.cells #[.int .i64 t346, .int .i64 t347, .int .i64 t348, .int .i64 t349] 23 (0, 0))) ∧ Aside0 (wc.heap[gb359]? = some (.cells #[.int .i64 t353, .int .i64 t354, .int .i64 t355, .int .i64 t356] 23 (0, 0))) ∧ Aside0 (Below w.heap.size w wc))
                    case first =>
                     have H := HC114.out
                     clear HC114
                     have HC151 := Aside0.mk H
                     clear H
                     go_upto_region 21 with (fail)
                     go_cut [182] (fun v182 wc => ∃ (kq : Nat) (x182_150 : Bool), v182 = .bool x182_150 ∧ Aside0 (soundservicelaw18_ControlBounds.j5 kq a3 a4 a5 a6 a7 t318 t319 y323 (y323.length : Int) x55_1 y328 (y328.length : Int) x63_2 y333 (y333.length : Int) x80_3 x182_150 a1_0 a1_1 t316 t317 ((rd_T23 y323 x55_1).f0) ((rd_T23 y323 x55_1).f1) ((rd_T23 y323 x55_1).f2) ((rd_T23 y323 x55_1).f3) ((rd_T27 y328 x63_2).f0) ((rd_T27 y328 x63_2).f1) = some r) ∧ Aside0 (kq ≤ kj73) ∧ Aside0 (Kd.R k23 23 wc w.heap.size (fun k_ => k_ ≠ gb307 ∧ k_ ≠ gb321 ∧ k_ ≠ gb327 ∧ k_ ≠ gb352 ∧ k_ ≠ gb359) (.slice (some ad326) y323.length co34) y323) ∧ Aside0 (Kd.R k27 27 wc w.heap.size (fun k_ => k_ ≠ gb308 ∧ k_ ≠ gb322 ∧ k_ ≠ gb332) (.slice (some ad331) y328.length co53) y328) ∧ Aside0 (Kd.R k44 44 wc w.heap.size (fun k_ => k_ ≠ gb337) (.slice (some ad336) y333.length co66) y333) ∧ Aside0 (wc.heap[gb307]? = some (.cells #[.int .i64 a0_0, .int .i64 a0_1, .int .i64 a0_2, .int .i64 a0_3] 23 (0, 0))) ∧ Aside0 (wc.heap[gb308]? = some (.cells #[.int .i64 a1_0, .int .i64 a1_1] 27 (0, 0))) ∧ Aside0 (wc.heap[gb321]? = some (.cells #[.int .i64 t312, .int .i64 t313, .int .i64 t314, .int .i64 t315] 23 (0, 0))) ∧ Aside0 (wc.heap[gb322]? = some (.cells #[.int .i64 t316, .int .i64 t317] 27 (0, 0))) ∧ Aside0 (wc.heap[gb327]? = some (.cells #[.int .i64 ((rd_T23 y323 x55_1).f0), .int .i64 ((rd_T23 y323 x55_1).f1), .int .i64 ((rd_T23 y323 x55_1).f2), .int .i64 ((rd_T23 y323 x55_1).f3)] 23 (0, 0))) ∧ Aside0 (wc.heap[gb332]? = some (.cells #[.int .i64 ((rd_T27 y328 x63_2).f0), .int .i64 ((rd_T27 y328 x63_2).f1)] 27 (0, 0))) ∧ Aside0 (wc.heap[gb337]? = some (.cells #[.int .i64 ((rd_T44 y333 x80_3).f0), .int .i64 ((rd_T44 y333 x80_3).f1), .int .i64 ((rd_T44 y333 x80_3).f2)] 44 (0, 0))) ∧ Aside0 (wc.heap[gb352]? = some (.cells #[.int .i64 t346, .int .i64 t347, .int .i64 t348, .int .i64 t349] 23 (0, 0))) ∧ Aside0 (wc.heap[gb359]? = some (.cells #[.int .i64 t353, .int .i64 t354, .int .i64 t355, .int .i64 t356] 23 (0, 0))) ∧ Aside0 (Below w.heap.size w wc))
                     case first =>
                      have H := HC151.out
                      clear HC151
                      by_cases c152 : (!(t346 == t353) || (!(t347 == t354) || (!(t348 == t355) || (!(t349 == t356))))) = true
                      ·rw [if_pos c152] at H
                       have c152b0 : (!(t346 == t353) || (!(t347 == t354) || (!(t348 == t355) || (!(t349 == t356))))) = true := c152
                       clear c152
                       (first | rw [c152b0] | (simp only [i64_w, i32_w]; rw [c152b0]) | skip)
                       have H' := Aside0.mk H
                       clear H
                       have hnb153 := NB352_307.out
                       have hnc153 := NB307_352.out
                       have hnb154 := NB352_308.out
                       have hnc154 := NB308_352.out
                       have hnb155 := NB352_321.out
                       have hnc155 := NB321_352.out
                       have hnb156 := NB352_322.out
                       have hnc156 := NB322_352.out
                       have hnb157 := NB352_327.out
                       have hnc157 := NB327_352.out
                       have hnb158 := NB352_332.out
                       have hnc158 := NB332_352.out
                       have hnb159 := NB352_337.out
                       have hnc159 := NB337_352.out
                       have hnb160 := NB352_359.out
                       have hnc160 := NB359_352.out
                       have hcz161_0 : w141.cell? ⟨gb352, 0, none⟩ = some (.int .i64 t346) := (blk_cell BK352.out 0).trans rfl
                       have hcz161_1 : w141.cell? ⟨gb352, 1, none⟩ = some (.int .i64 t347) := (blk_cell BK352.out 1).trans rfl
                       have hcz161_2 : w141.cell? ⟨gb352, 2, none⟩ = some (.int .i64 t348) := (blk_cell BK352.out 2).trans rfl
                       have hcz161_3 : w141.cell? ⟨gb352, 3, none⟩ = some (.int .i64 t349) := (blk_cell BK352.out 3).trans rfl
                       have hfz161_0 := blk_frozen BK352.out 0
                       have hfz161_1 := blk_frozen BK352.out 1
                       have hfz161_2 := blk_frozen BK352.out 2
                       have hfz161_3 := blk_frozen BK352.out 3
                       have hnb162 := NB359_307.out
                       have hnc162 := NB307_359.out
                       have hnb163 := NB359_308.out
                       have hnc163 := NB308_359.out
                       have hnb164 := NB359_321.out
                       have hnc164 := NB321_359.out
                       have hnb165 := NB359_322.out
                       have hnc165 := NB322_359.out
                       have hnb166 := NB359_327.out
                       have hnc166 := NB327_359.out
                       have hnb167 := NB359_332.out
                       have hnc167 := NB332_359.out
                       have hnb168 := NB359_337.out
                       have hnc168 := NB337_359.out
                       have hcz169_0 : w141.cell? ⟨gb359, 0, none⟩ = some (.int .i64 0) := (blk_cell BK359.out 0).trans rfl
                       have hcz169_1 : w141.cell? ⟨gb359, 1, none⟩ = some (.int .i64 0) := (blk_cell BK359.out 1).trans rfl
                       have hcz169_2 : w141.cell? ⟨gb359, 2, none⟩ = some (.int .i64 0) := (blk_cell BK359.out 2).trans rfl
                       have hcz169_3 : w141.cell? ⟨gb359, 3, none⟩ = some (.int .i64 0) := (blk_cell BK359.out 3).trans rfl
                       have hfz169_0 := blk_frozen BK359.out 0
                       have hfz169_1 := blk_frozen BK359.out 1
                       have hfz169_2 := blk_frozen BK359.out 2
                       have hfz169_3 := blk_frozen BK359.out 3
                       go_wp2
                       go_meet
                       case rel => exact ⟨_, (true), (by first | rfl | (simp; done) | (simp [*]; done)), H', ⟨by have := HK1.out; have := HK2.out; have := HK3.out; have := HJ73.out; first | omega | exact Nat.le_refl _⟩, ⟨by (with_reducible repeat (first | apply Kd.R_alloc | apply Kd.R_drewN | apply Kd.R_drew)); exact Kd.R_mono (Kd.R_far (p := ⟨gb359, 3, none⟩) (Kd.R_far (p := ⟨gb359, 2, none⟩) (Kd.R_far (p := ⟨gb359, 1, none⟩) (Kd.R_far (p := ⟨gb359, 0, none⟩) (Kd.R_mono HO_53.out (fun k_ hk => (⟨hk, hk.2⟩ : _ ∧ k_ ≠ gb359))) (fun _ hk => hk.2) (.int .i64 t353)) (fun _ hk => hk.2) (.int .i64 t354)) (fun _ hk => hk.2) (.int .i64 t355)) (fun _ hk => hk.2) (.int .i64 t356)) (fun _ hk => ⟨hk.1.1.1.1, ⟨hk.1.1.1.2.1, ⟨hk.1.1.1.2.2, ⟨hk.1.1.2, hk.1.2⟩⟩⟩⟩)⟩, ⟨by (with_reducible repeat (first | apply Kd.R_alloc | apply Kd.R_drewN | apply Kd.R_drew)); exact Kd.R_mono (Kd.R_far (p := ⟨gb359, 3, none⟩) (Kd.R_far (p := ⟨gb359, 2, none⟩) (Kd.R_far (p := ⟨gb359, 1, none⟩) (Kd.R_far (p := ⟨gb359, 0, none⟩) (Kd.R_types HO_61.out BK359.out (by decide)) (fun _ hk => hk.2) (.int .i64 t353)) (fun _ hk => hk.2) (.int .i64 t354)) (fun _ hk => hk.2) (.int .i64 t355)) (fun _ hk => hk.2) (.int .i64 t356)) (fun _ hk => ⟨hk.1.1, ⟨hk.1.2.1, hk.1.2.2⟩⟩)⟩, ⟨by (with_reducible repeat (first | apply Kd.R_alloc | apply Kd.R_drewN | apply Kd.R_drew)); exact Kd.R_mono (Kd.R_far (p := ⟨gb359, 3, none⟩) (Kd.R_far (p := ⟨gb359, 2, none⟩) (Kd.R_far (p := ⟨gb359, 1, none⟩) (Kd.R_far (p := ⟨gb359, 0, none⟩) (Kd.R_types HO_78.out BK359.out (by decide)) (fun _ hk => hk.2) (.int .i64 t353)) (fun _ hk => hk.2) (.int .i64 t354)) (fun _ hk => hk.2) (.int .i64 t355)) (fun _ hk => hk.2) (.int .i64 t356)) (fun _ hk => hk.1)⟩, ⟨by (with_reducible repeat (first | apply blk_drewN | apply blk_drew | apply blk_alloc)); refine blk_far ?_ NB307_359.out _; (with_reducible repeat (first | apply blk_drewN | apply blk_drew | apply blk_alloc)); refine blk_far ?_ NB307_359.out _; (with_reducible repeat (first | apply blk_drewN | apply blk_drew | apply blk_alloc)); refine blk_far ?_ NB307_359.out _; (with_reducible repeat (first | apply blk_drewN | apply blk_drew | apply blk_alloc)); refine blk_far ?_ NB307_359.out _; (with_reducible repeat (first | apply blk_drewN | apply blk_drew | apply blk_alloc)); exact BK307.out⟩, ⟨by (with_reducible repeat (first | apply blk_drewN | apply blk_drew | apply blk_alloc)); refine blk_far ?_ NB308_359.out _; (with_reducible repeat (first | apply blk_drewN | apply blk_drew | apply blk_alloc)); refine blk_far ?_ NB308_359.out _; (with_reducible repeat (first | apply blk_drewN | apply blk_drew | apply blk_alloc)); refine blk_far ?_ NB308_359.out _; (with_reducible repeat (first | apply blk_drewN | apply blk_drew | apply blk_alloc)); refine blk_far ?_ NB308_359.out _; (with_reducible repeat (first | apply blk_drewN | apply blk_drew | apply blk_alloc)); exact BK308.out⟩, ⟨by (with_reducible repeat (first | apply blk_drewN | apply blk_drew | apply blk_alloc)); refine blk_far ?_ NB321_359.out _; (with_reducible repeat (first | apply blk_drewN | apply blk_drew | apply blk_alloc)); refine blk_far ?_ NB321_359.out _; (with_reducible repeat (first | apply blk_drewN | apply blk_drew | apply blk_alloc)); refine blk_far ?_ NB321_359.out _; (with_reducible repeat (first | apply blk_drewN | apply blk_drew | apply blk_alloc)); refine blk_far ?_ NB321_359.out _; (with_reducible repeat (first | apply blk_drewN | apply blk_drew | apply blk_alloc)); exact BK321.out⟩, ⟨by (with_reducible repeat (first | apply blk_drewN | apply blk_drew | apply blk_alloc)); refine blk_far ?_ NB322_359.out _; (with_reducible repeat (first | apply blk_drewN | apply blk_drew | apply blk_alloc)); refine blk_far ?_ NB322_359.out _; (with_reducible repeat (first | apply blk_drewN | apply blk_drew | apply blk_alloc)); refine blk_far ?_ NB322_359.out _; (with_reducible repeat (first | apply blk_drewN | apply blk_drew | apply blk_alloc)); refine blk_far ?_ NB322_359.out _; (with_reducible repeat (first | apply blk_drewN | apply blk_drew | apply blk_alloc)); exact BK322.out⟩, ⟨by (with_reducible repeat (first | apply blk_drewN | apply blk_drew | apply blk_alloc)); refine blk_far ?_ NB327_359.out _; (with_reducible repeat (first | apply blk_drewN | apply blk_drew | apply blk_alloc)); refine blk_far ?_ NB327_359.out _; (with_reducible repeat (first | apply blk_drewN | apply blk_drew | apply blk_alloc)); refine blk_far ?_ NB327_359.out _; (with_reducible repeat (first | apply blk_drewN | apply blk_drew | apply blk_alloc)); refine blk_far ?_ NB327_359.out _; (with_reducible repeat (first | apply blk_drewN | apply blk_drew | apply blk_alloc)); exact BK327.out⟩, ⟨by (with_reducible repeat (first | apply blk_drewN | apply blk_drew | apply blk_alloc)); refine blk_far ?_ NB332_359.out _; (with_reducible repeat (first | apply blk_drewN | apply blk_drew | apply blk_alloc)); refine blk_far ?_ NB332_359.out _; (with_reducible repeat (first | apply blk_drewN | apply blk_drew | apply blk_alloc)); refine blk_far ?_ NB332_359.out _; (with_reducible repeat (first | apply blk_drewN | apply blk_drew | apply blk_alloc)); refine blk_far ?_ NB332_359.out _; (with_reducible repeat (first | apply blk_drewN | apply blk_drew | apply blk_alloc)); exact BK332.out⟩, ⟨by (with_reducible repeat (first | apply blk_drewN | apply blk_drew | apply blk_alloc)); refine blk_far ?_ NB337_359.out _; (with_reducible repeat (first | apply blk_drewN | apply blk_drew | apply blk_alloc)); refine blk_far ?_ NB337_359.out _; (with_reducible repeat (first | apply blk_drewN | apply blk_drew | apply blk_alloc)); refine blk_far ?_ NB337_359.out _; (with_reducible repeat (first | apply blk_drewN | apply blk_drew | apply blk_alloc)); refine blk_far ?_ NB337_359.out _; (with_reducible repeat (first | apply blk_drewN | apply blk_drew | apply blk_alloc)); exact BK337.out⟩, ⟨by (with_reducible repeat (first | apply blk_drewN | apply blk_drew | apply blk_alloc)); refine blk_far ?_ NB352_359.out _; (with_reducible repeat (first | apply blk_drewN | apply blk_drew | apply blk_alloc)); refine blk_far ?_ NB352_359.out _; (with_reducible repeat (first | apply blk_drewN | apply blk_drew | apply blk_alloc)); refine blk_far ?_ NB352_359.out _; (with_reducible repeat (first | apply blk_drewN | apply blk_drew | apply blk_alloc)); refine blk_far ?_ NB352_359.out _; (with_reducible repeat (first | apply blk_drewN | apply blk_drew | apply blk_alloc)); exact BK352.out⟩, ⟨by (with_reducible repeat (first | apply blk_drewN | apply blk_drew | apply blk_alloc)); refine blk_put (cs := #[.int .i64 t353, .int .i64 t354, .int .i64 t355, .int .i64 0]) ?_ 3 _ rfl; (with_reducible repeat (first | apply blk_drewN | apply blk_drew | apply blk_alloc)); refine blk_put (cs := #[.int .i64 t353, .int .i64 t354, .int .i64 0, .int .i64 0]) ?_ 2 _ rfl; (with_reducible repeat (first | apply blk_drewN | apply blk_drew | apply blk_alloc)); refine blk_put (cs := #[.int .i64 t353, .int .i64 0, .int .i64 0, .int .i64 0]) ?_ 1 _ rfl; (with_reducible repeat (first | apply blk_drewN | apply blk_drew | apply blk_alloc)); refine blk_put (cs := #[.int .i64 0, .int .i64 0, .int .i64 0, .int .i64 0]) ?_ 0 _ rfl; (with_reducible repeat (first | apply blk_drewN | apply blk_drew | apply blk_alloc)); exact BK359.out⟩, ⟨by repeat (first | (with_reducible first | exact HB.out | apply below_alloc | apply pw_below_drewN | apply below_drew1 | refine below_set ?_ GE307.out | refine below_set ?_ GE308.out | refine below_set ?_ GE321.out | refine below_set ?_ GE322.out | refine below_set ?_ GE327.out | refine below_set ?_ GE332.out | refine below_set ?_ GE337.out | refine below_set ?_ GE352.out | refine below_set ?_ GE359.out) | exact HB.out)⟩⟩
                      ·rw [if_neg c152] at H
                       have c152b0 : (!(t346 == t353) || (!(t347 == t354) || (!(t348 == t355) || (!(t349 == t356))))) = false := by simpa using c152
                       clear c152
                       (first | rw [c152b0] | (simp only [i64_w, i32_w]; rw [c152b0]) | skip)
                       by_cases c170 : t350 = t357
                       ·rw [if_pos c170] at H
                        have c170b0 : (t350 == t357) = true := beq_iff_eq.mpr c170
                        have c170b1 : (t350 != t357) = false := bne_eq_false_iff_eq.mpr c170
                        clear c170
                        have H' := Aside0.mk H
                        clear H
                        have hnb171 := NB352_307.out
                        have hnc171 := NB307_352.out
                        have hnb172 := NB352_308.out
                        have hnc172 := NB308_352.out
                        have hnb173 := NB352_321.out
                        have hnc173 := NB321_352.out
                        have hnb174 := NB352_322.out
                        have hnc174 := NB322_352.out
                        have hnb175 := NB352_327.out
                        have hnc175 := NB327_352.out
                        have hnb176 := NB352_332.out
                        have hnc176 := NB332_352.out
                        have hnb177 := NB352_337.out
                        have hnc177 := NB337_352.out
                        have hnb178 := NB352_359.out
                        have hnc178 := NB359_352.out
                        have hcz179_0 : w141.cell? ⟨gb352, 0, none⟩ = some (.int .i64 t346) := (blk_cell BK352.out 0).trans rfl
                        have hcz179_1 : w141.cell? ⟨gb352, 1, none⟩ = some (.int .i64 t347) := (blk_cell BK352.out 1).trans rfl
                        have hcz179_2 : w141.cell? ⟨gb352, 2, none⟩ = some (.int .i64 t348) := (blk_cell BK352.out 2).trans rfl
                        have hcz179_3 : w141.cell? ⟨gb352, 3, none⟩ = some (.int .i64 t349) := (blk_cell BK352.out 3).trans rfl
                        have hfz179_0 := blk_frozen BK352.out 0
                        have hfz179_1 := blk_frozen BK352.out 1
                        have hfz179_2 := blk_frozen BK352.out 2
                        have hfz179_3 := blk_frozen BK352.out 3
                        have hnb180 := NB359_307.out
                        have hnc180 := NB307_359.out
                        have hnb181 := NB359_308.out
                        have hnc181 := NB308_359.out
                        have hnb182 := NB359_321.out
                        have hnc182 := NB321_359.out
                        have hnb183 := NB359_322.out
                        have hnc183 := NB322_359.out
                        have hnb184 := NB359_327.out
                        have hnc184 := NB327_359.out
                        have hnb185 := NB359_332.out
                        have hnc185 := NB332_359.out
                        have hnb186 := NB359_337.out
                        have hnc186 := NB337_359.out
                        have hcz187_0 : w141.cell? ⟨gb359, 0, none⟩ = some (.int .i64 0) := (blk_cell BK359.out 0).trans rfl
                        have hcz187_1 : w141.cell? ⟨gb359, 1, none⟩ = some (.int .i64 0) := (blk_cell BK359.out 1).trans rfl
                        have hcz187_2 : w141.cell? ⟨gb359, 2, none⟩ = some (.int .i64 0) := (blk_cell BK359.out 2).trans rfl
                        have hcz187_3 : w141.cell? ⟨gb359, 3, none⟩ = some (.int .i64 0) := (blk_cell BK359.out 3).trans rfl
                        have hfz187_0 := blk_frozen BK359.out 0
                        have hfz187_1 := blk_frozen BK359.out 1
                        have hfz187_2 := blk_frozen BK359.out 2
                        have hfz187_3 := blk_frozen BK359.out 3
                        go_wp2
                        go_meet
                        case rel => exact ⟨_, ((t351 != t358)), (by first | rfl | (simp; done) | (simp [*]; done)), H', ⟨by have := HK1.out; have := HK2.out; have := HK3.out; have := HJ73.out; first | omega | exact Nat.le_refl _⟩, ⟨by (with_reducible repeat (first | apply Kd.R_alloc | apply Kd.R_drewN | apply Kd.R_drew)); exact Kd.R_mono (Kd.R_far (p := ⟨gb359, 3, none⟩) (Kd.R_far (p := ⟨gb359, 2, none⟩) (Kd.R_far (p := ⟨gb359, 1, none⟩) (Kd.R_far (p := ⟨gb359, 0, none⟩) (Kd.R_mono HO_53.out (fun k_ hk => (⟨hk, hk.2⟩ : _ ∧ k_ ≠ gb359))) (fun _ hk => hk.2) (.int .i64 t353)) (fun _ hk => hk.2) (.int .i64 t354)) (fun _ hk => hk.2) (.int .i64 t355)) (fun _ hk => hk.2) (.int .i64 t356)) (fun _ hk => ⟨hk.1.1.1.1, ⟨hk.1.1.1.2.1, ⟨hk.1.1.1.2.2, ⟨hk.1.1.2, hk.1.2⟩⟩⟩⟩)⟩, ⟨by (with_reducible repeat (first | apply Kd.R_alloc | apply Kd.R_drewN | apply Kd.R_drew)); exact Kd.R_mono (Kd.R_far (p := ⟨gb359, 3, none⟩) (Kd.R_far (p := ⟨gb359, 2, none⟩) (Kd.R_far (p := ⟨gb359, 1, none⟩) (Kd.R_far (p := ⟨gb359, 0, none⟩) (Kd.R_types HO_61.out BK359.out (by decide)) (fun _ hk => hk.2) (.int .i64 t353)) (fun _ hk => hk.2) (.int .i64 t354)) (fun _ hk => hk.2) (.int .i64 t355)) (fun _ hk => hk.2) (.int .i64 t356)) (fun _ hk => ⟨hk.1.1, ⟨hk.1.2.1, hk.1.2.2⟩⟩)⟩, ⟨by (with_reducible repeat (first | apply Kd.R_alloc | apply Kd.R_drewN | apply Kd.R_drew)); exact Kd.R_mono (Kd.R_far (p := ⟨gb359, 3, none⟩) (Kd.R_far (p := ⟨gb359, 2, none⟩) (Kd.R_far (p := ⟨gb359, 1, none⟩) (Kd.R_far (p := ⟨gb359, 0, none⟩) (Kd.R_types HO_78.out BK359.out (by decide)) (fun _ hk => hk.2) (.int .i64 t353)) (fun _ hk => hk.2) (.int .i64 t354)) (fun _ hk => hk.2) (.int .i64 t355)) (fun _ hk => hk.2) (.int .i64 t356)) (fun _ hk => hk.1)⟩, ⟨by (with_reducible repeat (first | apply blk_drewN | apply blk_drew | apply blk_alloc)); refine blk_far ?_ NB307_359.out _; (with_reducible repeat (first | apply blk_drewN | apply blk_drew | apply blk_alloc)); refine blk_far ?_ NB307_359.out _; (with_reducible repeat (first | apply blk_drewN | apply blk_drew | apply blk_alloc)); refine blk_far ?_ NB307_359.out _; (with_reducible repeat (first | apply blk_drewN | apply blk_drew | apply blk_alloc)); refine blk_far ?_ NB307_359.out _; (with_reducible repeat (first | apply blk_drewN | apply blk_drew | apply blk_alloc)); exact BK307.out⟩, ⟨by (with_reducible repeat (first | apply blk_drewN | apply blk_drew | apply blk_alloc)); refine blk_far ?_ NB308_359.out _; (with_reducible repeat (first | apply blk_drewN | apply blk_drew | apply blk_alloc)); refine blk_far ?_ NB308_359.out _; (with_reducible repeat (first | apply blk_drewN | apply blk_drew | apply blk_alloc)); refine blk_far ?_ NB308_359.out _; (with_reducible repeat (first | apply blk_drewN | apply blk_drew | apply blk_alloc)); refine blk_far ?_ NB308_359.out _; (with_reducible repeat (first | apply blk_drewN | apply blk_drew | apply blk_alloc)); exact BK308.out⟩, ⟨by (with_reducible repeat (first | apply blk_drewN | apply blk_drew | apply blk_alloc)); refine blk_far ?_ NB321_359.out _; (with_reducible repeat (first | apply blk_drewN | apply blk_drew | apply blk_alloc)); refine blk_far ?_ NB321_359.out _; (with_reducible repeat (first | apply blk_drewN | apply blk_drew | apply blk_alloc)); refine blk_far ?_ NB321_359.out _; (with_reducible repeat (first | apply blk_drewN | apply blk_drew | apply blk_alloc)); refine blk_far ?_ NB321_359.out _; (with_reducible repeat (first | apply blk_drewN | apply blk_drew | apply blk_alloc)); exact BK321.out⟩, ⟨by (with_reducible repeat (first | apply blk_drewN | apply blk_drew | apply blk_alloc)); refine blk_far ?_ NB322_359.out _; (with_reducible repeat (first | apply blk_drewN | apply blk_drew | apply blk_alloc)); refine blk_far ?_ NB322_359.out _; (with_reducible repeat (first | apply blk_drewN | apply blk_drew | apply blk_alloc)); refine blk_far ?_ NB322_359.out _; (with_reducible repeat (first | apply blk_drewN | apply blk_drew | apply blk_alloc)); refine blk_far ?_ NB322_359.out _; (with_reducible repeat (first | apply blk_drewN | apply blk_drew | apply blk_alloc)); exact BK322.out⟩, ⟨by (with_reducible repeat (first | apply blk_drewN | apply blk_drew | apply blk_alloc)); refine blk_far ?_ NB327_359.out _; (with_reducible repeat (first | apply blk_drewN | apply blk_drew | apply blk_alloc)); refine blk_far ?_ NB327_359.out _; (with_reducible repeat (first | apply blk_drewN | apply blk_drew | apply blk_alloc)); refine blk_far ?_ NB327_359.out _; (with_reducible repeat (first | apply blk_drewN | apply blk_drew | apply blk_alloc)); refine blk_far ?_ NB327_359.out _; (with_reducible repeat (first | apply blk_drewN | apply blk_drew | apply blk_alloc)); exact BK327.out⟩, ⟨by (with_reducible repeat (first | apply blk_drewN | apply blk_drew | apply blk_alloc)); refine blk_far ?_ NB332_359.out _; (with_reducible repeat (first | apply blk_drewN | apply blk_drew | apply blk_alloc)); refine blk_far ?_ NB332_359.out _; (with_reducible repeat (first | apply blk_drewN | apply blk_drew | apply blk_alloc)); refine blk_far ?_ NB332_359.out _; (with_reducible repeat (first | apply blk_drewN | apply blk_drew | apply blk_alloc)); refine blk_far ?_ NB332_359.out _; (with_reducible repeat (first | apply blk_drewN | apply blk_drew | apply blk_alloc)); exact BK332.out⟩, ⟨by (with_reducible repeat (first | apply blk_drewN | apply blk_drew | apply blk_alloc)); refine blk_far ?_ NB337_359.out _; (with_reducible repeat (first | apply blk_drewN | apply blk_drew | apply blk_alloc)); refine blk_far ?_ NB337_359.out _; (with_reducible repeat (first | apply blk_drewN | apply blk_drew | apply blk_alloc)); refine blk_far ?_ NB337_359.out _; (with_reducible repeat (first | apply blk_drewN | apply blk_drew | apply blk_alloc)); refine blk_far ?_ NB337_359.out _; (with_reducible repeat (first | apply blk_drewN | apply blk_drew | apply blk_alloc)); exact BK337.out⟩, ⟨by (with_reducible repeat (first | apply blk_drewN | apply blk_drew | apply blk_alloc)); refine blk_far ?_ NB352_359.out _; (with_reducible repeat (first | apply blk_drewN | apply blk_drew | apply blk_alloc)); refine blk_far ?_ NB352_359.out _; (with_reducible repeat (first | apply blk_drewN | apply blk_drew | apply blk_alloc)); refine blk_far ?_ NB352_359.out _; (with_reducible repeat (first | apply blk_drewN | apply blk_drew | apply blk_alloc)); refine blk_far ?_ NB352_359.out _; (with_reducible repeat (first | apply blk_drewN | apply blk_drew | apply blk_alloc)); exact BK352.out⟩, ⟨by (with_reducible repeat (first | apply blk_drewN | apply blk_drew | apply blk_alloc)); refine blk_put (cs := #[.int .i64 t353, .int .i64 t354, .int .i64 t355, .int .i64 0]) ?_ 3 _ rfl; (with_reducible repeat (first | apply blk_drewN | apply blk_drew | apply blk_alloc)); refine blk_put (cs := #[.int .i64 t353, .int .i64 t354, .int .i64 0, .int .i64 0]) ?_ 2 _ rfl; (with_reducible repeat (first | apply blk_drewN | apply blk_drew | apply blk_alloc)); refine blk_put (cs := #[.int .i64 t353, .int .i64 0, .int .i64 0, .int .i64 0]) ?_ 1 _ rfl; (with_reducible repeat (first | apply blk_drewN | apply blk_drew | apply blk_alloc)); refine blk_put (cs := #[.int .i64 0, .int .i64 0, .int .i64 0, .int .i64 0]) ?_ 0 _ rfl; (with_reducible repeat (first | apply blk_drewN | apply blk_drew | apply blk_alloc)); exact BK359.out⟩, ⟨by repeat (first | (with_reducible first | exact HB.out | apply below_alloc | apply pw_below_drewN | apply below_drew1 | refine below_set ?_ GE307.out | refine below_set ?_ GE308.out | refine below_set ?_ GE321.out | refine below_set ?_ GE322.out | refine below_set ?_ GE327.out | refine below_set ?_ GE332.out | refine below_set ?_ GE337.out | refine below_set ?_ GE352.out | refine below_set ?_ GE359.out) | exact HB.out)⟩⟩
                       ·rw [if_neg c170] at H
                        have c170b0 : (t350 == t357) = false := beq_eq_false_iff_ne.mpr c170
                        have c170b1 : (t350 != t357) = true := bne_iff_ne.mpr c170
                        have H' := Aside0.mk H
                        clear H
                        have hnb188 := NB352_307.out
                        have hnc188 := NB307_352.out
                        have hnb189 := NB352_308.out
                        have hnc189 := NB308_352.out
                        have hnb190 := NB352_321.out
                        have hnc190 := NB321_352.out
                        have hnb191 := NB352_322.out
                        have hnc191 := NB322_352.out
                        have hnb192 := NB352_327.out
                        have hnc192 := NB327_352.out
                        have hnb193 := NB352_332.out
                        have hnc193 := NB332_352.out
                        have hnb194 := NB352_337.out
                        have hnc194 := NB337_352.out
                        have hnb195 := NB352_359.out
                        have hnc195 := NB359_352.out
                        have hcz196_0 : w141.cell? ⟨gb352, 0, none⟩ = some (.int .i64 t346) := (blk_cell BK352.out 0).trans rfl
                        have hcz196_1 : w141.cell? ⟨gb352, 1, none⟩ = some (.int .i64 t347) := (blk_cell BK352.out 1).trans rfl
                        have hcz196_2 : w141.cell? ⟨gb352, 2, none⟩ = some (.int .i64 t348) := (blk_cell BK352.out 2).trans rfl
                        have hcz196_3 : w141.cell? ⟨gb352, 3, none⟩ = some (.int .i64 t349) := (blk_cell BK352.out 3).trans rfl
                        have hfz196_0 := blk_frozen BK352.out 0
                        have hfz196_1 := blk_frozen BK352.out 1
                        have hfz196_2 := blk_frozen BK352.out 2
                        have hfz196_3 := blk_frozen BK352.out 3
                        have hnb197 := NB359_307.out
                        have hnc197 := NB307_359.out
                        have hnb198 := NB359_308.out
                        have hnc198 := NB308_359.out
                        have hnb199 := NB359_321.out
                        have hnc199 := NB321_359.out
                        have hnb200 := NB359_322.out
                        have hnc200 := NB322_359.out
                        have hnb201 := NB359_327.out
                        have hnc201 := NB327_359.out
                        have hnb202 := NB359_332.out
                        have hnc202 := NB332_359.out
                        have hnb203 := NB359_337.out
                        have hnc203 := NB337_359.out
                        have hcz204_0 : w141.cell? ⟨gb359, 0, none⟩ = some (.int .i64 0) := (blk_cell BK359.out 0).trans rfl
                        have hcz204_1 : w141.cell? ⟨gb359, 1, none⟩ = some (.int .i64 0) := (blk_cell BK359.out 1).trans rfl
                        have hcz204_2 : w141.cell? ⟨gb359, 2, none⟩ = some (.int .i64 0) := (blk_cell BK359.out 2).trans rfl
                        have hcz204_3 : w141.cell? ⟨gb359, 3, none⟩ = some (.int .i64 0) := (blk_cell BK359.out 3).trans rfl
                        have hfz204_0 := blk_frozen BK359.out 0
                        have hfz204_1 := blk_frozen BK359.out 1
                        have hfz204_2 := blk_frozen BK359.out 2
                        have hfz204_3 := blk_frozen BK359.out 3
                        go_wp2
                        go_meet
                        case rel => exact ⟨_, (true), (by first | rfl | (simp; done) | (simp [*]; done)), H', ⟨by have := HK1.out; have := HK2.out; have := HK3.out; have := HJ73.out; first | omega | exact Nat.le_refl _⟩, ⟨by (with_reducible repeat (first | apply Kd.R_alloc | apply Kd.R_drewN | apply Kd.R_drew)); exact Kd.R_mono (Kd.R_far (p := ⟨gb359, 3, none⟩) (Kd.R_far (p := ⟨gb359, 2, none⟩) (Kd.R_far (p := ⟨gb359, 1, none⟩) (Kd.R_far (p := ⟨gb359, 0, none⟩) (Kd.R_mono HO_53.out (fun k_ hk => (⟨hk, hk.2⟩ : _ ∧ k_ ≠ gb359))) (fun _ hk => hk.2) (.int .i64 t353)) (fun _ hk => hk.2) (.int .i64 t354)) (fun _ hk => hk.2) (.int .i64 t355)) (fun _ hk => hk.2) (.int .i64 t356)) (fun _ hk => ⟨hk.1.1.1.1, ⟨hk.1.1.1.2.1, ⟨hk.1.1.1.2.2, ⟨hk.1.1.2, hk.1.2⟩⟩⟩⟩)⟩, ⟨by (with_reducible repeat (first | apply Kd.R_alloc | apply Kd.R_drewN | apply Kd.R_drew)); exact Kd.R_mono (Kd.R_far (p := ⟨gb359, 3, none⟩) (Kd.R_far (p := ⟨gb359, 2, none⟩) (Kd.R_far (p := ⟨gb359, 1, none⟩) (Kd.R_far (p := ⟨gb359, 0, none⟩) (Kd.R_types HO_61.out BK359.out (by decide)) (fun _ hk => hk.2) (.int .i64 t353)) (fun _ hk => hk.2) (.int .i64 t354)) (fun _ hk => hk.2) (.int .i64 t355)) (fun _ hk => hk.2) (.int .i64 t356)) (fun _ hk => ⟨hk.1.1, ⟨hk.1.2.1, hk.1.2.2⟩⟩)⟩, ⟨by (with_reducible repeat (first | apply Kd.R_alloc | apply Kd.R_drewN | apply Kd.R_drew)); exact Kd.R_mono (Kd.R_far (p := ⟨gb359, 3, none⟩) (Kd.R_far (p := ⟨gb359, 2, none⟩) (Kd.R_far (p := ⟨gb359, 1, none⟩) (Kd.R_far (p := ⟨gb359, 0, none⟩) (Kd.R_types HO_78.out BK359.out (by decide)) (fun _ hk => hk.2) (.int .i64 t353)) (fun _ hk => hk.2) (.int .i64 t354)) (fun _ hk => hk.2) (.int .i64 t355)) (fun _ hk => hk.2) (.int .i64 t356)) (fun _ hk => hk.1)⟩, ⟨by (with_reducible repeat (first | apply blk_drewN | apply blk_drew | apply blk_alloc)); refine blk_far ?_ NB307_359.out _; (with_reducible repeat (first | apply blk_drewN | apply blk_drew | apply blk_alloc)); refine blk_far ?_ NB307_359.out _; (with_reducible repeat (first | apply blk_drewN | apply blk_drew | apply blk_alloc)); refine blk_far ?_ NB307_359.out _; (with_reducible repeat (first | apply blk_drewN | apply blk_drew | apply blk_alloc)); refine blk_far ?_ NB307_359.out _; (with_reducible repeat (first | apply blk_drewN | apply blk_drew | apply blk_alloc)); exact BK307.out⟩, ⟨by (with_reducible repeat (first | apply blk_drewN | apply blk_drew | apply blk_alloc)); refine blk_far ?_ NB308_359.out _; (with_reducible repeat (first | apply blk_drewN | apply blk_drew | apply blk_alloc)); refine blk_far ?_ NB308_359.out _; (with_reducible repeat (first | apply blk_drewN | apply blk_drew | apply blk_alloc)); refine blk_far ?_ NB308_359.out _; (with_reducible repeat (first | apply blk_drewN | apply blk_drew | apply blk_alloc)); refine blk_far ?_ NB308_359.out _; (with_reducible repeat (first | apply blk_drewN | apply blk_drew | apply blk_alloc)); exact BK308.out⟩, ⟨by (with_reducible repeat (first | apply blk_drewN | apply blk_drew | apply blk_alloc)); refine blk_far ?_ NB321_359.out _; (with_reducible repeat (first | apply blk_drewN | apply blk_drew | apply blk_alloc)); refine blk_far ?_ NB321_359.out _; (with_reducible repeat (first | apply blk_drewN | apply blk_drew | apply blk_alloc)); refine blk_far ?_ NB321_359.out _; (with_reducible repeat (first | apply blk_drewN | apply blk_drew | apply blk_alloc)); refine blk_far ?_ NB321_359.out _; (with_reducible repeat (first | apply blk_drewN | apply blk_drew | apply blk_alloc)); exact BK321.out⟩, ⟨by (with_reducible repeat (first | apply blk_drewN | apply blk_drew | apply blk_alloc)); refine blk_far ?_ NB322_359.out _; (with_reducible repeat (first | apply blk_drewN | apply blk_drew | apply blk_alloc)); refine blk_far ?_ NB322_359.out _; (with_reducible repeat (first | apply blk_drewN | apply blk_drew | apply blk_alloc)); refine blk_far ?_ NB322_359.out _; (with_reducible repeat (first | apply blk_drewN | apply blk_drew | apply blk_alloc)); refine blk_far ?_ NB322_359.out _; (with_reducible repeat (first | apply blk_drewN | apply blk_drew | apply blk_alloc)); exact BK322.out⟩, ⟨by (with_reducible repeat (first | apply blk_drewN | apply blk_drew | apply blk_alloc)); refine blk_far ?_ NB327_359.out _; (with_reducible repeat (first | apply blk_drewN | apply blk_drew | apply blk_alloc)); refine blk_far ?_ NB327_359.out _; (with_reducible repeat (first | apply blk_drewN | apply blk_drew | apply blk_alloc)); refine blk_far ?_ NB327_359.out _; (with_reducible repeat (first | apply blk_drewN | apply blk_drew | apply blk_alloc)); refine blk_far ?_ NB327_359.out _; (with_reducible repeat (first | apply blk_drewN | apply blk_drew | apply blk_alloc)); exact BK327.out⟩, ⟨by (with_reducible repeat (first | apply blk_drewN | apply blk_drew | apply blk_alloc)); refine blk_far ?_ NB332_359.out _; (with_reducible repeat (first | apply blk_drewN | apply blk_drew | apply blk_alloc)); refine blk_far ?_ NB332_359.out _; (with_reducible repeat (first | apply blk_drewN | apply blk_drew | apply blk_alloc)); refine blk_far ?_ NB332_359.out _; (with_reducible repeat (first | apply blk_drewN | apply blk_drew | apply blk_alloc)); refine blk_far ?_ NB332_359.out _; (with_reducible repeat (first | apply blk_drewN | apply blk_drew | apply blk_alloc)); exact BK332.out⟩, ⟨by (with_reducible repeat (first | apply blk_drewN | apply blk_drew | apply blk_alloc)); refine blk_far ?_ NB337_359.out _; (with_reducible repeat (first | apply blk_drewN | apply blk_drew | apply blk_alloc)); refine blk_far ?_ NB337_359.out _; (with_reducible repeat (first | apply blk_drewN | apply blk_drew | apply blk_alloc)); refine blk_far ?_ NB337_359.out _; (with_reducible repeat (first | apply blk_drewN | apply blk_drew | apply blk_alloc)); refine blk_far ?_ NB337_359.out _; (with_reducible repeat (first | apply blk_drewN | apply blk_drew | apply blk_alloc)); exact BK337.out⟩, ⟨by (with_reducible repeat (first | apply blk_drewN | apply blk_drew | apply blk_alloc)); refine blk_far ?_ NB352_359.out _; (with_reducible repeat (first | apply blk_drewN | apply blk_drew | apply blk_alloc)); refine blk_far ?_ NB352_359.out _; (with_reducible repeat (first | apply blk_drewN | apply blk_drew | apply blk_alloc)); refine blk_far ?_ NB352_359.out _; (with_reducible repeat (first | apply blk_drewN | apply blk_drew | apply blk_alloc)); refine blk_far ?_ NB352_359.out _; (with_reducible repeat (first | apply blk_drewN | apply blk_drew | apply blk_alloc)); exact BK352.out⟩, ⟨by (with_reducible repeat (first | apply blk_drewN | apply blk_drew | apply blk_alloc)); refine blk_put (cs := #[.int .i64 t353, .int .i64 t354, .int .i64 t355, .int .i64 0]) ?_ 3 _ rfl; (with_reducible repeat (first | apply blk_drewN | apply blk_drew | apply blk_alloc)); refine blk_put (cs := #[.int .i64 t353, .int .i64 t354, .int .i64 0, .int .i64 0]) ?_ 2 _ rfl; (with_reducible repeat (first | apply blk_drewN | apply blk_drew | apply blk_alloc)); refine blk_put (cs := #[.int .i64 t353, .int .i64 0, .int .i64 0, .int .i64 0]) ?_ 1 _ rfl; (with_reducible repeat (first | apply blk_drewN | apply blk_drew | apply blk_alloc)); refine blk_put (cs := #[.int .i64 0, .int .i64 0, .int .i64 0, .int .i64 0]) ?_ 0 _ rfl; (with_reducible repeat (first | apply blk_drewN | apply blk_drew | apply blk_alloc)); exact BK359.out⟩, ⟨by repeat (first | (with_reducible first | exact HB.out | apply below_alloc | apply pw_below_drewN | apply below_drew1 | refine below_set ?_ GE307.out | refine below_set ?_ GE308.out | refine below_set ?_ GE321.out | refine below_set ?_ GE322.out | refine below_set ?_ GE327.out | refine below_set ?_ GE332.out | refine below_set ?_ GE337.out | refine below_set ?_ GE352.out | refine below_set ?_ GE359.out) | exact HB.out)⟩⟩
                     case rest =>
                      clear HC151
                      try clear c1
                      try clear c2
                      try clear p2
                      try clear c3
                      try clear p3
                      try clear q3
                      try clear hx3
                      try clear c4
                      try clear c5
                      try clear c6
                      try clear p6
                      try clear c7
                      try clear c8
                      try clear c9
                      try clear c10
                      try clear c11
                      try clear c12
                      try clear c13
                      try clear c14
                      try clear c15
                      try clear c16
                      try clear c17
                      try clear c18
                      try clear c19
                      try clear c20
                      try clear c21
                      try clear c22
                      try clear c23
                      try clear c25
                      try clear c26
                      try clear c27
                      try clear c29
                      try clear c30
                      try clear p32
                      try clear q32
                      try clear hx32
                      try clear p33
                      try clear q33
                      try clear hx33
                      try clear c35
                      try clear c35b0
                      try clear c36
                      try clear c36b0
                      try clear c37
                      try clear c37b0
                      try clear c39
                      try clear c40
                      try clear c41
                      try clear c42
                      try clear c44
                      try clear c45
                      try clear c46
                      try clear c48
                      try clear c49
                      try clear c54
                      try clear c54b0
                      try clear c55
                      try clear c55b0
                      try clear c56
                      try clear c56b0
                      try clear c58
                      try clear c59
                      try clear c60
                      try clear c61
                      try clear c62
                      try clear p64
                      try clear c67
                      try clear c67b0
                      try clear c68
                      try clear c68b0
                      try clear c69
                      try clear c69b0
                      try clear c76
                      try clear c77
                      try clear c78
                      try clear c79
                      try clear c80
                      try clear c81
                      try clear c83
                      try clear c84
                      try clear c85
                      try clear c86
                      try clear c87
                      try clear c89
                      try clear c90
                      try clear c91
                      try clear c92
                      try clear c108
                      try clear c108b0
                      try clear c108b1
                      try clear c109
                      try clear c109b0
                      try clear c109b1
                      try clear c110
                      try clear c110b0
                      try clear c110b1
                      try clear c111
                      try clear c115
                      try clear c116
                      try clear c117
                      try clear c118
                      try clear c119
                      try clear c120
                      try clear c122
                      try clear c123
                      try clear c124
                      try clear c125
                      try clear c126
                      try clear c130
                      try clear c131
                      try clear c132
                      try clear c133
                      try clear c134
                      try clear c135
                      try clear c136
                      try clear c142
                      try clear c143
                      try clear c144
                      try clear c145
                      try clear c146
                      try clear c147
                      try clear c148
                      try clear c149
                      try clear c152
                      try clear c152b0
                      try clear c153
                      try clear c154
                      try clear c155
                      try clear c156
                      try clear c157
                      try clear c158
                      try clear c159
                      try clear c160
                      try clear c162
                      try clear c163
                      try clear c164
                      try clear c165
                      try clear c166
                      try clear c167
                      try clear c168
                      try clear c170
                      try clear c170b0
                      try clear c170b1
                      try clear c171
                      try clear c172
                      try clear c173
                      try clear c174
                      try clear c175
                      try clear c176
                      try clear c177
                      try clear c178
                      try clear c180
                      try clear c181
                      try clear c182
                      try clear c183
                      try clear c184
                      try clear c185
                      try clear c186
                      try clear c188
                      try clear c189
                      try clear c190
                      try clear c191
                      try clear c192
                      try clear c193
                      try clear c194
                      try clear c195
                      try clear c197
                      try clear c198
                      try clear c199
                      try clear c200
                      try clear c201
                      try clear c202
                      try clear c203
                      try clear hcz100_0
                      try clear hcz100_1
                      try clear hcz101_0
                      try clear hcz101_1
                      try clear hcz101_2
                      try clear hcz103_0
                      try clear hcz103_1
                      try clear hcz103_2
                      try clear hcz103_3
                      try clear hcz104_0
                      try clear hcz104_1
                      try clear hcz105_0
                      try clear hcz105_1
                      try clear hcz105_2
                      try clear hcz121_0
                      try clear hcz121_1
                      try clear hcz127_0
                      try clear hcz127_1
                      try clear hcz127_2
                      try clear hcz137_0
                      try clear hcz137_1
                      try clear hcz137_2
                      try clear hcz137_3
                      try clear hcz138_0
                      try clear hcz138_1
                      try clear hcz139_0
                      try clear hcz139_1
                      try clear hcz139_2
                      try clear hcz150_0
                      try clear hcz150_1
                      try clear hcz150_2
                      try clear hcz150_3
                      try clear hcz161_0
                      try clear hcz161_1
                      try clear hcz161_2
                      try clear hcz161_3
                      try clear hcz169_0
                      try clear hcz169_1
                      try clear hcz169_2
                      try clear hcz169_3
                      try clear hcz179_0
                      try clear hcz179_1
                      try clear hcz179_2
                      try clear hcz179_3
                      try clear hcz187_0
                      try clear hcz187_1
                      try clear hcz187_2
                      try clear hcz187_3
                      try clear hcz196_0
                      try clear hcz196_1
                      try clear hcz196_2
                      try clear hcz196_3
                      try clear hcz204_0
                      try clear hcz204_1
                      try clear hcz204_2
                      try clear hcz204_3
                      try clear hcz24_0
                      try clear hcz24_1
                      try clear hcz24_2
                      try clear hcz24_3
                      try clear hcz28_0
                      try clear hcz28_1
                      try clear hcz31_0
                      try clear hcz31_1
                      try clear hcz31_2
                      try clear hcz31_3
                      try clear hcz43_0
                      try clear hcz43_1
                      try clear hcz43_2
                      try clear hcz43_3
                      try clear hcz47_0
                      try clear hcz47_1
                      try clear hcz50_0
                      try clear hcz50_1
                      try clear hcz63_0
                      try clear hcz63_1
                      try clear hcz82_0
                      try clear hcz82_1
                      try clear hcz82_2
                      try clear hcz88_0
                      try clear hcz88_1
                      try clear hcz88_2
                      try clear hcz88_3
                      try clear hcz93_0
                      try clear hcz93_1
                      try clear hcz95_0
                      try clear hcz95_1
                      try clear hcz95_2
                      try clear hcz95_3
                      try clear hcz96_0
                      try clear hcz96_1
                      try clear hcz97_0
                      try clear hcz97_1
                      try clear hcz97_2
                      try clear hcz99_0
                      try clear hcz99_1
                      try clear hcz99_2
                      try clear hcz99_3
                      try clear hfz100_0
                      try clear hfz100_1
                      try clear hfz101_0
                      try clear hfz101_1
                      try clear hfz101_2
                      try clear hfz103_0
                      try clear hfz103_1
                      try clear hfz103_2
                      try clear hfz103_3
                      try clear hfz104_0
                      try clear hfz104_1
                      try clear hfz105_0
                      try clear hfz105_1
                      try clear hfz105_2
                      try clear hfz121_0
                      try clear hfz121_1
                      try clear hfz127_0
                      try clear hfz127_1
                      try clear hfz127_2
                      try clear hfz137_0
                      try clear hfz137_1
                      try clear hfz137_2
                      try clear hfz137_3
                      try clear hfz138_0
                      try clear hfz138_1
                      try clear hfz139_0
                      try clear hfz139_1
                      try clear hfz139_2
                      try clear hfz150_0
                      try clear hfz150_1
                      try clear hfz150_2
                      try clear hfz150_3
                      try clear hfz161_0
                      try clear hfz161_1
                      try clear hfz161_2
                      try clear hfz161_3
                      try clear hfz169_0
                      try clear hfz169_1
                      try clear hfz169_2
                      try clear hfz169_3
                      try clear hfz179_0
                      try clear hfz179_1
                      try clear hfz179_2
                      try clear hfz179_3
                      try clear hfz187_0
                      try clear hfz187_1
                      try clear hfz187_2
                      try clear hfz187_3
                      try clear hfz196_0
                      try clear hfz196_1
                      try clear hfz196_2
                      try clear hfz196_3
                      try clear hfz204_0
                      try clear hfz204_1
                      try clear hfz204_2
                      try clear hfz204_3
                      try clear hfz24_0
                      try clear hfz24_1
                      try clear hfz24_2
                      try clear hfz24_3
                      try clear hfz28_0
                      try clear hfz28_1
                      try clear hfz31_0
                      try clear hfz31_1
                      try clear hfz31_2
                      try clear hfz31_3
                      try clear hfz43_0
                      try clear hfz43_1
                      try clear hfz43_2
                      try clear hfz43_3
                      try clear hfz47_0
                      try clear hfz47_1
                      try clear hfz50_0
                      try clear hfz50_1
                      try clear hfz63_0
                      try clear hfz63_1
                      try clear hfz82_0
                      try clear hfz82_1
                      try clear hfz82_2
                      try clear hfz88_0
                      try clear hfz88_1
                      try clear hfz88_2
                      try clear hfz88_3
                      try clear hfz93_0
                      try clear hfz93_1
                      try clear hfz95_0
                      try clear hfz95_1
                      try clear hfz95_2
                      try clear hfz95_3
                      try clear hfz96_0
                      try clear hfz96_1
                      try clear hfz97_0
                      try clear hfz97_1
                      try clear hfz97_2
                      try clear hfz99_0
                      try clear hfz99_1
                      try clear hfz99_2
                      try clear hfz99_3
                      try clear hx326_0
                      try clear hx326_1
                      try clear hx326_2
                      try clear hx326_3
                      try clear hx331_0
                      try clear hx331_1
                      try clear hx336_0
                      try clear hx336_1
                      try clear hx336_2
                      try clear p2
                      try clear p3
                      try clear p32
                      try clear p326
                      try clear p33
                      try clear p331
                      try clear p336
                      try clear p6
                      try clear p64
                      try clear q3
                      try clear q32
                      try clear q326
                      try clear q33
                      try clear q331
                      try clear q336
                      obtain ⟨kq, x182_150, rfl, HA, HJ150, HO_53, HO_61, HO_78, BK307, BK308, BK321, BK322, BK327, BK332, BK337, BK352, BK359, HB⟩ := hcut
                      cases kq with
                      | zero => exact absurd HA.out (by simp [soundservicelaw18_ControlBounds.j5])
                      | succ kj150 =>
                       have H := HA.out
                       clear HA
                       simp only [soundservicelaw18_ControlBounds.j5] at H
                       have H' := Aside0.mk H
                       clear H
                       go_wp2
                       go_meet
                       case rel => exact ⟨_, (x182_150), (by first | rfl | (simp; done) | (simp [*]; done)), H', ⟨by have := HK1.out; have := HK2.out; have := HK3.out; have := HJ73.out; have := HJ150.out; first | omega | exact Nat.le_refl _⟩, ⟨by (with_reducible repeat (first | apply Kd.R_alloc | apply Kd.R_drewN | apply Kd.R_drew)); exact HO_53.out⟩, ⟨by (with_reducible repeat (first | apply Kd.R_alloc | apply Kd.R_drewN | apply Kd.R_drew)); exact HO_61.out⟩, ⟨by (with_reducible repeat (first | apply Kd.R_alloc | apply Kd.R_drewN | apply Kd.R_drew)); exact HO_78.out⟩, ⟨by (with_reducible repeat (first | apply blk_drewN | apply blk_drew | apply blk_alloc)); exact BK307.out⟩, ⟨by (with_reducible repeat (first | apply blk_drewN | apply blk_drew | apply blk_alloc)); exact BK308.out⟩, ⟨by (with_reducible repeat (first | apply blk_drewN | apply blk_drew | apply blk_alloc)); exact BK321.out⟩, ⟨by (with_reducible repeat (first | apply blk_drewN | apply blk_drew | apply blk_alloc)); exact BK322.out⟩, ⟨by (with_reducible repeat (first | apply blk_drewN | apply blk_drew | apply blk_alloc)); exact BK327.out⟩, ⟨by (with_reducible repeat (first | apply blk_drewN | apply blk_drew | apply blk_alloc)); exact BK332.out⟩, ⟨by (with_reducible repeat (first | apply blk_drewN | apply blk_drew | apply blk_alloc)); exact BK337.out⟩, ⟨by (with_reducible repeat (first | apply blk_drewN | apply blk_drew | apply blk_alloc)); exact BK352.out⟩, ⟨by (with_reducible repeat (first | apply blk_drewN | apply blk_drew | apply blk_alloc)); exact BK359.out⟩, ⟨by repeat (first | (with_reducible first | exact HB.out | apply below_alloc | apply pw_below_drewN | apply below_drew1 | refine below_set ?_ GE307.out | refine below_set ?_ GE308.out | refine below_set ?_ GE321.out | refine below_set ?_ GE322.out | refine below_set ?_ GE327.out | refine below_set ?_ GE332.out | refine below_set ?_ GE337.out | refine below_set ?_ GE352.out | refine below_set ?_ GE359.out) | exact HB.out)⟩⟩
                    case rest =>
                     clear HC114
                     try clear c1
                     try clear c2
                     try clear p2
                     try clear c3
                     try clear p3
                     try clear q3
                     try clear hx3
                     try clear c4
                     try clear c5
                     try clear c6
                     try clear p6
                     try clear c7
                     try clear c8
                     try clear c9
                     try clear c10
                     try clear c11
                     try clear c12
                     try clear c13
                     try clear c14
                     try clear c15
                     try clear c16
                     try clear c17
                     try clear c18
                     try clear c19
                     try clear c20
                     try clear c21
                     try clear c22
                     try clear c23
                     try clear c25
                     try clear c26
                     try clear c27
                     try clear c29
                     try clear c30
                     try clear p32
                     try clear q32
                     try clear hx32
                     try clear p33
                     try clear q33
                     try clear hx33
                     try clear c35
                     try clear c35b0
                     try clear c36
                     try clear c36b0
                     try clear c37
                     try clear c37b0
                     try clear c39
                     try clear c40
                     try clear c41
                     try clear c42
                     try clear c44
                     try clear c45
                     try clear c46
                     try clear c48
                     try clear c49
                     try clear c54
                     try clear c54b0
                     try clear c55
                     try clear c55b0
                     try clear c56
                     try clear c56b0
                     try clear c58
                     try clear c59
                     try clear c60
                     try clear c61
                     try clear c62
                     try clear p64
                     try clear c67
                     try clear c67b0
                     try clear c68
                     try clear c68b0
                     try clear c69
                     try clear c69b0
                     try clear c76
                     try clear c77
                     try clear c78
                     try clear c79
                     try clear c80
                     try clear c81
                     try clear c83
                     try clear c84
                     try clear c85
                     try clear c86
                     try clear c87
                     try clear c89
                     try clear c90
                     try clear c91
                     try clear c92
                     try clear c108
                     try clear c108b0
                     try clear c108b1
                     try clear c109
                     try clear c109b0
                     try clear c109b1
                     try clear c110
                     try clear c110b0
                     try clear c110b1
                     try clear c111
                     try clear c115
                     try clear c116
                     try clear c117
                     try clear c118
                     try clear c119
                     try clear c120
                     try clear c122
                     try clear c123
                     try clear c124
                     try clear c125
                     try clear c126
                     try clear c130
                     try clear c131
                     try clear c132
                     try clear c133
                     try clear c134
                     try clear c135
                     try clear c136
                     try clear c142
                     try clear c143
                     try clear c144
                     try clear c145
                     try clear c146
                     try clear c147
                     try clear c148
                     try clear c149
                     try clear c152
                     try clear c152b0
                     try clear c153
                     try clear c154
                     try clear c155
                     try clear c156
                     try clear c157
                     try clear c158
                     try clear c159
                     try clear c160
                     try clear c162
                     try clear c163
                     try clear c164
                     try clear c165
                     try clear c166
                     try clear c167
                     try clear c168
                     try clear c170
                     try clear c170b0
                     try clear c170b1
                     try clear c171
                     try clear c172
                     try clear c173
                     try clear c174
                     try clear c175
                     try clear c176
                     try clear c177
                     try clear c178
                     try clear c180
                     try clear c181
                     try clear c182
                     try clear c183
                     try clear c184
                     try clear c185
                     try clear c186
                     try clear c188
                     try clear c189
                     try clear c190
                     try clear c191
                     try clear c192
                     try clear c193
                     try clear c194
                     try clear c195
                     try clear c197
                     try clear c198
                     try clear c199
                     try clear c200
                     try clear c201
                     try clear c202
                     try clear c203
                     try clear hcz100_0
                     try clear hcz100_1
                     try clear hcz101_0
                     try clear hcz101_1
                     try clear hcz101_2
                     try clear hcz103_0
                     try clear hcz103_1
                     try clear hcz103_2
                     try clear hcz103_3
                     try clear hcz104_0
                     try clear hcz104_1
                     try clear hcz105_0
                     try clear hcz105_1
                     try clear hcz105_2
                     try clear hcz121_0
                     try clear hcz121_1
                     try clear hcz127_0
                     try clear hcz127_1
                     try clear hcz127_2
                     try clear hcz137_0
                     try clear hcz137_1
                     try clear hcz137_2
                     try clear hcz137_3
                     try clear hcz138_0
                     try clear hcz138_1
                     try clear hcz139_0
                     try clear hcz139_1
                     try clear hcz139_2
                     try clear hcz150_0
                     try clear hcz150_1
                     try clear hcz150_2
                     try clear hcz150_3
                     try clear hcz161_0
                     try clear hcz161_1
                     try clear hcz161_2
                     try clear hcz161_3
                     try clear hcz169_0
                     try clear hcz169_1
                     try clear hcz169_2
                     try clear hcz169_3
                     try clear hcz179_0
                     try clear hcz179_1
                     try clear hcz179_2
                     try clear hcz179_3
                     try clear hcz187_0
                     try clear hcz187_1
                     try clear hcz187_2
                     try clear hcz187_3
                     try clear hcz196_0
                     try clear hcz196_1
                     try clear hcz196_2
                     try clear hcz196_3
                     try clear hcz204_0
                     try clear hcz204_1
                     try clear hcz204_2
                     try clear hcz204_3
                     try clear hcz24_0
                     try clear hcz24_1
                     try clear hcz24_2
                     try clear hcz24_3
                     try clear hcz28_0
                     try clear hcz28_1
                     try clear hcz31_0
                     try clear hcz31_1
                     try clear hcz31_2
                     try clear hcz31_3
                     try clear hcz43_0
                     try clear hcz43_1
                     try clear hcz43_2
                     try clear hcz43_3
                     try clear hcz47_0
                     try clear hcz47_1
                     try clear hcz50_0
                     try clear hcz50_1
                     try clear hcz63_0
                     try clear hcz63_1
                     try clear hcz82_0
                     try clear hcz82_1
                     try clear hcz82_2
                     try clear hcz88_0
                     try clear hcz88_1
                     try clear hcz88_2
                     try clear hcz88_3
                     try clear hcz93_0
                     try clear hcz93_1
                     try clear hcz95_0
                     try clear hcz95_1
                     try clear hcz95_2
                     try clear hcz95_3
                     try clear hcz96_0
                     try clear hcz96_1
                     try clear hcz97_0
                     try clear hcz97_1
                     try clear hcz97_2
                     try clear hcz99_0
                     try clear hcz99_1
                     try clear hcz99_2
                     try clear hcz99_3
                     try clear hfz100_0
                     try clear hfz100_1
                     try clear hfz101_0
                     try clear hfz101_1
                     try clear hfz101_2
                     try clear hfz103_0
                     try clear hfz103_1
                     try clear hfz103_2
                     try clear hfz103_3
                     try clear hfz104_0
                     try clear hfz104_1
                     try clear hfz105_0
                     try clear hfz105_1
                     try clear hfz105_2
                     try clear hfz121_0
                     try clear hfz121_1
                     try clear hfz127_0
                     try clear hfz127_1
                     try clear hfz127_2
                     try clear hfz137_0
                     try clear hfz137_1
                     try clear hfz137_2
                     try clear hfz137_3
                     try clear hfz138_0
                     try clear hfz138_1
                     try clear hfz139_0
                     try clear hfz139_1
                     try clear hfz139_2
                     try clear hfz150_0
                     try clear hfz150_1
                     try clear hfz150_2
                     try clear hfz150_3
                     try clear hfz161_0
                     try clear hfz161_1
                     try clear hfz161_2
                     try clear hfz161_3
                     try clear hfz169_0
                     try clear hfz169_1
                     try clear hfz169_2
                     try clear hfz169_3
                     try clear hfz179_0
                     try clear hfz179_1
                     try clear hfz179_2
                     try clear hfz179_3
                     try clear hfz187_0
                     try clear hfz187_1
                     try clear hfz187_2
                     try clear hfz187_3
                     try clear hfz196_0
                     try clear hfz196_1
                     try clear hfz196_2
                     try clear hfz196_3
                     try clear hfz204_0
                     try clear hfz204_1
                     try clear hfz204_2
                     try clear hfz204_3
                     try clear hfz24_0
                     try clear hfz24_1
                     try clear hfz24_2
                     try clear hfz24_3
                     try clear hfz28_0
                     try clear hfz28_1
                     try clear hfz31_0
                     try clear hfz31_1
                     try clear hfz31_2
                     try clear hfz31_3
                     try clear hfz43_0
                     try clear hfz43_1
                     try clear hfz43_2
                     try clear hfz43_3
                     try clear hfz47_0
                     try clear hfz47_1
                     try clear hfz50_0
                     try clear hfz50_1
                     try clear hfz63_0
                     try clear hfz63_1
                     try clear hfz82_0
                     try clear hfz82_1
                     try clear hfz82_2
                     try clear hfz88_0
                     try clear hfz88_1
                     try clear hfz88_2
                     try clear hfz88_3
                     try clear hfz93_0
                     try clear hfz93_1
                     try clear hfz95_0
                     try clear hfz95_1
                     try clear hfz95_2
                     try clear hfz95_3
                     try clear hfz96_0
                     try clear hfz96_1
                     try clear hfz97_0
                     try clear hfz97_1
                     try clear hfz97_2
                     try clear hfz99_0
                     try clear hfz99_1
                     try clear hfz99_2
                     try clear hfz99_3
                     try clear hx326_0
                     try clear hx326_1
                     try clear hx326_2
                     try clear hx326_3
                     try clear hx331_0
                     try clear hx331_1
                     try clear hx336_0
                     try clear hx336_1
                     try clear hx336_2
                     try clear p2
                     try clear p3
                     try clear p32
                     try clear p326
                     try clear p33
                     try clear p331
                     try clear p336
                     try clear p6
                     try clear p64
                     try clear q3
                     try clear q32
                     try clear q326
                     try clear q33
                     try clear q331
                     try clear q336
                     obtain ⟨kq, x182_113, rfl, HA, HJ113, HO_53, HO_61, HO_78, BK307, BK308, BK321, BK322, BK327, BK332, BK337, BK352, BK359, HB⟩ := hcut
                     cases kq with
                     | zero => exact absurd HA.out (by simp [soundservicelaw18_ControlBounds.j6])
                     | succ kj113 =>
                      have H := HA.out
                      clear HA
                      simp only [soundservicelaw18_ControlBounds.j6] at H
                      by_cases c205 : x182_113 = true
                      ·subst c205
                       have H1 : (some false) = some r := by rw [if_pos rfl] at H; exact H
                       clear H
                       have H := H1
                       clear H1
                       obtain rfl := Option.some.inj H
                       go_wp2
                       go_ret
                       exact ⟨by first | rfl | (simp [errW_none, errW_some] <;> rfl) | (simp [*, errW_none, errW_some] <;> rfl), by repeat (first | (with_reducible first | exact HB.out | apply below_alloc | apply pw_below_drewN | apply below_drew1 | refine below_set ?_ GE307.out | refine below_set ?_ GE308.out | refine below_set ?_ GE321.out | refine below_set ?_ GE322.out | refine below_set ?_ GE327.out | refine below_set ?_ GE332.out | refine below_set ?_ GE337.out | refine below_set ?_ GE352.out | refine below_set ?_ GE359.out) | exact HB.out)⟩
                      ·replace c205 := Bool.eq_false_iff.mpr c205
                       subst c205
                       have H1 : (soundservicelaw18_ControlBounds.l2 kj113 a3 a4 a5 a6 a7 t318 t319 y323 (y323.length : Int) x55_1 y328 (y328.length : Int) x63_2 y333 (y333.length : Int) (wrap64 (x80_3 + 1)) a1_0 a1_1 t316 t317 ((rd_T23 y323 x55_1).f0) ((rd_T23 y323 x55_1).f1) ((rd_T23 y323 x55_1).f2) ((rd_T23 y323 x55_1).f3) ((rd_T27 y328 x63_2).f0) ((rd_T27 y328 x63_2).f1)) = some r := by rw [if_neg (show ¬ (false = true) by decide)] at H; exact H
                       clear H
                       have H := H1
                       clear H1
                       have H' := Aside0.mk H
                       clear H
                       go_wp2
                       go_roundg kj113
                       case measure => have := HK1.out; have := HK2.out; have := HK3.out; have := HJ73.out; have := HJ113.out; omega
                       case rel => exact ⟨(wrap64 (x80_3 + 1)), (by first | rfl | (simp; done) | (simp [*]; done)), H', ⟨by have := HK1.out; have := HK2.out; have := HK3.out; have := HJ73.out; have := HJ113.out; omega⟩, ⟨by (with_reducible repeat (first | apply Kd.R_alloc | apply Kd.R_drewN | apply Kd.R_drew)); exact Kd.R_mono HO_53.out (fun _ hk => ⟨hk.1, ⟨hk.2.1, hk.2.2.1⟩⟩)⟩, ⟨by (with_reducible repeat (first | apply Kd.R_alloc | apply Kd.R_drewN | apply Kd.R_drew)); exact HO_61.out⟩, ⟨by (with_reducible repeat (first | apply Kd.R_alloc | apply Kd.R_drewN | apply Kd.R_drew)); exact Kd.R_mono HO_78.out (fun _ hk => trivial)⟩, ⟨by (with_reducible repeat (first | apply blk_drewN | apply blk_drew | apply blk_alloc)); exact BK307.out⟩, ⟨by (with_reducible repeat (first | apply blk_drewN | apply blk_drew | apply blk_alloc)); exact BK308.out⟩, ⟨by (with_reducible repeat (first | apply blk_drewN | apply blk_drew | apply blk_alloc)); exact BK321.out⟩, ⟨by (with_reducible repeat (first | apply blk_drewN | apply blk_drew | apply blk_alloc)); exact BK322.out⟩, ⟨by (with_reducible repeat (first | apply blk_drewN | apply blk_drew | apply blk_alloc)); exact BK327.out⟩, ⟨by (with_reducible repeat (first | apply blk_drewN | apply blk_drew | apply blk_alloc)); exact BK332.out⟩, ⟨by repeat (first | (with_reducible first | exact HB.out | apply below_alloc | apply pw_below_drewN | apply below_drew1 | refine below_set ?_ GE307.out | refine below_set ?_ GE308.out | refine below_set ?_ GE321.out | refine below_set ?_ GE322.out | refine below_set ?_ GE327.out | refine below_set ?_ GE332.out | refine below_set ?_ GE337.out | refine below_set ?_ GE352.out | refine below_set ?_ GE359.out) | exact HB.out)⟩⟩
                ·rw [if_neg c69] at H
                 exact absurd H (by simp)
               ·rw [if_neg c68] at H
                exact absurd H (by simp)
              ·rw [if_neg c67] at H
               have c67b0 : decide (x80_3 < (y333.length : Int)) = false := decide_eq_false c67
               clear c67
               have H' := Aside0.mk H
               clear H
               go_wp2
               go_roundg k3
               case measure => have := HK1.out; have := HK2.out; have := HK3.out; omega
               case rel => exact ⟨(wrap64 (x63_2 + 1)), (by first | rfl | (simp; done) | (simp [*]; done)), H', ⟨by have := HK1.out; have := HK2.out; have := HK3.out; omega⟩, ⟨by (with_reducible repeat (first | apply Kd.R_alloc | apply Kd.R_drewN | apply Kd.R_drew)); exact HO_53.out⟩, ⟨by (with_reducible repeat (first | apply Kd.R_alloc | apply Kd.R_drewN | apply Kd.R_drew)); exact Kd.R_mono HO_61.out (fun _ hk => ⟨hk.1, hk.2.1⟩)⟩, ⟨by (with_reducible repeat (first | apply blk_drewN | apply blk_drew | apply blk_alloc)); exact BK307.out⟩, ⟨by (with_reducible repeat (first | apply blk_drewN | apply blk_drew | apply blk_alloc)); exact BK308.out⟩, ⟨by (with_reducible repeat (first | apply blk_drewN | apply blk_drew | apply blk_alloc)); exact BK321.out⟩, ⟨by (with_reducible repeat (first | apply blk_drewN | apply blk_drew | apply blk_alloc)); exact BK322.out⟩, ⟨by (with_reducible repeat (first | apply blk_drewN | apply blk_drew | apply blk_alloc)); exact BK327.out⟩, ⟨by repeat (first | (with_reducible first | exact HB.out | apply below_alloc | apply pw_below_drewN | apply below_drew1 | refine below_set ?_ GE307.out | refine below_set ?_ GE308.out | refine below_set ?_ GE321.out | refine below_set ?_ GE322.out | refine below_set ?_ GE327.out | refine below_set ?_ GE332.out) | exact HB.out)⟩⟩
           ·rw [if_neg c56] at H
            exact absurd H (by simp)
          ·rw [if_neg c55] at H
           exact absurd H (by simp)
         ·rw [if_neg c54] at H
          have c54b0 : decide (x63_2 < (y328.length : Int)) = false := decide_eq_false c54
          clear c54
          have H' := Aside0.mk H
          clear H
          go_wp2
          go_roundg k2
          case measure => have := HK1.out; have := HK2.out; omega
          case rel => exact ⟨(wrap64 (x55_1 + 1)), (by first | rfl | (simp; done) | (simp [*]; done)), H', ⟨by have := HK1.out; have := HK2.out; omega⟩, ⟨by (with_reducible repeat (first | apply Kd.R_alloc | apply Kd.R_drewN | apply Kd.R_drew)); exact Kd.R_mono HO_53.out (fun _ hk => ⟨hk.1, hk.2.1⟩)⟩, ⟨by (with_reducible repeat (first | apply blk_drewN | apply blk_drew | apply blk_alloc)); exact BK307.out⟩, ⟨by (with_reducible repeat (first | apply blk_drewN | apply blk_drew | apply blk_alloc)); exact BK308.out⟩, ⟨by (with_reducible repeat (first | apply blk_drewN | apply blk_drew | apply blk_alloc)); exact BK321.out⟩, ⟨by (with_reducible repeat (first | apply blk_drewN | apply blk_drew | apply blk_alloc)); exact BK322.out⟩, ⟨by repeat (first | (with_reducible first | exact HB.out | apply below_alloc | apply pw_below_drewN | apply below_drew1 | refine below_set ?_ GE307.out | refine below_set ?_ GE308.out | refine below_set ?_ GE321.out | refine below_set ?_ GE322.out | refine below_set ?_ GE327.out) | exact HB.out)⟩⟩
      ·rw [if_neg c37] at H
       exact absurd H (by simp)
     ·rw [if_neg c36] at H
      exact absurd H (by simp)
    ·rw [if_neg c35] at H
     have c35b0 : decide (x55_1 < (y323.length : Int)) = false := decide_eq_false c35
     clear c35
     obtain rfl := Option.some.inj H
     go_wp2
     go_ret
     exact ⟨by first | rfl | (simp [errW_none, errW_some] <;> rfl) | (simp [*, errW_none, errW_some] <;> rfl), by repeat (first | (with_reducible first | exact HB.out | apply below_alloc | apply pw_below_drewN | apply below_drew1 | refine below_set ?_ GE307.out | refine below_set ?_ GE308.out | refine below_set ?_ GE321.out | refine below_set ?_ GE322.out) | exact HB.out)⟩
 ·replace c10 := Bool.eq_false_iff.mpr c10
  subst c10
  have H1 : (some false) = some r := by rw [if_neg (show ¬ (false = true) by decide)] at H; exact H
  clear H
  have H := H1
  clear H1
  obtain rfl := Option.some.inj H
  go_enter Try.func6, Try.ntmps6
  go_wp2_with (first | ((with_reducible refine gate_dst (N := 8) rfl ?_); refine box_event ?hg (N := 8) ?hd (cs := #[.int .i64 a0_0, .int .i64 a0_1, .int .i64 a0_2, .int .i64 a0_3]) (t := 23) ?hr ?_; (case hd => rfl); (case hg => rfl); (case hr => first | (go_simp; done) | (go_simp; rfl)); intro gb307 hg w206 hbox hb; have n0_ := Aside0.mk (below_step (by repeat (first | (with_reducible first | exact HB.out | apply below_alloc | apply pw_below_drewN | apply below_drew1) | exact HB.out)) hb); have n1_ := Aside0.mk (hbox); have n2_ := Aside0.mk ((by rw [hg]; exact (below_size (by repeat (first | (with_reducible first | exact HB.out | apply below_alloc | apply pw_below_drewN | apply below_drew1) | exact HB.out))) : w.heap.size ≤ gb307)); have n3_ := Aside0.mk ((by rw [hg]; exact (below_size (by repeat (first | (with_reducible first | exact HB.out | apply below_alloc | apply pw_below_drewN | apply below_drew1) | exact HB.out))) : w.heap.size ≤ gb307)); clear HB; have HB := n0_; have BK307 := n1_; have GW307 := n2_; have GE307 := n3_; clear n0_ n1_ n2_ n3_; clear hb hbox hg) | ((with_reducible refine gate_dst (N := 9) rfl ?_); refine box_event ?hg (N := 9) ?hd (cs := #[.int .i64 a1_0, .int .i64 a1_1]) (t := 27) ?hr ?_; (case hd => rfl); (case hg => rfl); (case hr => first | (go_simp; done) | (go_simp; rfl)); intro gb308 hg w207 hbox hb; have n0_ := Aside0.mk (blk_below (g := gb307) (o := .cells #[.int .i64 a0_0, .int .i64 a0_1, .int .i64 a0_2, .int .i64 a0_3] 23 (0, 0)) (by (with_reducible repeat (first | apply blk_drewN | apply blk_drew | apply blk_alloc)); exact BK307.out) hb); have n1_ := Aside0.mk (below_step (by repeat (first | (with_reducible first | exact HB.out | apply below_alloc | apply pw_below_drewN | apply below_drew1 | refine below_set ?_ GE307.out) | exact HB.out)) hb); have n2_ := Aside0.mk (hbox); have n3_ := Aside0.mk ((by rw [hg]; exact (below_size (by repeat (first | (with_reducible first | exact HB.out | apply below_alloc | apply pw_below_drewN | apply below_drew1 | refine below_set ?_ GE307.out) | exact HB.out))) : w.heap.size ≤ gb308)); have n4_ := Aside0.mk ((by rw [hg]; exact (below_size (by repeat (first | (with_reducible first | exact HB.out | apply below_alloc | apply pw_below_drewN | apply below_drew1 | refine below_set ?_ GE307.out) | exact HB.out))) : w.heap.size ≤ gb308)); have n5_ := Aside0.mk ((by rw [hg]; exact Nat.ne_of_lt (blk_lt (g := gb307) (o := .cells #[.int .i64 a0_0, .int .i64 a0_1, .int .i64 a0_2, .int .i64 a0_3] 23 (0, 0)) (by (with_reducible repeat (first | apply blk_drewN | apply blk_drew | apply blk_alloc)); exact BK307.out)) : gb307 ≠ gb308)); have n6_ := Aside0.mk ((by rw [hg]; exact Nat.ne_of_gt (blk_lt (g := gb307) (o := .cells #[.int .i64 a0_0, .int .i64 a0_1, .int .i64 a0_2, .int .i64 a0_3] 23 (0, 0)) (by (with_reducible repeat (first | apply blk_drewN | apply blk_drew | apply blk_alloc)); exact BK307.out)) : gb308 ≠ gb307)); clear BK307; clear HB; have BK307 := n0_; have HB := n1_; have BK308 := n2_; have GW308 := n3_; have GE308 := n4_; have NB307_308 := n5_; have NB308_307 := n6_; clear n0_ n1_ n2_ n3_ n4_ n5_ n6_; clear hb hbox hg) | ((with_reducible refine gate_callee (f := 10) rfl ?_); refine goesL_ (some 41) rfl rfl Try.func10 (by kernel_rfl) rfl #[] rfl (by (try simp only [List.map_toArray, List.map_cons, List.map_nil]); first | done | rfl | (simp only [List.length_drop, List.length_take]; rfl)) ?_; (with_reducible refine (soundservicelaw18_sane.calls  false _ A9.out).mono ?_); rintro e w208 ⟨rfl, hb⟩; refine ⟨_, rfl, ?_⟩; have n0_ := Aside0.mk (blk_below (g := gb307) (o := .cells #[.int .i64 a0_0, .int .i64 a0_1, .int .i64 a0_2, .int .i64 a0_3] 23 (0, 0)) (by (with_reducible repeat (first | apply blk_drewN | apply blk_drew | apply blk_alloc)); exact BK307.out) hb); have n1_ := Aside0.mk (blk_below (g := gb308) (o := .cells #[.int .i64 a1_0, .int .i64 a1_1] 27 (0, 0)) (by (with_reducible repeat (first | apply blk_drewN | apply blk_drew | apply blk_alloc)); exact BK308.out) hb); have n2_ := Aside0.mk (below_step (by repeat (first | (with_reducible first | exact HB.out | apply below_alloc | apply pw_below_drewN | apply below_drew1 | refine below_set ?_ GE307.out | refine below_set ?_ GE308.out) | exact HB.out)) hb); clear BK307; clear BK308; clear HB; have BK307 := n0_; have BK308 := n1_; have HB := n2_; clear n0_ n1_ n2_; (try clear hb); (try clear hb2); (try clear hk); (try clear hi)))
  go_ret
  exact ⟨by first | rfl | (simp [errW_none, errW_some] <;> rfl) | (simp [*, errW_none, errW_some] <;> rfl), by repeat (first | (with_reducible first | exact HB.out | apply below_alloc | apply pw_below_drewN | apply below_drew1 | refine below_set ?_ GE307.out | refine below_set ?_ GE308.out) | exact HB.out)⟩

/-- THE ONE PURE STATEMENT of soundservicelaw18_ControlBounds: yours. -/
def soundservicelaw18_ControlBounds.Pure : Prop := ∀ (a0_0 : Int) (a0_1 : Int) (a0_2 : Int) (a0_3 : Int) (a1_0 : Int) (a1_1 : Int) (l2 : List Int) (a3 : Int) (a4 : Int) (a5 : Int) (a6 : Int) (a7 : Int), (Lit.int .i64 a0_0).wf = true → (Lit.int .i64 a0_1).wf = true → (Lit.int .i64 a0_2).wf = true → (Lit.int .i64 a0_3).wf = true → (Lit.int .i64 a1_0).wf = true → (Lit.int .i64 a1_1).wf = true → l2.length ≤ maxLen → l2.length * 1 ≤ 140737488351232 → (∀ x ∈ l2, (Lit.int .u8 x).wf = true) → (Lit.int .i64 a3).wf = true → (Lit.int .i64 a4).wf = true → (Lit.int .i64 a5).wf = true → (Lit.int .i64 a6).wf = true → (Lit.int .i64 a7).wf = true → ∃ k, soundservicelaw18_ControlBounds.f k a0_0 a0_1 a0_2 a0_3 a1_0 a1_1 l2 a3 a4 a5 a6 a7 = some true
theorem soundservicelaw18_ControlBounds.walk (P : soundservicelaw18_ControlBounds.Pure) (a0_0 : Int) (a0_1 : Int) (a0_2 : Int) (a0_3 : Int) (a1_0 : Int) (a1_1 : Int) (a2 : Option Addr) (len2 cap2 : Nat) (z2 : List Int) (a3 : Int) (a4 : Int) (a5 : Int) (a6 : Int) (a7 : Int) (w : World) (w0_0 : (Lit.int .i64 a0_0).wf = true) (w0_1 : (Lit.int .i64 a0_1).wf = true) (w0_2 : (Lit.int .i64 a0_2).wf = true) (w0_3 : (Lit.int .i64 a0_3).wf = true) (w1_0 : (Lit.int .i64 a1_0).wf = true) (w1_1 : (Lit.int .i64 a1_1).wf = true) (w2 : (a2 = none ∧ len2 = 0 ∧ cap2 = 0 ∧ z2 = []) ∨ ∃ x, a2 = some x ∧ len2 ≤ cap2 ∧ cap2 ≤ maxLen ∧ z2.length = cap2 ∧ (∀ i, i < z2.length → w.cell? (x.add i) = some (.int .u8 (z2.getD i 0))) ∧ ∀ n ∈ z2, (Lit.int .u8 n).wf = true) (y2 : len2 * 1 ≤ 140737488351232) (w3 : (Lit.int .i64 a3).wf = true) (w4 : (Lit.int .i64 a4).wf = true) (w5 : (Lit.int .i64 a5).wf = true) (w6 : (Lit.int .i64 a6).wf = true) (w7 : (Lit.int .i64 a7).wf = true) :
  Calls Try.prog 6 #[.agg #[.int .i64 a0_0, .int .i64 a0_1, .int .i64 a0_2, .int .i64 a0_3], .agg #[.int .i64 a1_0, .int .i64 a1_1], .slice a2 len2 cap2, .int .i64 a3, .int .i64 a4, .int .i64 a5, .int .i64 a6, .int .i64 a7] w fun e w' => e = .returned (.bool true) ∧ Below w.heap.size w w' := by
 obtain ⟨l2, rfl, hr2, hm2, hw2, hc2⟩ := ReadsInt.ofRowC w2
 obtain ⟨k, h⟩ := P a0_0 a0_1 a0_2 a0_3 a1_0 a1_1 l2 a3 a4 a5 a6 a7 w0_0 w0_1 w0_2 w0_3 w1_0 w1_1 hm2 y2 hw2 w3 w4 w5 w6 w7
 refine (soundservicelaw18_ControlBounds.calls k a0_0 a0_1 a0_2 a0_3 a1_0 a1_1 _ _ l2 a3 a4 a5 a6 a7 true w (Kd.C_of_reads (d := (0 : Int)) (h1 := fun _ => rfl) hr2) hc2 h).mono ?_
 rintro e w' ⟨rfl, hd⟩
 exact ⟨rfl, hd⟩

end Go.Proofs.Ytcnheiemajghiaa.PA
