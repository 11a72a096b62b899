/- Walks of functions of the program: each does what its Lean function says. Written by a program of this session (wip/xprint), which runs the printer of the kit with changes. -/
import Derived.Test.YtcnheiemajghiaaPAx0
import Derived.Test.YtcnheiemajghiaaPAx2
namespace Go.Proofs.Ytcnheiemajghiaa.PA
open Go.RowKit Go.Proofs.YtcnheiemajghiaaW.PrintWords Go.Proofs.YtcnheiemajghiaaW.PrintLast Go.Proofs.YtcnheiemajghiaaW.PrintMore
attribute [local go_sem] max2_int min2_int max_two min_two max_three min_three max_four min_four   -- for this text's walks alone
set_option linter.unusedVariables false
set_option linter.unusedSimpArgs false

/-! ### soundservicelaw18_made: function 11 -/
def soundservicelaw18_made.f (s0_0 : List Int) : Option (Int × Int × Int × Int × Int × Int × Int × Int × List Int) := (soundservicemade_Dice_Next.f s0_0 256).bind fun bt111 => ((soundservicemade_Dice_Next.f bt111.2 60).bind fun bt113 => ((soundservicemade_Dice_Next.f bt113.2 200).bind fun bt115 => ((some (([0, 100, 4096, 67] : List Int) : List Int)).bind fun y117 => ((soundservicemade_Dice_Next.f bt115.2 4).bind fun bt120 => (if 0 ≤ bt120.1 then (if bt120.1 < (y117.length : Int) then ((some (([(⟨64, 1⟩ : S27), (⟨294, 5⟩ : S27), (⟨1, 64⟩ : S27), (⟨1024, 3⟩ : S27)] : List (S27)) : List (S27))).bind fun y124 => ((soundservicemade_Dice_Next.f bt120.2 4).bind fun bt127 => (if 0 ≤ bt127.1 then (if bt127.1 < (y124.length : Int) then ((some (([0, 66, 100, 4096, 2000] : List Int) : List Int)).bind fun y130 => ((soundservicemade_Dice_Next.f bt127.2 5).bind fun bt133 => (if 0 ≤ bt133.1 then (if bt133.1 < (y130.length : Int) then ((soundservicemade_Dice_Next.f bt133.2 20).bind fun bt136 => (some (wrap64 (bt111.1 * 8), bt113.1, wrap64 (1 + bt115.1), rd y117 bt120.1, (rd_T27 y124 bt127.1).f0, (rd_T27 y124 bt127.1).f1, rd y130 bt133.1, bt136.1, bt136.2))) else (none)) else (none)))) else (none)) else (none)))) else (none)) else (none))))))
def soundservicelaw18_made.T2 : Bool × List (List Nat × List Nat) := (true, [([], []), ([], []), ([], []), ([], []), ([], []), ([1, 2, 3, 4], [1, 2, 3, 4]), ([], []), ([6], [6]), ([5, 7], [5, 7]), ([8], [8]), ([], []), ([], []), ([11, 7], [11]), ([10, 12], [10, 12]), ([13], [13]), ([], []), ([15, 12], [15]), ([0, 16, 0], [0]), ([9, 17, 0, 1, 2, 3, 4, 5, 6, 7, 8, 9, 17], [9]), ([14, 18, 0, 1, 2, 3, 4, 5, 6, 7, 8, 9, 10, 11, 12, 13, 14, 17, 18], [14]), ([16, 19, 0, 1, 2, 3, 4, 5, 6, 7, 8, 9, 10, 11, 12, 13, 14, 15, 16, 17, 18, 19], [16])])
def soundservicelaw18_made.B2 : List Nat := [0, 0, 0, 0, 0, 30, 0, 64, 254, 510, 0, 0, 2240, 7360, 15552, 0, 39104, 104641, 236543, 524287, 1048575]
theorem soundservicelaw18_made.tab2 : rtab .any (opsOf Try.f11 2) = soundservicelaw18_made.T2 := by kernel_rfl
theorem soundservicelaw18_made.bits2 : waitsOk soundservicelaw18_made.T2.2 soundservicelaw18_made.B2 = true := by kernel_rfl
abbrev soundservicelaw18_made.q0 : Array Bool := #[false, false, false, false, false, false, false, false, false, false, false, false, false, false, false, false, false, false, false, false, false]
abbrev soundservicelaw18_made.q1 : Array Bool := #[false, false, false, false, false, false, true, false, false, false, false, false, false, false, false, false, false, false, false, false, false]
abbrev soundservicelaw18_made.q2 : Array Bool := #[false, false, false, false, false, false, true, false, false, false, false, true, false, false, false, false, false, false, false, false, false]
abbrev soundservicelaw18_made.q3 : Array Bool := #[false, false, false, false, false, false, true, false, false, false, false, true, false, false, false, true, false, false, false, false, false]
set_option maxHeartbeats 8000000 in
set_option maxRecDepth 100000 in
theorem soundservicelaw18_made.calls (g : Nat) (s0_0 : List Int) (r1 : Int) (r2 : Int) (r3 : Int) (r4 : Int) (r5 : Int) (r6 : Int) (r7 : Int) (r8 : Int) (r9 : List Int) (w0 w : World) (hI : IsS59 w0 w g s0_0) (hB : Below w0.heap.size w0 w) (h : soundservicelaw18_made.f s0_0 = some (r1, r2, r3, r4, r5, r6, r7, r8, r9)) :
  Calls Try.prog 11 #[.pointer (some ⟨g, 0, none⟩)] w fun e w' => e = .returned (.tuple #[.agg #[.int .i64 r1, .int .i64 r2, .int .i64 r3, .int .i64 r4], .agg #[.int .i64 r5, .int .i64 r6], .int .i64 r7, .int .i64 r8]) ∧ IsS59 w0 w' g r9 ∧ Below w0.heap.size w0 w' ∧ KeepBut w w' g none := by
 have hu23 := Try.underlying23
 have hu27 := Try.underlying27
 have HI0 := Am hI
 have HK := Am (KeepBut.refl w g none)
 have HL := Am hB.size
 clear hI
 have HW0 := Am hB.size
 have HB := Am hB
 clear hB
 have H : ((soundservicemade_Dice_Next.f s0_0 256).bind fun bt111 => ((soundservicemade_Dice_Next.f bt111.2 60).bind fun bt113 => ((soundservicemade_Dice_Next.f bt113.2 200).bind fun bt115 => ((some (([0, 100, 4096, 67] : List Int) : List Int)).bind fun y117 => ((soundservicemade_Dice_Next.f bt115.2 4).bind fun bt120 => (if 0 ≤ bt120.1 then (if bt120.1 < (y117.length : Int) then ((some (([(⟨64, 1⟩ : S27), (⟨294, 5⟩ : S27), (⟨1, 64⟩ : S27), (⟨1024, 3⟩ : S27)] : List (S27)) : List (S27))).bind fun y124 => ((soundservicemade_Dice_Next.f bt120.2 4).bind fun bt127 => (if 0 ≤ bt127.1 then (if bt127.1 < (y124.length : Int) then ((some (([0, 66, 100, 4096, 2000] : List Int) : List Int)).bind fun y130 => ((soundservicemade_Dice_Next.f bt127.2 5).bind fun bt133 => (if 0 ≤ bt133.1 then (if bt133.1 < (y130.length : Int) then ((soundservicemade_Dice_Next.f bt133.2 20).bind fun bt136 => (some (wrap64 (bt111.1 * 8), bt113.1, wrap64 (1 + bt115.1), rd y117 bt120.1, (rd_T27 y124 bt127.1).f0, (rd_T27 y124 bt127.1).f1, rd y130 bt133.1, bt136.1, bt136.2))) else (none)) else (none)))) else (none)) else (none)))) else (none)) else (none))))))) = some (r1, r2, r3, r4, r5, r6, r7, r8, r9) := h
 clear h
 replace H := Option.bind_eq_some_iff.mp H
 obtain ⟨⟨t111, t112⟩, A20, H⟩ := H
 replace H : ((soundservicemade_Dice_Next.f t112 60).bind fun bt113 => ((soundservicemade_Dice_Next.f bt113.2 200).bind fun bt115 => ((some (([0, 100, 4096, 67] : List Int) : List Int)).bind fun y117 => ((soundservicemade_Dice_Next.f bt115.2 4).bind fun bt120 => (if 0 ≤ bt120.1 then (if bt120.1 < (y117.length : Int) then ((some (([(⟨64, 1⟩ : S27), (⟨294, 5⟩ : S27), (⟨1, 64⟩ : S27), (⟨1024, 3⟩ : S27)] : List (S27)) : List (S27))).bind fun y124 => ((soundservicemade_Dice_Next.f bt120.2 4).bind fun bt127 => (if 0 ≤ bt127.1 then (if bt127.1 < (y124.length : Int) then ((some (([0, 66, 100, 4096, 2000] : List Int) : List Int)).bind fun y130 => ((soundservicemade_Dice_Next.f bt127.2 5).bind fun bt133 => (if 0 ≤ bt133.1 then (if bt133.1 < (y130.length : Int) then ((soundservicemade_Dice_Next.f bt133.2 20).bind fun bt136 => (some (wrap64 (t111 * 8), bt113.1, wrap64 (1 + bt115.1), rd y117 bt120.1, (rd_T27 y124 bt127.1).f0, (rd_T27 y124 bt127.1).f1, rd y130 bt133.1, bt136.1, bt136.2))) else (none)) else (none)))) else (none)) else (none)))) else (none)) else (none)))))) = some (r1, r2, r3, r4, r5, r6, r7, r8, r9) := H
 have A2 := Am A20
 clear A20
 replace H := Option.bind_eq_some_iff.mp H
 obtain ⟨⟨t113, t114⟩, A30, H⟩ := H
 replace H : ((soundservicemade_Dice_Next.f t114 200).bind fun bt115 => ((some (([0, 100, 4096, 67] : List Int) : List Int)).bind fun y117 => ((soundservicemade_Dice_Next.f bt115.2 4).bind fun bt120 => (if 0 ≤ bt120.1 then (if bt120.1 < (y117.length : Int) then ((some (([(⟨64, 1⟩ : S27), (⟨294, 5⟩ : S27), (⟨1, 64⟩ : S27), (⟨1024, 3⟩ : S27)] : List (S27)) : List (S27))).bind fun y124 => ((soundservicemade_Dice_Next.f bt120.2 4).bind fun bt127 => (if 0 ≤ bt127.1 then (if bt127.1 < (y124.length : Int) then ((some (([0, 66, 100, 4096, 2000] : List Int) : List Int)).bind fun y130 => ((soundservicemade_Dice_Next.f bt127.2 5).bind fun bt133 => (if 0 ≤ bt133.1 then (if bt133.1 < (y130.length : Int) then ((soundservicemade_Dice_Next.f bt133.2 20).bind fun bt136 => (some (wrap64 (t111 * 8), t113, wrap64 (1 + bt115.1), rd y117 bt120.1, (rd_T27 y124 bt127.1).f0, (rd_T27 y124 bt127.1).f1, rd y130 bt133.1, bt136.1, bt136.2))) else (none)) else (none)))) else (none)) else (none)))) else (none)) else (none))))) = some (r1, r2, r3, r4, r5, r6, r7, r8, r9) := H
 have A3 := Am A30
 clear A30
 replace H := Option.bind_eq_some_iff.mp H
 obtain ⟨⟨t115, t116⟩, A40, H⟩ := H
 replace H : ((some (([0, 100, 4096, 67] : List Int) : List Int)).bind fun y117 => ((soundservicemade_Dice_Next.f t116 4).bind fun bt120 => (if 0 ≤ bt120.1 then (if bt120.1 < (y117.length : Int) then ((some (([(⟨64, 1⟩ : S27), (⟨294, 5⟩ : S27), (⟨1, 64⟩ : S27), (⟨1024, 3⟩ : S27)] : List (S27)) : List (S27))).bind fun y124 => ((soundservicemade_Dice_Next.f bt120.2 4).bind fun bt127 => (if 0 ≤ bt127.1 then (if bt127.1 < (y124.length : Int) then ((some (([0, 66, 100, 4096, 2000] : List Int) : List Int)).bind fun y130 => ((soundservicemade_Dice_Next.f bt127.2 5).bind fun bt133 => (if 0 ≤ bt133.1 then (if bt133.1 < (y130.length : Int) then ((soundservicemade_Dice_Next.f bt133.2 20).bind fun bt136 => (some (wrap64 (t111 * 8), t113, wrap64 (1 + t115), rd y117 bt120.1, (rd_T27 y124 bt127.1).f0, (rd_T27 y124 bt127.1).f1, rd y130 bt133.1, bt136.1, bt136.2))) else (none)) else (none)))) else (none)) else (none)))) else (none)) else (none)))) = some (r1, r2, r3, r4, r5, r6, r7, r8, r9) := H
 have A4 := Am A40
 clear A40
 obtain ⟨y117, hy117⟩ : ∃ y_ : List Int, y_ = (([0, 100, 4096, 67] : List Int)) := ⟨_, rfl⟩
 replace H : ((soundservicemade_Dice_Next.f t116 4).bind fun bt120 => (if 0 ≤ bt120.1 then (if bt120.1 < (y117.length : Int) then ((some (([(⟨64, 1⟩ : S27), (⟨294, 5⟩ : S27), (⟨1, 64⟩ : S27), (⟨1024, 3⟩ : S27)] : List (S27)) : List (S27))).bind fun y124 => ((soundservicemade_Dice_Next.f bt120.2 4).bind fun bt127 => (if 0 ≤ bt127.1 then (if bt127.1 < (y124.length : Int) then ((some (([0, 66, 100, 4096, 2000] : List Int) : List Int)).bind fun y130 => ((soundservicemade_Dice_Next.f bt127.2 5).bind fun bt133 => (if 0 ≤ bt133.1 then (if bt133.1 < (y130.length : Int) then ((soundservicemade_Dice_Next.f bt133.2 20).bind fun bt136 => (some (wrap64 (t111 * 8), t113, wrap64 (1 + t115), rd y117 bt120.1, (rd_T27 y124 bt127.1).f0, (rd_T27 y124 bt127.1).f1, rd y130 bt133.1, bt136.1, bt136.2))) else (none)) else (none)))) else (none)) else (none)))) else (none)) else (none))) = some (r1, r2, r3, r4, r5, r6, r7, r8, r9) := by first | (rw [hy117]; with_reducible exact H) | (have H2_ := (Option.bind_some _ _).symm.trans H; rw [hy117]; with_reducible exact H2_) | (have H2_ := (Option.bind_some _ _).symm.trans H; with_reducible exact H2_) | with_reducible exact H | (rw [hy117]; exact H) | exact H
 have Ny117 := Am hy117
 clear hy117
 replace H := Option.bind_eq_some_iff.mp H
 obtain ⟨⟨t120, t121⟩, A50, H⟩ := H
 replace H : (if 0 ≤ t120 then (if t120 < (y117.length : Int) then ((some (([(⟨64, 1⟩ : S27), (⟨294, 5⟩ : S27), (⟨1, 64⟩ : S27), (⟨1024, 3⟩ : S27)] : List (S27)) : List (S27))).bind fun y124 => ((soundservicemade_Dice_Next.f t121 4).bind fun bt127 => (if 0 ≤ bt127.1 then (if bt127.1 < (y124.length : Int) then ((some (([0, 66, 100, 4096, 2000] : List Int) : List Int)).bind fun y130 => ((soundservicemade_Dice_Next.f bt127.2 5).bind fun bt133 => (if 0 ≤ bt133.1 then (if bt133.1 < (y130.length : Int) then ((soundservicemade_Dice_Next.f bt133.2 20).bind fun bt136 => (some (wrap64 (t111 * 8), t113, wrap64 (1 + t115), rd y117 t120, (rd_T27 y124 bt127.1).f0, (rd_T27 y124 bt127.1).f1, rd y130 bt133.1, bt136.1, bt136.2))) else (none)) else (none)))) else (none)) else (none)))) else (none)) else (none)) = some (r1, r2, r3, r4, r5, r6, r7, r8, r9) := H
 have A5 := Am A50
 clear A50
 by_cases c6 : 0 ≤ t120
 ·rw [if_pos c6] at H
  have c6b0 : decide (0 ≤ t120) = true := decide_eq_true c6
  clear c6
  by_cases c7 : t120 < (y117.length : Int)
  ·rw [if_pos c7] at H
   have c7b0 : decide (t120 < (y117.length : Int)) = true := decide_eq_true c7
   clear c7
   obtain ⟨y124, hy124⟩ : ∃ y_ : List (S27), y_ = (([(⟨64, 1⟩ : S27), (⟨294, 5⟩ : S27), (⟨1, 64⟩ : S27), (⟨1024, 3⟩ : S27)] : List (S27))) := ⟨_, rfl⟩
   replace H : ((soundservicemade_Dice_Next.f t121 4).bind fun bt127 => (if 0 ≤ bt127.1 then (if bt127.1 < (y124.length : Int) then ((some (([0, 66, 100, 4096, 2000] : List Int) : List Int)).bind fun y130 => ((soundservicemade_Dice_Next.f bt127.2 5).bind fun bt133 => (if 0 ≤ bt133.1 then (if bt133.1 < (y130.length : Int) then ((soundservicemade_Dice_Next.f bt133.2 20).bind fun bt136 => (some (wrap64 (t111 * 8), t113, wrap64 (1 + t115), rd y117 t120, (rd_T27 y124 bt127.1).f0, (rd_T27 y124 bt127.1).f1, rd y130 bt133.1, bt136.1, bt136.2))) else (none)) else (none)))) else (none)) else (none))) = some (r1, r2, r3, r4, r5, r6, r7, r8, r9) := by first | (rw [hy124]; with_reducible exact H) | (have H2_ := (Option.bind_some _ _).symm.trans H; rw [hy124]; with_reducible exact H2_) | (have H2_ := (Option.bind_some _ _).symm.trans H; with_reducible exact H2_) | with_reducible exact H | (rw [hy124]; exact H) | exact H
   have Ny124 := Am hy124
   clear hy124
   replace H := Option.bind_eq_some_iff.mp H
   obtain ⟨⟨t127, t128⟩, A80, H⟩ := H
   replace H : (if 0 ≤ t127 then (if t127 < (y124.length : Int) then ((some (([0, 66, 100, 4096, 2000] : List Int) : List Int)).bind fun y130 => ((soundservicemade_Dice_Next.f t128 5).bind fun bt133 => (if 0 ≤ bt133.1 then (if bt133.1 < (y130.length : Int) then ((soundservicemade_Dice_Next.f bt133.2 20).bind fun bt136 => (some (wrap64 (t111 * 8), t113, wrap64 (1 + t115), rd y117 t120, (rd_T27 y124 t127).f0, (rd_T27 y124 t127).f1, rd y130 bt133.1, bt136.1, bt136.2))) else (none)) else (none)))) else (none)) else (none)) = some (r1, r2, r3, r4, r5, r6, r7, r8, r9) := H
   have A8 := Am A80
   clear A80
   by_cases c9 : 0 ≤ t127
   ·rw [if_pos c9] at H
    have c9b0 : decide (0 ≤ t127) = true := decide_eq_true c9
    clear c9
    by_cases c10 : t127 < (y124.length : Int)
    ·rw [if_pos c10] at H
     have c10b0 : decide (t127 < (y124.length : Int)) = true := decide_eq_true c10
     clear c10
     obtain ⟨y130, hy130⟩ : ∃ y_ : List Int, y_ = (([0, 66, 100, 4096, 2000] : List Int)) := ⟨_, rfl⟩
     replace H : ((soundservicemade_Dice_Next.f t128 5).bind fun bt133 => (if 0 ≤ bt133.1 then (if bt133.1 < (y130.length : Int) then ((soundservicemade_Dice_Next.f bt133.2 20).bind fun bt136 => (some (wrap64 (t111 * 8), t113, wrap64 (1 + t115), rd y117 t120, (rd_T27 y124 t127).f0, (rd_T27 y124 t127).f1, rd y130 bt133.1, bt136.1, bt136.2))) else (none)) else (none))) = some (r1, r2, r3, r4, r5, r6, r7, r8, r9) := by first | (rw [hy130]; with_reducible exact H) | (have H2_ := (Option.bind_some _ _).symm.trans H; rw [hy130]; with_reducible exact H2_) | (have H2_ := (Option.bind_some _ _).symm.trans H; with_reducible exact H2_) | with_reducible exact H | (rw [hy130]; exact H) | exact H
     have Ny130 := Am hy130
     clear hy130
     replace H := Option.bind_eq_some_iff.mp H
     obtain ⟨⟨t133, t134⟩, A110, H⟩ := H
     replace H : (if 0 ≤ t133 then (if t133 < (y130.length : Int) then ((soundservicemade_Dice_Next.f t134 20).bind fun bt136 => (some (wrap64 (t111 * 8), t113, wrap64 (1 + t115), rd y117 t120, (rd_T27 y124 t127).f0, (rd_T27 y124 t127).f1, rd y130 t133, bt136.1, bt136.2))) else (none)) else (none)) = some (r1, r2, r3, r4, r5, r6, r7, r8, r9) := H
     have A11 := Am A110
     clear A110
     by_cases c12 : 0 ≤ t133
     ·rw [if_pos c12] at H
      have c12b0 : decide (0 ≤ t133) = true := decide_eq_true c12
      clear c12
      by_cases c13 : t133 < (y130.length : Int)
      ·rw [if_pos c13] at H
       have c13b0 : decide (t133 < (y130.length : Int)) = true := decide_eq_true c13
       clear c13
       replace H := Option.bind_eq_some_iff.mp H
       obtain ⟨⟨t136, t137⟩, A140, H⟩ := H
       replace H : (some (wrap64 (t111 * 8), t113, wrap64 (1 + t115), rd y117 t120, (rd_T27 y124 t127).f0, (rd_T27 y124 t127).f1, rd y130 t133, t136, t137)) = some (r1, r2, r3, r4, r5, r6, r7, r8, r9) := H
       have A14 := Am A140
       clear A140
       simp only [Option.some.injEq, Prod.mk.injEq] at H
       obtain ⟨rfl, rfl, rfl, rfl, rfl, rfl, rfl, rfl, rfl⟩ := H
       go_enter Try.func11, Try.ntmps11
       try go_wp2_with (first | ((with_reducible refine gate_dst (N := 2) rfl ?_); refine box_event ?hg (N := 2) ?hd (cs := #[.int .i64 0, .int .i64 0, .int .i64 0, .int .i64 0]) (t := 23) ?hr ?_; (case hd => rfl); (case hg => rfl); (case hr => first | (go_simp; done) | (go_simp; rfl)); intro gb109 hg w15 hbox hb; have n0_ := Am (IsS59.below (by repeat (first | (with_reducible first | exact HI0.out | apply IsS59.alloc | apply IsS59.drewN | apply IsS59.drew) | exact HI0.out)) hb); have n1_ := Am (KeepBut.trans (by repeat (first | (with_reducible first | exact HK.out | apply KeepBut.set_ | apply keep_drewN | apply keep_drew | apply keep_alloc) | exact HK.out)) (KeepBut.of_below hb g none) (.inl rfl)); have n2_ := Am (below_step (by repeat (first | (with_reducible first | exact HB.out | apply bA | apply bN | apply bD | refine bS ?_ (IsS59.ge HI0.out)) | exact HB.out)) hb); have n3_ := Am (hbox); have n4_ := Am ((by rw [hg]; exact (keep_size (w := w) (g := g) (row := none) (by repeat (first | (with_reducible first | exact HK.out | apply KeepBut.set_ | apply keep_drewN | apply keep_drew | apply keep_alloc) | exact HK.out))) : w.heap.size ≤ gb109)); have n5_ := Am ((Nat.le_trans HW0.out (by rw [hg]; exact (keep_size (w := w) (g := g) (row := none) (by repeat (first | (with_reducible first | exact HK.out | apply KeepBut.set_ | apply keep_drewN | apply keep_drew | apply keep_alloc) | exact HK.out))) : w.heap.size ≤ gb109) : w0.heap.size ≤ gb109)); have n6_ := Am ((by rw [hg]; exact Nat.ne_of_lt (IsS59.lt (show IsS59 w0 _ g s0_0 from by repeat (first | (with_reducible first | exact HI0.out | apply IsS59.alloc | apply IsS59.drewN | apply IsS59.drew) | exact HI0.out))) : g ≠ gb109)); have n7_ := Am ((by rw [hg]; exact Nat.ne_of_gt (IsS59.lt (show IsS59 w0 _ g s0_0 from by repeat (first | (with_reducible first | exact HI0.out | apply IsS59.alloc | apply IsS59.drewN | apply IsS59.drew) | exact HI0.out))) : gb109 ≠ g)); clear HI0 HK HB; have HI0 := n0_; have HK := n1_; have HB := n2_; have BK109 := n3_; have GW109 := n4_; have GE109 := n5_; have NB0_109 := n6_; have NB109_0 := n7_; clear n0_ n1_ n2_ n3_ n4_ n5_ n6_ n7_ hb hbox hg) | ((with_reducible refine gate_dst (N := 3) rfl ?_); refine box_event ?hg (N := 3) ?hd (cs := #[.int .i64 0, .int .i64 0]) (t := 27) ?hr ?_; (case hd => rfl); (case hg => rfl); (case hr => first | (go_simp; done) | (go_simp; rfl)); intro gb110 hg w16 hbox hb; have n0_ := Am (IsS59.below (by repeat (first | (with_reducible first | exact HI0.out | apply IsS59.alloc | apply IsS59.drewN | apply IsS59.drew | refine IsS59.far ?_ NB0_109.out _) | exact HI0.out)) hb); have n1_ := Am (blk_below (g := gb109) (o := .cells #[.int .i64 0, .int .i64 0, .int .i64 0, .int .i64 0] 23 (0, 0)) (by (with_reducible repeat (first | apply kN | apply kD | apply kA)); exact BK109.out) hb); have n2_ := Am (KeepBut.trans (by repeat (first | (with_reducible first | exact HK.out | apply KeepBut.set_ | apply keep_drewN | apply keep_drew | apply keep_alloc | refine keep_far ?_ GW109.out _) | exact HK.out)) (KeepBut.of_below hb g none) (.inl rfl)); have n3_ := Am (below_step (by repeat (first | (with_reducible first | exact HB.out | apply bA | apply bN | apply bD | refine bS ?_ (IsS59.ge HI0.out) | refine bS ?_ GE109.out) | exact HB.out)) hb); have n4_ := Am (hbox); have n5_ := Am ((by rw [hg]; exact (keep_size (w := w) (g := g) (row := none) (by repeat (first | (with_reducible first | exact HK.out | apply KeepBut.set_ | apply keep_drewN | apply keep_drew | apply keep_alloc | refine keep_far ?_ GW109.out _) | exact HK.out))) : w.heap.size ≤ gb110)); have n6_ := Am ((Nat.le_trans HW0.out (by rw [hg]; exact (keep_size (w := w) (g := g) (row := none) (by repeat (first | (with_reducible first | exact HK.out | apply KeepBut.set_ | apply keep_drewN | apply keep_drew | apply keep_alloc | refine keep_far ?_ GW109.out _) | exact HK.out))) : w.heap.size ≤ gb110) : w0.heap.size ≤ gb110)); have n7_ := Am ((by rw [hg]; exact Nat.ne_of_lt (blk_lt (g := gb109) (o := .cells #[.int .i64 0, .int .i64 0, .int .i64 0, .int .i64 0] 23 (0, 0)) (by (with_reducible repeat (first | apply kN | apply kD | apply kA)); exact BK109.out)) : gb109 ≠ gb110)); have n8_ := Am ((by rw [hg]; exact Nat.ne_of_gt (blk_lt (g := gb109) (o := .cells #[.int .i64 0, .int .i64 0, .int .i64 0, .int .i64 0] 23 (0, 0)) (by (with_reducible repeat (first | apply kN | apply kD | apply kA)); exact BK109.out)) : gb110 ≠ gb109)); have n9_ := Am ((by rw [hg]; exact Nat.ne_of_lt (IsS59.lt (show IsS59 w0 _ g s0_0 from by repeat (first | (with_reducible first | exact HI0.out | apply IsS59.alloc | apply IsS59.drewN | apply IsS59.drew | refine IsS59.far ?_ NB0_109.out _) | exact HI0.out))) : g ≠ gb110)); have n10_ := Am ((by rw [hg]; exact Nat.ne_of_gt (IsS59.lt (show IsS59 w0 _ g s0_0 from by repeat (first | (with_reducible first | exact HI0.out | apply IsS59.alloc | apply IsS59.drewN | apply IsS59.drew | refine IsS59.far ?_ NB0_109.out _) | exact HI0.out))) : gb110 ≠ g)); clear HI0 BK109 HK HB; have HI0 := n0_; have BK109 := n1_; have HK := n2_; have HB := n3_; have BK110 := n4_; have GW110 := n5_; have GE110 := n6_; have NB109_110 := n7_; have NB110_109 := n8_; have NB0_110 := n9_; have NB110_0 := n10_; clear n0_ n1_ n2_ n3_ n4_ n5_ n6_ n7_ n8_ n9_ n10_ hb hbox hg) | ((with_reducible refine gate_callee (f := 23) rfl ?_); refine goesL_ (some 8) rfl rfl Try.func23 (by kernel_rfl) rfl #[.pointer (some ⟨g, 0, none⟩), .int .i64 256] rfl (by (try simp only [List.map_toArray, List.map_cons, List.map_nil]); first | done | rfl | (simp only [List.length_drop, List.length_take]; rfl)) ?_; (with_reducible refine (soundservicemade_Dice_Next.calls g s0_0 256 t111 t112 w0 _ ?side1 ?side2 A2.out).mono ?_); (case side1 => repeat (first | (with_reducible first | exact HI0.out | apply IsS59.alloc | apply IsS59.drewN | apply IsS59.drew | refine IsS59.far ?_ NB0_109.out _ | refine IsS59.far ?_ NB0_110.out _) | exact HI0.out)); (case side2 => repeat (first | (with_reducible first | exact HB.out | apply bA | apply bN | apply bD | refine bS ?_ (IsS59.ge HI0.out) | refine bS ?_ GE109.out | refine bS ?_ GE110.out) | exact HB.out)); rintro e w17 ⟨rfl, hi, hb, hk⟩; refine ⟨_, rfl, ?_⟩; have n0_ := Am (KeepBut.blk hk (g' := gb109) (o := .cells #[.int .i64 0, .int .i64 0, .int .i64 0, .int .i64 0] 23 (0, 0)) (by (with_reducible repeat (first | apply kN | apply kD | apply kA)); exact BK109.out) NB109_0.out (by simp)); have n1_ := Am (KeepBut.blk hk (g' := gb110) (o := .cells #[.int .i64 0, .int .i64 0] 27 (0, 0)) (by (with_reducible repeat (first | apply kN | apply kD | apply kA)); exact BK110.out) NB110_0.out (by simp)); have n2_ := Am (KeepBut.trans (by repeat (first | (with_reducible first | exact HK.out | apply KeepBut.set_ | apply keep_drewN | apply keep_drew | apply keep_alloc | refine keep_far ?_ GW109.out _ | refine keep_far ?_ GW110.out _) | exact HK.out)) hk (.inl rfl)); have n3_ := Am (hb); have n4_ := Am (hi); clear BK109 BK110 HK HB HI0; have BK109 := n0_; have BK110 := n1_; have HK := n2_; have HB := n3_; have HI0 := n4_; clear n0_ n1_ n2_ n3_ n4_; (try clear hb); (try clear hb2); (try clear hk); (try clear hi)) | ((with_reducible refine gate_callee (f := 23) rfl ?_); refine goesL_ (some 11) rfl rfl Try.func23 (by kernel_rfl) rfl #[.pointer (some ⟨g, 0, none⟩), .int .i64 60] rfl (by (try simp only [List.map_toArray, List.map_cons, List.map_nil]); first | done | rfl | (simp only [List.length_drop, List.length_take]; rfl)) ?_; (with_reducible refine (soundservicemade_Dice_Next.calls g t112 60 t113 t114 w0 _ ?side1 ?side2 A3.out).mono ?_); (case side1 => repeat (first | (with_reducible first | exact HI0.out | apply IsS59.alloc | apply IsS59.drewN | apply IsS59.drew | refine IsS59.far ?_ NB0_109.out _ | refine IsS59.far ?_ NB0_110.out _) | exact HI0.out)); (case side2 => repeat (first | (with_reducible first | exact HB.out | apply bA | apply bN | apply bD | refine bS ?_ (IsS59.ge HI0.out) | refine bS ?_ GE109.out | refine bS ?_ GE110.out) | exact HB.out)); rintro e w18 ⟨rfl, hi, hb, hk⟩; refine ⟨_, rfl, ?_⟩; have n0_ := Am (KeepBut.blk hk (g' := gb109) (o := .cells #[.int .i64 0, .int .i64 0, .int .i64 0, .int .i64 0] 23 (0, 0)) (by (with_reducible repeat (first | apply kN | apply kD | apply kA)); exact BK109.out) NB109_0.out (by simp)); have n1_ := Am (KeepBut.blk hk (g' := gb110) (o := .cells #[.int .i64 0, .int .i64 0] 27 (0, 0)) (by (with_reducible repeat (first | apply kN | apply kD | apply kA)); exact BK110.out) NB110_0.out (by simp)); have n2_ := Am (KeepBut.trans (by repeat (first | (with_reducible first | exact HK.out | apply KeepBut.set_ | apply keep_drewN | apply keep_drew | apply keep_alloc | refine keep_far ?_ GW109.out _ | refine keep_far ?_ GW110.out _) | exact HK.out)) hk (.inl rfl)); have n3_ := Am (hb); have n4_ := Am (hi); clear BK109 BK110 HK HB HI0; have BK109 := n0_; have BK110 := n1_; have HK := n2_; have HB := n3_; have HI0 := n4_; clear n0_ n1_ n2_ n3_ n4_; (try clear hb); (try clear hb2); (try clear hk); (try clear hi)) | ((with_reducible refine gate_callee (f := 23) rfl ?_); refine goesL_ (some 13) rfl rfl Try.func23 (by kernel_rfl) rfl #[.pointer (some ⟨g, 0, none⟩), .int .i64 200] rfl (by (try simp only [List.map_toArray, List.map_cons, List.map_nil]); first | done | rfl | (simp only [List.length_drop, List.length_take]; rfl)) ?_; (with_reducible refine (soundservicemade_Dice_Next.calls g t114 200 t115 t116 w0 _ ?side1 ?side2 A4.out).mono ?_); (case side1 => repeat (first | (with_reducible first | exact HI0.out | apply IsS59.alloc | apply IsS59.drewN | apply IsS59.drew | refine IsS59.far ?_ NB0_109.out _ | refine IsS59.far ?_ NB0_110.out _) | exact HI0.out)); (case side2 => repeat (first | (with_reducible first | exact HB.out | apply bA | apply bN | apply bD | refine bS ?_ (IsS59.ge HI0.out) | refine bS ?_ GE109.out | refine bS ?_ GE110.out) | exact HB.out)); rintro e w19 ⟨rfl, hi, hb, hk⟩; refine ⟨_, rfl, ?_⟩; have n0_ := Am (KeepBut.blk hk (g' := gb109) (o := .cells #[.int .i64 0, .int .i64 0, .int .i64 0, .int .i64 0] 23 (0, 0)) (by (with_reducible repeat (first | apply kN | apply kD | apply kA)); exact BK109.out) NB109_0.out (by simp)); have n1_ := Am (KeepBut.blk hk (g' := gb110) (o := .cells #[.int .i64 0, .int .i64 0] 27 (0, 0)) (by (with_reducible repeat (first | apply kN | apply kD | apply kA)); exact BK110.out) NB110_0.out (by simp)); have n2_ := Am (KeepBut.trans (by repeat (first | (with_reducible first | exact HK.out | apply KeepBut.set_ | apply keep_drewN | apply keep_drew | apply keep_alloc | refine keep_far ?_ GW109.out _ | refine keep_far ?_ GW110.out _) | exact HK.out)) hk (.inl rfl)); have n3_ := Am (hb); have n4_ := Am (hi); clear BK109 BK110 HK HB HI0; have BK109 := n0_; have BK110 := n1_; have HK := n2_; have HB := n3_; have HI0 := n4_; clear n0_ n1_ n2_ n3_ n4_; (try clear hb); (try clear hb2); (try clear hk); (try clear hi)) | ((with_reducible refine gate_dst (N := 15) rfl ?_); refine Kd.R_lit (Kd.int .i64) _ 3 ?hg (N := 15) ?hd (xs := ([0, 100, 4096, 67] : List Int)) (inner := [.int .i64 0, .int .i64 100, .int .i64 4096, .int .i64 67]) (ok := fun _ => True) (okp := fun _ => True) ?hr ?hp (fun _ hk => hk) trivial (Below.refl _ _) (Nat.le_refl _) (by simp) ?_; (case hd => rfl); (case hg => rfl); (case hr => first | (go_simp; done) | (go_simp; rfl)); (case hp => exact (Reps.one (show Kd.M (Kd.int .i64) _ _ _ 0 [.int .i64 0] from rfl) (Reps.one (show Kd.M (Kd.int .i64) _ _ _ 100 [.int .i64 100] from rfl) (Reps.one (show Kd.M (Kd.int .i64) _ _ _ 4096 [.int .i64 4096] from rfl) (Reps.one (show Kd.M (Kd.int .i64) _ _ _ 67 [.int .i64 67] from rfl) (Reps.none _ _)))))); intro v118 w20 ho21 hb hg_ hnew_; clear hg_ hnew_; (first | rw [← Ny117.out] at ho21 | (simp only [Int.reduceToNat] at ho21; rw [← Ny117.out] at ho21)); have n0_ := Am (Kd.R_lower ho21 (keep_size (w := w) (g := g) (row := none) (by repeat (first | (with_reducible first | exact HK.out | apply KeepBut.set_ | apply keep_drewN | apply keep_drew | apply keep_alloc | refine keep_far ?_ GW109.out _ | refine keep_far ?_ GW110.out _) | exact HK.out)))); have n1_ := Am (IsS59.below (by repeat (first | (with_reducible first | exact HI0.out | apply IsS59.alloc | apply IsS59.drewN | apply IsS59.drew | refine IsS59.far ?_ NB0_109.out _ | refine IsS59.far ?_ NB0_110.out _) | exact HI0.out)) hb); have n2_ := Am (blk_below (g := gb109) (o := .cells #[.int .i64 0, .int .i64 0, .int .i64 0, .int .i64 0] 23 (0, 0)) (by (with_reducible repeat (first | apply kN | apply kD | apply kA)); exact BK109.out) hb); have n3_ := Am (blk_below (g := gb110) (o := .cells #[.int .i64 0, .int .i64 0] 27 (0, 0)) (by (with_reducible repeat (first | apply kN | apply kD | apply kA)); exact BK110.out) hb); have n4_ := Am (KeepBut.trans (by repeat (first | (with_reducible first | exact HK.out | apply KeepBut.set_ | apply keep_drewN | apply keep_drew | apply keep_alloc | refine keep_far ?_ GW109.out _ | refine keep_far ?_ GW110.out _) | exact HK.out)) (KeepBut.of_below hb g none) (.inl rfl)); have n5_ := Am (below_step (by repeat (first | (with_reducible first | exact HB.out | apply bA | apply bN | apply bD | refine bS ?_ (IsS59.ge HI0.out) | refine bS ?_ GE109.out | refine bS ?_ GE110.out) | exact HB.out)) hb); clear HI0 BK109 BK110 HK HB; have HO119 := n0_; have HI0 := n1_; have BK109 := n2_; have BK110 := n3_; have HK := n4_; have HB := n5_; clear n0_ n1_ n2_ n3_ n4_ n5_ hb ho21) | ((with_reducible refine gate_callee (f := 23) rfl ?_); refine goesL_ (some 17) rfl rfl Try.func23 (by kernel_rfl) rfl #[.pointer (some ⟨g, 0, none⟩), .int .i64 4] rfl (by (try simp only [List.map_toArray, List.map_cons, List.map_nil]); first | done | rfl | (simp only [List.length_drop, List.length_take]; rfl)) ?_; (with_reducible refine (soundservicemade_Dice_Next.calls g t116 4 t120 t121 w0 _ ?side1 ?side2 A5.out).mono ?_); (case side1 => repeat (first | (with_reducible first | exact HI0.out | apply IsS59.alloc | apply IsS59.drewN | apply IsS59.drew | refine IsS59.far ?_ NB0_109.out _ | refine IsS59.far ?_ NB0_110.out _) | exact HI0.out)); (case side2 => repeat (first | (with_reducible first | exact HB.out | apply bA | apply bN | apply bD | refine bS ?_ (IsS59.ge HI0.out) | refine bS ?_ GE109.out | refine bS ?_ GE110.out) | exact HB.out)); rintro e w22 ⟨rfl, hi, hb, hk⟩; refine ⟨_, rfl, ?_⟩; have n0_ := Am (KeepBut.blk hk (g' := gb109) (o := .cells #[.int .i64 0, .int .i64 0, .int .i64 0, .int .i64 0] 23 (0, 0)) (by (with_reducible repeat (first | apply kN | apply kD | apply kA)); exact BK109.out) NB109_0.out (by simp)); have n1_ := Am (KeepBut.blk hk (g' := gb110) (o := .cells #[.int .i64 0, .int .i64 0] 27 (0, 0)) (by (with_reducible repeat (first | apply kN | apply kD | apply kA)); exact BK110.out) NB110_0.out (by simp)); have n2_ := Am (Kd.R_mono (Kd.R_keep (IsS59.apart (show IsS59 w0 _ g t116 from by repeat (first | (with_reducible first | exact HI0.out | apply IsS59.alloc | apply IsS59.drewN | apply IsS59.drew | refine IsS59.far ?_ NB0_109.out _ | refine IsS59.far ?_ NB0_110.out _) | exact HI0.out)) (by (with_reducible repeat (first | apply Kd.R_alloc | apply Kd.R_drewN | apply Kd.R_drew)); exact HO119.out) (by decide)) hk (fun _ h => h.2)) (fun _ h => h.1)); have n3_ := Am (KeepBut.trans (by repeat (first | (with_reducible first | exact HK.out | apply KeepBut.set_ | apply keep_drewN | apply keep_drew | apply keep_alloc | refine keep_far ?_ GW109.out _ | refine keep_far ?_ GW110.out _) | exact HK.out)) hk (.inl rfl)); have n4_ := Am (hb); have n5_ := Am (hi); clear BK109 BK110 HO119 HK HB HI0; have BK109 := n0_; have BK110 := n1_; have HO119 := n2_; have HK := n3_; have HB := n4_; have HI0 := n5_; clear n0_ n1_ n2_ n3_ n4_ n5_; (try clear hb); (try clear hb2); (try clear hk); (try clear hi); obtain ⟨Ao23, co23, eo23⟩ := Kd.R_slice HO119.out; subst eo23; have p122 : 0 ≤ (t120 : Int) := of_decide_eq_true (by first | (with_reducible assumption) | assumption); have q122 : t120 < (y117.length : Int) := of_decide_eq_true (by first | (with_reducible assumption) | assumption); obtain ⟨ad122, e122, hx122_0⟩ := Kd.at_int (Kd.R_reads' HO119.out).2.2 t120 p122 q122; cases e122; replace p122 := eq_true p122; replace q122 := eq_true q122) | ((with_reducible refine gate_dst (N := 6) rfl ?_); refine box_event ?hg (N := 6) ?hd (cs := #[.int .i64 0, .int .i64 0, .int .i64 0, .int .i64 0]) (t := 23) ?hr ?_; (case hd => rfl); (case hg => rfl); (case hr => first | (go_simp; done) | (go_simp; rfl)); intro gb123 hg w24 hbox hb; have n0_ := Am (Kd.R_below (by (with_reducible repeat (first | apply Kd.R_alloc | apply Kd.R_drewN | apply Kd.R_drew)); exact HO119.out) hb); have n1_ := Am (IsS59.below (by repeat (first | (with_reducible first | exact HI0.out | apply IsS59.alloc | apply IsS59.drewN | apply IsS59.drew | refine IsS59.far ?_ NB0_109.out _ | refine IsS59.far ?_ NB0_110.out _) | exact HI0.out)) hb); have n2_ := Am (blk_below (g := gb109) (o := .cells #[.int .i64 0, .int .i64 0, .int .i64 0, .int .i64 0] 23 (0, 0)) (by (with_reducible repeat (first | apply kN | apply kD | apply kA)); exact BK109.out) hb); have n3_ := Am (blk_below (g := gb110) (o := .cells #[.int .i64 0, .int .i64 0] 27 (0, 0)) (by (with_reducible repeat (first | apply kN | apply kD | apply kA)); exact BK110.out) hb); have n4_ := Am (KeepBut.trans (by repeat (first | (with_reducible first | exact HK.out | apply KeepBut.set_ | apply keep_drewN | apply keep_drew | apply keep_alloc | refine keep_far ?_ GW109.out _ | refine keep_far ?_ GW110.out _) | exact HK.out)) (KeepBut.of_below hb g none) (.inl rfl)); have n5_ := Am (below_step (by repeat (first | (with_reducible first | exact HB.out | apply bA | apply bN | apply bD | refine bS ?_ (IsS59.ge HI0.out) | refine bS ?_ GE109.out | refine bS ?_ GE110.out) | exact HB.out)) hb); have n6_ := Am (hbox); have n7_ := Am ((by rw [hg]; exact (keep_size (w := w) (g := g) (row := none) (by repeat (first | (with_reducible first | exact HK.out | apply KeepBut.set_ | apply keep_drewN | apply keep_drew | apply keep_alloc | refine keep_far ?_ GW109.out _ | refine keep_far ?_ GW110.out _) | exact HK.out))) : w.heap.size ≤ gb123)); have n8_ := Am ((Nat.le_trans HW0.out (by rw [hg]; exact (keep_size (w := w) (g := g) (row := none) (by repeat (first | (with_reducible first | exact HK.out | apply KeepBut.set_ | apply keep_drewN | apply keep_drew | apply keep_alloc | refine keep_far ?_ GW109.out _ | refine keep_far ?_ GW110.out _) | exact HK.out))) : w.heap.size ≤ gb123) : w0.heap.size ≤ gb123)); have n9_ := Am ((by rw [hg]; exact Nat.ne_of_lt (blk_lt (g := gb109) (o := .cells #[.int .i64 0, .int .i64 0, .int .i64 0, .int .i64 0] 23 (0, 0)) (by (with_reducible repeat (first | apply kN | apply kD | apply kA)); exact BK109.out)) : gb109 ≠ gb123)); have n10_ := Am ((by rw [hg]; exact Nat.ne_of_gt (blk_lt (g := gb109) (o := .cells #[.int .i64 0, .int .i64 0, .int .i64 0, .int .i64 0] 23 (0, 0)) (by (with_reducible repeat (first | apply kN | apply kD | apply kA)); exact BK109.out)) : gb123 ≠ gb109)); have n11_ := Am ((by rw [hg]; exact Nat.ne_of_lt (blk_lt (g := gb110) (o := .cells #[.int .i64 0, .int .i64 0] 27 (0, 0)) (by (with_reducible repeat (first | apply kN | apply kD | apply kA)); exact BK110.out)) : gb110 ≠ gb123)); have n12_ := Am ((by rw [hg]; exact Nat.ne_of_gt (blk_lt (g := gb110) (o := .cells #[.int .i64 0, .int .i64 0] 27 (0, 0)) (by (with_reducible repeat (first | apply kN | apply kD | apply kA)); exact BK110.out)) : gb123 ≠ gb110)); have n13_ := Am ((by rw [hg]; exact Nat.ne_of_lt (IsS59.lt (show IsS59 w0 _ g t121 from by repeat (first | (with_reducible first | exact HI0.out | apply IsS59.alloc | apply IsS59.drewN | apply IsS59.drew | refine IsS59.far ?_ NB0_109.out _ | refine IsS59.far ?_ NB0_110.out _) | exact HI0.out))) : g ≠ gb123)); have n14_ := Am ((by rw [hg]; exact Nat.ne_of_gt (IsS59.lt (show IsS59 w0 _ g t121 from by repeat (first | (with_reducible first | exact HI0.out | apply IsS59.alloc | apply IsS59.drewN | apply IsS59.drew | refine IsS59.far ?_ NB0_109.out _ | refine IsS59.far ?_ NB0_110.out _) | exact HI0.out))) : gb123 ≠ g)); clear HO119 HI0 BK109 BK110 HK HB; have HO119 := n0_; have HI0 := n1_; have BK109 := n2_; have BK110 := n3_; have HK := n4_; have HB := n5_; have BK123 := n6_; have GW123 := n7_; have GE123 := n8_; have NB109_123 := n9_; have NB123_109 := n10_; have NB110_123 := n11_; have NB123_110 := n12_; have NB0_123 := n13_; have NB123_0 := n14_; clear n0_ n1_ n2_ n3_ n4_ n5_ n6_ n7_ n8_ n9_ n10_ n11_ n12_ n13_ n14_ hb hbox hg; have hnb25 := NB123_109.out; have hnc25 := NB109_123.out; have hnb26 := NB123_110.out; have hnc26 := NB110_123.out; have hnb27 := NB123_0.out; have hnc27 := NB0_123.out; have hcz28_0 : w24.cell? ⟨gb123, 0, none⟩ = some (.int .i64 0) := (blk_cell BK123.out 0).trans rfl; have hcz28_1 : w24.cell? ⟨gb123, 1, none⟩ = some (.int .i64 0) := (blk_cell BK123.out 1).trans rfl; have hcz28_2 : w24.cell? ⟨gb123, 2, none⟩ = some (.int .i64 0) := (blk_cell BK123.out 2).trans rfl; have hcz28_3 : w24.cell? ⟨gb123, 3, none⟩ = some (.int .i64 0) := (blk_cell BK123.out 3).trans rfl; have hfz28_0 := blk_frozen BK123.out 0; have hfz28_1 := blk_frozen BK123.out 1; have hfz28_2 := blk_frozen BK123.out 2; have hfz28_3 := blk_frozen BK123.out 3))
       have pi129 : (0 ≤ (t127 : Int)) = True := eq_true (of_decide_eq_true (by first | (with_reducible assumption) | assumption))
       have qi129 : (t127 < (y124.length : Int)) = True := eq_true (of_decide_eq_true (by first | (with_reducible assumption) | assumption))
       have pi135 : (0 ≤ (t133 : Int)) = True := eq_true (of_decide_eq_true (by first | (with_reducible assumption) | assumption))
       have qi135 : (t133 < (y130.length : Int)) = True := eq_true (of_decide_eq_true (by first | (with_reducible assumption) | assumption))
       have n0_ : Aside0 (Kd.R (Kd.int .i64) 3 ((((w24.setCell ⟨gb123, 0, none⟩ (.int .i64 (wrap64 (t111 * 8)))).setCell ⟨gb123, 1, none⟩ (.int .i64 t113)).setCell ⟨gb123, 2, none⟩ (.int .i64 (wrap64 (1 + t115)))).setCell ⟨gb123, 3, none⟩ (.int .i64 (rd y117 t120))) w.heap.size (fun _ => True) (.slice (some ad122) y117.length co23) y117) := ⟨by (with_reducible repeat (first | apply Kd.R_alloc | apply Kd.R_drewN | apply Kd.R_drew)); exact Kd.R_mono (Kd.R_far (p := ⟨gb123, 3, none⟩) (Kd.R_far (p := ⟨gb123, 2, none⟩) (Kd.R_far (p := ⟨gb123, 1, none⟩) (Kd.R_far (p := ⟨gb123, 0, none⟩) (Kd.R_types HO119.out BK123.out (by decide)) (fun _ hk => hk.2) (.int .i64 (wrap64 (t111 * 8)))) (fun _ hk => hk.2) (.int .i64 t113)) (fun _ hk => hk.2) (.int .i64 (wrap64 (1 + t115)))) (fun _ hk => hk.2) (.int .i64 (rd y117 t120))) (fun _ hk => trivial)⟩
       have n1_ : Aside0 (((((w24.setCell ⟨gb123, 0, none⟩ (.int .i64 (wrap64 (t111 * 8)))).setCell ⟨gb123, 1, none⟩ (.int .i64 t113)).setCell ⟨gb123, 2, none⟩ (.int .i64 (wrap64 (1 + t115)))).setCell ⟨gb123, 3, none⟩ (.int .i64 (rd y117 t120))).heap[gb109]? = some (.cells #[.int .i64 0, .int .i64 0, .int .i64 0, .int .i64 0] 23 (0, 0))) := ⟨by (with_reducible repeat (first | apply kN | apply kD | apply kA)); refine blk_far ?_ NB109_123.out _; (with_reducible repeat (first | apply kN | apply kD | apply kA)); refine blk_far ?_ NB109_123.out _; (with_reducible repeat (first | apply kN | apply kD | apply kA)); refine blk_far ?_ NB109_123.out _; (with_reducible repeat (first | apply kN | apply kD | apply kA)); refine blk_far ?_ NB109_123.out _; (with_reducible repeat (first | apply kN | apply kD | apply kA)); exact BK109.out⟩
       have n2_ : Aside0 (((((w24.setCell ⟨gb123, 0, none⟩ (.int .i64 (wrap64 (t111 * 8)))).setCell ⟨gb123, 1, none⟩ (.int .i64 t113)).setCell ⟨gb123, 2, none⟩ (.int .i64 (wrap64 (1 + t115)))).setCell ⟨gb123, 3, none⟩ (.int .i64 (rd y117 t120))).heap[gb110]? = some (.cells #[.int .i64 0, .int .i64 0] 27 (0, 0))) := ⟨by (with_reducible repeat (first | apply kN | apply kD | apply kA)); refine blk_far ?_ NB110_123.out _; (with_reducible repeat (first | apply kN | apply kD | apply kA)); refine blk_far ?_ NB110_123.out _; (with_reducible repeat (first | apply kN | apply kD | apply kA)); refine blk_far ?_ NB110_123.out _; (with_reducible repeat (first | apply kN | apply kD | apply kA)); refine blk_far ?_ NB110_123.out _; (with_reducible repeat (first | apply kN | apply kD | apply kA)); exact BK110.out⟩
       have n3_ : Aside0 (((((w24.setCell ⟨gb123, 0, none⟩ (.int .i64 (wrap64 (t111 * 8)))).setCell ⟨gb123, 1, none⟩ (.int .i64 t113)).setCell ⟨gb123, 2, none⟩ (.int .i64 (wrap64 (1 + t115)))).setCell ⟨gb123, 3, none⟩ (.int .i64 (rd y117 t120))).heap[gb123]? = some (.cells #[.int .i64 (wrap64 (t111 * 8)), .int .i64 t113, .int .i64 (wrap64 (1 + t115)), .int .i64 (rd y117 t120)] 23 (0, 0))) := ⟨by (with_reducible repeat (first | apply kN | apply kD | apply kA)); refine blk_put (cs := #[.int .i64 (wrap64 (t111 * 8)), .int .i64 t113, .int .i64 (wrap64 (1 + t115)), .int .i64 0]) ?_ 3 _ rfl; (with_reducible repeat (first | apply kN | apply kD | apply kA)); refine blk_put (cs := #[.int .i64 (wrap64 (t111 * 8)), .int .i64 t113, .int .i64 0, .int .i64 0]) ?_ 2 _ rfl; (with_reducible repeat (first | apply kN | apply kD | apply kA)); refine blk_put (cs := #[.int .i64 (wrap64 (t111 * 8)), .int .i64 0, .int .i64 0, .int .i64 0]) ?_ 1 _ rfl; (with_reducible repeat (first | apply kN | apply kD | apply kA)); refine blk_put (cs := #[.int .i64 0, .int .i64 0, .int .i64 0, .int .i64 0]) ?_ 0 _ rfl; (with_reducible repeat (first | apply kN | apply kD | apply kA)); exact BK123.out⟩
       have n4_ : Aside0 (IsS59 w0 ((((w24.setCell ⟨gb123, 0, none⟩ (.int .i64 (wrap64 (t111 * 8)))).setCell ⟨gb123, 1, none⟩ (.int .i64 t113)).setCell ⟨gb123, 2, none⟩ (.int .i64 (wrap64 (1 + t115)))).setCell ⟨gb123, 3, none⟩ (.int .i64 (rd y117 t120))) g t121) := ⟨by repeat (first | (with_reducible first | exact HI0.out | apply IsS59.alloc | apply IsS59.drewN | apply IsS59.drew | refine IsS59.far ?_ NB0_109.out _ | refine IsS59.far ?_ NB0_110.out _ | refine IsS59.far ?_ NB0_123.out _) | exact HI0.out)⟩
       have n5_ : Aside0 (KeepBut w ((((w24.setCell ⟨gb123, 0, none⟩ (.int .i64 (wrap64 (t111 * 8)))).setCell ⟨gb123, 1, none⟩ (.int .i64 t113)).setCell ⟨gb123, 2, none⟩ (.int .i64 (wrap64 (1 + t115)))).setCell ⟨gb123, 3, none⟩ (.int .i64 (rd y117 t120))) g none) := ⟨by repeat (first | (with_reducible first | exact HK.out | apply KeepBut.set_ | apply keep_drewN | apply keep_drew | apply keep_alloc | refine keep_far ?_ GW109.out _ | refine keep_far ?_ GW110.out _ | refine keep_far ?_ GW123.out _) | exact HK.out)⟩
       have n6_ : Aside0 (Below w0.heap.size w0 ((((w24.setCell ⟨gb123, 0, none⟩ (.int .i64 (wrap64 (t111 * 8)))).setCell ⟨gb123, 1, none⟩ (.int .i64 t113)).setCell ⟨gb123, 2, none⟩ (.int .i64 (wrap64 (1 + t115)))).setCell ⟨gb123, 3, none⟩ (.int .i64 (rd y117 t120)))) := ⟨by repeat (first | (with_reducible first | exact HB.out | apply bA | apply bN | apply bD | refine bS ?_ (IsS59.ge HI0.out) | refine bS ?_ GE109.out | refine bS ?_ GE110.out | refine bS ?_ GE123.out) | exact HB.out)⟩
       (try clear HO119); (try clear BK109); (try clear BK110); (try clear BK123); (try clear HI0); (try clear HK); (try clear HB)
       generalize ((((w24.setCell ⟨gb123, 0, none⟩ (.int .i64 (wrap64 (t111 * 8)))).setCell ⟨gb123, 1, none⟩ (.int .i64 t113)).setCell ⟨gb123, 2, none⟩ (.int .i64 (wrap64 (1 + t115)))).setCell ⟨gb123, 3, none⟩ (.int .i64 (rd y117 t120))) = w29 at n0_ n1_ n2_ n3_ n4_ n5_ n6_ ⊢
       have HO119 := n0_; have BK109 := n1_; have BK110 := n2_; have BK123 := n3_; have HI0 := n4_; have HK := n5_; have HB := n6_; clear n0_ n1_ n2_ n3_ n4_ n5_ n6_
       have n0_ := Am (Kd.R_drew HO119.out)
       have n1_ := Am (kD BK109.out)
       have n2_ := Am (kD BK110.out)
       have n3_ := Am (kD BK123.out)
       have n4_ := Am (IsS59.drew HI0.out)
       have n5_ := Am (keep_drew HK.out)
       have n6_ := Am (bD HB.out)
       clear HO119 BK109 BK110 BK123 HI0 HK HB; have HO119 := n0_; have BK109 := n1_; have BK110 := n2_; have BK123 := n3_; have HI0 := n4_; have HK := n5_; have HB := n6_; clear n0_ n1_ n2_ n3_ n4_ n5_ n6_
       refine start_ (n := 21) (S := fun w' => True) (ds := []) soundservicelaw18_made.q0 (by kernel_rfl) rfl rfl trivial (fun hHeld => ?_); refine with_tabW soundservicelaw18_made.tab2 soundservicelaw18_made.bits2 (fun HT_ HW_ => ?_)
       generalize w29.drew = w30 at HO119 BK109 BK110 BK123 HI0 HK HB hHeld ⊢
       refine pure_ (i := 6) (N := some 27) (v := ?_) (a' := ?_) soundservicelaw18_made.q1 rfl rfl (any_of HT_.out (by kernel_rfl)) (fun _ _ _ h => h) (Or.inl ⟨by rfl, ?_⟩) ?_ ?_
       rotate_left; (· intro w'; go_simp; with_reducible rfl); rotate_left; (· simp only [pL, i64_w, i32_w]; rfl)
       refine pure_ (i := 11) (N := some 32) (v := ?_) (a' := ?_) soundservicelaw18_made.q2 rfl rfl (any_of HT_.out (by kernel_rfl)) (fun _ _ _ h => h) (Or.inl ⟨by rfl, ?_⟩) ?_ ?_
       rotate_left; (· intro w'; go_simp; with_reducible rfl); rotate_left; (· simp only [pL, i64_w, i32_w]; rfl)
       refine pure_ (i := 15) (N := some 36) (v := ?_) (a' := ?_) soundservicelaw18_made.q3 rfl rfl (any_of HT_.out (by kernel_rfl)) (fun _ _ _ h => h) (Or.inl ⟨by rfl, ?_⟩) ?_ ?_
       rotate_left; (· intro w'; go_simp; with_reducible rfl); rotate_left; (· simp only [pL, i64_w, i32_w]; rfl)
       refine inv_at [0, 1, 2, 3, 4, 5, 7, 8, 9, 10, 12, 13, 14, 16, 17, 18, 19, 20] (fun a0_ b a w' => ∃ (v125 : Value) (adz_v125 : Addr) (v131 : Value) (adz_v131 : Addr) (m8_ : Value) (m13_ : Value), a = putSel a0_ b [(0, 21, .agg #[.int .i64 (wrap64 (t111 * 8)), .int .i64 t113, .int .i64 (wrap64 (1 + t115)), .int .i64 (rd y117 t120)]), (1, 22, .agg #[.int .i64 64, .int .i64 1]), (2, 23, .agg #[.int .i64 294, .int .i64 5]), (3, 24, .agg #[.int .i64 1, .int .i64 64]), (4, 25, .agg #[.int .i64 1024, .int .i64 3]), (5, 26, v125), (7, 28, .int .i64 t127), (8, 29, m8_), (9, 30, .agg #[.int .i64 ((rd_T27 y124 t127).f0), .int .i64 ((rd_T27 y124 t127).f1)]), (10, 31, v131), (12, 33, .int .i64 t133), (13, 34, m13_), (14, 35, .int .i64 (rd y130 t133)), (16, 37, .int .i64 t136), (19, 4, .int .i64 (rd y130 t133)), (20, 5, .int .i64 t136)] ∧ (Kd.R (Kd.int .i64) 3 w' w.heap.size (fun _ => True) (.slice (some ad122) y117.length co23) y117) ∧ (b 17 = false → w'.heap[gb109]? = some (.cells #[.int .i64 0, .int .i64 0, .int .i64 0, .int .i64 0] 23 (0, 0))) ∧ (b 18 = false → w'.heap[gb110]? = some (.cells #[.int .i64 0, .int .i64 0] 27 (0, 0))) ∧ (w'.heap[gb123]? = some (.cells #[.int .i64 (wrap64 (t111 * 8)), .int .i64 t113, .int .i64 (wrap64 (1 + t115)), .int .i64 (rd y117 t120)] 23 (0, 0))) ∧ (b 7 = false → IsS59 w0 w' g t121) ∧ (KeepBut w w' g none) ∧ (Below w0.heap.size w0 w') ∧ (b 5 = true → Kd.R k27 27 w' w.heap.size (fun k_ => k_ ≠ gb110) v125 y124) ∧ (b 5 = true → ∃ c_, (v125 : Value) = .slice (some adz_v125) y124.length c_) ∧ (b 7 = true → b 12 = false → IsS59 w0 w' g t128) ∧ (b 10 = true → Kd.R (Kd.int .i64) 3 w' w.heap.size (fun k_ => some k_ ≠ (.slice (some ad122) y117.length co23 : Value).ownBlock) v131 y130) ∧ (b 10 = true → ∃ c_, (v131 : Value) = .slice (some adz_v131) y130.length c_) ∧ (b 12 = true → b 16 = false → IsS59 w0 w' g t134) ∧ (b 16 = true → IsS59 w0 w' g t137) ∧ (b 17 = true → w'.heap[gb109]? = some (.cells #[.int .i64 (wrap64 (t111 * 8)), .int .i64 t113, .int .i64 (wrap64 (1 + t115)), .int .i64 (rd y117 t120)] 23 (0, 0))) ∧ (b 18 = true → w'.heap[gb110]? = some (.cells #[.int .i64 ((rd_T27 y124 t127).f0), .int .i64 ((rd_T27 y124 t127).f1)] 27 (0, 0))) ∧ (b 8 = true → (m8_ : Value) = .pointer (some (adz_v125.add ((t127).toNat * 2)))) ∧ (b 13 = true → (m13_ : Value) = .pointer (some (adz_v131.add (t133).toNat)))) HT_.out HW_.out (by kernel_rfl) (by kernel_rfl) ?_ ?_ ?_
       ·exact ⟨.bool false, ⟨0, 0, none⟩, .bool false, ⟨0, 0, none⟩, .bool false, .bool false, by simp only [putSel, Bool.false_eq_true, if_false], HO119.out, fun _ => BK109.out, fun _ => BK110.out, BK123.out, fun _ => HI0.out, HK.out, HB.out, fun h_ => absurd h_ (by decide), fun h_ => absurd h_ (by decide), fun h_ => absurd h_ (by decide), fun h_ => absurd h_ (by decide), fun h_ => absurd h_ (by decide), fun h_ => absurd h_ (by decide), fun h_ => absurd h_ (by decide), fun h_ => absurd h_ (by decide), fun h_ => absurd h_ (by decide), fun h_ => absurd h_ (by decide), fun h_ => absurd h_ (by decide)⟩
       ·skip
        clear BK109 BK110 BK123 HB HI0 HK HO119
        refine steps_cons ?_ ?_
        ·rintro b a w' ⟨v125, adz_v125, v131, adz_v131, m8_, m13_, ha, Q_HO119, Q_BK109, Q_BK110, Q_BK123, Q_HI0, Q_HK, Q_HB, Q_HO126, Q_HA_HO126, Q_HI0_e7, Q_HO132, Q_HA_HO132, Q_HI0_e12, Q_HI0_e16, Q_BK109_e17, Q_BK110_e18, Q_X8_, Q_X13_⟩ hb_ hon hoff
         refine ⟨_, rfl, fun K hK => ?_⟩
         have e6 : a.tmps[6]? = some (.pointer (some ⟨gb123, 0, none⟩)) := by rw [ha]; exact (putSel_off rfl).trans rfl
         replace ha := Am ha
         have HO119 := Am Q_HO119
         have BK109 := Am (Q_BK109 (hoff 17 (by kernel_rfl)))
         have BK110 := Am (Q_BK110 (hoff 18 (by kernel_rfl)))
         have BK123 := Am Q_BK123
         have HK := Am Q_HK
         have HB := Am Q_HB
         have hc0_ : w'.cell? ⟨gb123, 0, none⟩ = some (.int .i64 (wrap64 (t111 * 8))) := (blk_cell BK123.out 0).trans rfl
         have hc1_ : w'.cell? ⟨gb123, 1, none⟩ = some (.int .i64 t113) := (blk_cell BK123.out 1).trans rfl
         have hc2_ : w'.cell? ⟨gb123, 2, none⟩ = some (.int .i64 (wrap64 (1 + t115))) := (blk_cell BK123.out 2).trans rfl
         have hc3_ : w'.cell? ⟨gb123, 3, none⟩ = some (.int .i64 (rd y117 t120)) := (blk_cell BK123.out 3).trans rfl
         refine value_ (w1 := w') (v := .agg #[.int .i64 (wrap64 (t111 * 8)), .int .i64 t113, .int .i64 (wrap64 (1 + t115)), .int .i64 (rd y117 t120)]) (by rfl) rfl ?_ ?_
         ·go_simp
          (try simp only [i64_w])
          try rfl
         refine hK.out _ _ ⟨v125, adz_v125, v131, adz_v131, m8_, m13_, (by rw [ha.out]; exact putSel_upk 0 hb_ rfl rfl rfl), Q_HO119, Q_BK109, Q_BK110, Q_BK123, Q_HI0, Q_HK, Q_HB, Q_HO126, Q_HA_HO126, Q_HI0_e7, Q_HO132, Q_HA_HO132, Q_HI0_e12, Q_HI0_e16, fun h0_ => absurd ((hoff 17 (by kernel_rfl)).symm.trans h0_) (by decide), fun h0_ => absurd ((hoff 18 (by kernel_rfl)).symm.trans h0_) (by decide), Q_X8_, Q_X13_⟩
        refine steps_cons ?_ ?_
        ·rintro b a w' ⟨v125, adz_v125, v131, adz_v131, m8_, m13_, ha, Q_HO119, Q_BK109, Q_BK110, Q_BK123, Q_HI0, Q_HK, Q_HB, Q_HO126, Q_HA_HO126, Q_HI0_e7, Q_HO132, Q_HA_HO132, Q_HI0_e12, Q_HI0_e16, Q_BK109_e17, Q_BK110_e18, Q_X8_, Q_X13_⟩ hb_ hon hoff
         refine ⟨_, rfl, fun K hK => ?_⟩
         replace ha := Am ha
         have HO119 := Am Q_HO119
         have BK110 := Am (Q_BK110 (hoff 18 (by kernel_rfl)))
         have BK123 := Am Q_BK123
         have HK := Am Q_HK
         have HB := Am Q_HB
         refine value_ (w1 := w') (v := .agg #[.int .i64 64, .int .i64 1]) (by rfl) rfl ?_ ?_
         ·go_simp
          (try simp only [i64_w])
          try rfl
         refine hK.out _ _ ⟨v125, adz_v125, v131, adz_v131, m8_, m13_, (by rw [ha.out]; exact putSel_upk 1 hb_ rfl rfl rfl), Q_HO119, Q_BK109, Q_BK110, Q_BK123, Q_HI0, Q_HK, Q_HB, fun h0_ => absurd ((hoff 5 (by kernel_rfl)).symm.trans h0_) (by decide), fun h0_ => absurd ((hoff 5 (by kernel_rfl)).symm.trans h0_) (by decide), Q_HI0_e7, Q_HO132, Q_HA_HO132, Q_HI0_e12, Q_HI0_e16, Q_BK109_e17, fun h0_ => absurd ((hoff 18 (by kernel_rfl)).symm.trans h0_) (by decide), fun h0_ => absurd ((hoff 8 (by kernel_rfl)).symm.trans h0_) (by decide), Q_X13_⟩
        refine steps_cons ?_ ?_
        ·rintro b a w' ⟨v125, adz_v125, v131, adz_v131, m8_, m13_, ha, Q_HO119, Q_BK109, Q_BK110, Q_BK123, Q_HI0, Q_HK, Q_HB, Q_HO126, Q_HA_HO126, Q_HI0_e7, Q_HO132, Q_HA_HO132, Q_HI0_e12, Q_HI0_e16, Q_BK109_e17, Q_BK110_e18, Q_X8_, Q_X13_⟩ hb_ hon hoff
         refine ⟨_, rfl, fun K hK => ?_⟩
         replace ha := Am ha
         have HO119 := Am Q_HO119
         have BK110 := Am (Q_BK110 (hoff 18 (by kernel_rfl)))
         have BK123 := Am Q_BK123
         have HK := Am Q_HK
         have HB := Am Q_HB
         refine value_ (w1 := w') (v := .agg #[.int .i64 294, .int .i64 5]) (by rfl) rfl ?_ ?_
         ·go_simp
          (try simp only [i64_w])
          try rfl
         refine hK.out _ _ ⟨v125, adz_v125, v131, adz_v131, m8_, m13_, (by rw [ha.out]; exact putSel_upk 2 hb_ rfl rfl rfl), Q_HO119, Q_BK109, Q_BK110, Q_BK123, Q_HI0, Q_HK, Q_HB, fun h0_ => absurd ((hoff 5 (by kernel_rfl)).symm.trans h0_) (by decide), fun h0_ => absurd ((hoff 5 (by kernel_rfl)).symm.trans h0_) (by decide), Q_HI0_e7, Q_HO132, Q_HA_HO132, Q_HI0_e12, Q_HI0_e16, Q_BK109_e17, fun h0_ => absurd ((hoff 18 (by kernel_rfl)).symm.trans h0_) (by decide), fun h0_ => absurd ((hoff 8 (by kernel_rfl)).symm.trans h0_) (by decide), Q_X13_⟩
        refine steps_cons ?_ ?_
        ·rintro b a w' ⟨v125, adz_v125, v131, adz_v131, m8_, m13_, ha, Q_HO119, Q_BK109, Q_BK110, Q_BK123, Q_HI0, Q_HK, Q_HB, Q_HO126, Q_HA_HO126, Q_HI0_e7, Q_HO132, Q_HA_HO132, Q_HI0_e12, Q_HI0_e16, Q_BK109_e17, Q_BK110_e18, Q_X8_, Q_X13_⟩ hb_ hon hoff
         refine ⟨_, rfl, fun K hK => ?_⟩
         replace ha := Am ha
         have HO119 := Am Q_HO119
         have BK110 := Am (Q_BK110 (hoff 18 (by kernel_rfl)))
         have BK123 := Am Q_BK123
         have HK := Am Q_HK
         have HB := Am Q_HB
         refine value_ (w1 := w') (v := .agg #[.int .i64 1, .int .i64 64]) (by rfl) rfl ?_ ?_
         ·go_simp
          (try simp only [i64_w])
          try rfl
         refine hK.out _ _ ⟨v125, adz_v125, v131, adz_v131, m8_, m13_, (by rw [ha.out]; exact putSel_upk 3 hb_ rfl rfl rfl), Q_HO119, Q_BK109, Q_BK110, Q_BK123, Q_HI0, Q_HK, Q_HB, fun h0_ => absurd ((hoff 5 (by kernel_rfl)).symm.trans h0_) (by decide), fun h0_ => absurd ((hoff 5 (by kernel_rfl)).symm.trans h0_) (by decide), Q_HI0_e7, Q_HO132, Q_HA_HO132, Q_HI0_e12, Q_HI0_e16, Q_BK109_e17, fun h0_ => absurd ((hoff 18 (by kernel_rfl)).symm.trans h0_) (by decide), fun h0_ => absurd ((hoff 8 (by kernel_rfl)).symm.trans h0_) (by decide), Q_X13_⟩
        refine steps_cons ?_ ?_
        ·rintro b a w' ⟨v125, adz_v125, v131, adz_v131, m8_, m13_, ha, Q_HO119, Q_BK109, Q_BK110, Q_BK123, Q_HI0, Q_HK, Q_HB, Q_HO126, Q_HA_HO126, Q_HI0_e7, Q_HO132, Q_HA_HO132, Q_HI0_e12, Q_HI0_e16, Q_BK109_e17, Q_BK110_e18, Q_X8_, Q_X13_⟩ hb_ hon hoff
         refine ⟨_, rfl, fun K hK => ?_⟩
         replace ha := Am ha
         have HO119 := Am Q_HO119
         have BK110 := Am (Q_BK110 (hoff 18 (by kernel_rfl)))
         have BK123 := Am Q_BK123
         have HK := Am Q_HK
         have HB := Am Q_HB
         refine value_ (w1 := w') (v := .agg #[.int .i64 1024, .int .i64 3]) (by rfl) rfl ?_ ?_
         ·go_simp
          (try simp only [i64_w])
          try rfl
         refine hK.out _ _ ⟨v125, adz_v125, v131, adz_v131, m8_, m13_, (by rw [ha.out]; exact putSel_upk 4 hb_ rfl rfl rfl), Q_HO119, Q_BK109, Q_BK110, Q_BK123, Q_HI0, Q_HK, Q_HB, fun h0_ => absurd ((hoff 5 (by kernel_rfl)).symm.trans h0_) (by decide), fun h0_ => absurd ((hoff 5 (by kernel_rfl)).symm.trans h0_) (by decide), Q_HI0_e7, Q_HO132, Q_HA_HO132, Q_HI0_e12, Q_HI0_e16, Q_BK109_e17, fun h0_ => absurd ((hoff 18 (by kernel_rfl)).symm.trans h0_) (by decide), fun h0_ => absurd ((hoff 8 (by kernel_rfl)).symm.trans h0_) (by decide), Q_X13_⟩
        refine steps_cons ?_ ?_
        ·rintro b a w' ⟨v125, adz_v125, v131, adz_v131, m8_, m13_, ha, Q_HO119, Q_BK109, Q_BK110, Q_BK123, Q_HI0, Q_HK, Q_HB, Q_HO126, Q_HA_HO126, Q_HI0_e7, Q_HO132, Q_HA_HO132, Q_HI0_e12, Q_HI0_e16, Q_BK109_e17, Q_BK110_e18, Q_X8_, Q_X13_⟩ hb_ hon hoff
         refine ⟨_, rfl, fun K hK => ?_⟩
         have e22 : a.tmps[22]? = some (.agg #[.int .i64 64, .int .i64 1]) := by rw [ha]; exact putSel_on (e := (1, 22, .agg #[.int .i64 64, .int .i64 1])) 1 rfl rfl (hon 1 (by kernel_rfl)) rfl
         have e23 : a.tmps[23]? = some (.agg #[.int .i64 294, .int .i64 5]) := by rw [ha]; exact putSel_on (e := (2, 23, .agg #[.int .i64 294, .int .i64 5])) 2 rfl rfl (hon 2 (by kernel_rfl)) rfl
         have e24 : a.tmps[24]? = some (.agg #[.int .i64 1, .int .i64 64]) := by rw [ha]; exact putSel_on (e := (3, 24, .agg #[.int .i64 1, .int .i64 64])) 3 rfl rfl (hon 3 (by kernel_rfl)) rfl
         have e25 : a.tmps[25]? = some (.agg #[.int .i64 1024, .int .i64 3]) := by rw [ha]; exact putSel_on (e := (4, 25, .agg #[.int .i64 1024, .int .i64 3])) 4 rfl rfl (hon 4 (by kernel_rfl)) rfl
         replace ha := Am ha
         have HO119 := Am Q_HO119
         have BK110 := Am (Q_BK110 (hoff 18 (by kernel_rfl)))
         have BK123 := Am Q_BK123
         have HK := Am Q_HK
         have HB := Am Q_HB
         refine Kd.R_lit_step k27 _ 27 ?hg (N := 26) ?hd (xs := ([(⟨64, 1⟩ : S27), (⟨294, 5⟩ : S27), (⟨1, 64⟩ : S27), (⟨1024, 3⟩ : S27)] : List (S27))) (inner := [.int .i64 64, .int .i64 1, .int .i64 294, .int .i64 5, .int .i64 1, .int .i64 64, .int .i64 1024, .int .i64 3]) (ok := fun _ => True) (okp := fun _ => True) ?hr ?hp (fun _ hk => hk) trivial (Below.refl _ _) (Nat.le_refl _) (by simp) ?_; (case hd => rfl); (case hg => rfl); (case hr => first | (go_simp; done) | (go_simp; rfl)); (case hp => exact (Reps.c2 (show Kd.M k27 _ _ _ (⟨64, 1⟩ : S27) [.int .i64 64, .int .i64 1] from (k27_mkM _ _ _ (⟨64, 1⟩ : S27) )) (Reps.c2 (show Kd.M k27 _ _ _ (⟨294, 5⟩ : S27) [.int .i64 294, .int .i64 5] from (k27_mkM _ _ _ (⟨294, 5⟩ : S27) )) (Reps.c2 (show Kd.M k27 _ _ _ (⟨1, 64⟩ : S27) [.int .i64 1, .int .i64 64] from (k27_mkM _ _ _ (⟨1, 64⟩ : S27) )) (Reps.c2 (show Kd.M k27 _ _ _ (⟨1024, 3⟩ : S27) [.int .i64 1024, .int .i64 3] from (k27_mkM _ _ _ (⟨1024, 3⟩ : S27) )) (Reps.none _ _))))))
         intro v125 w31 ho32 hb hg_ hnew_
         clear hg_ hnew_
         (first | rw [← Ny124.out] at ho32 | (simp only [Int.reduceToNat] at ho32; rw [← Ny124.out] at ho32))
         have n0_ := Am (Kd.R_below (by (with_reducible repeat (first | apply Kd.R_alloc | apply Kd.R_drewN | apply Kd.R_drew)); exact HO119.out) hb)
         have n1_ := Am (Kd.R_lower (Kd.R_newB ho32 (g := gb110) (o := .cells #[.int .i64 0, .int .i64 0] 27 (0, 0)) (by (with_reducible repeat (first | apply kN | apply kD | apply kA)); exact BK110.out)) (keep_size (w := w) (g := g) (row := none) (by repeat (first | (with_reducible first | exact HK.out | apply KeepBut.set_ | apply keep_drewN | apply keep_drew | apply keep_alloc | refine keep_far ?_ GW109.out _ | refine keep_far ?_ GW110.out _ | refine keep_far ?_ GW123.out _) | exact HK.out))))
         have n4_ := Am (blk_below (g := gb110) (o := .cells #[.int .i64 0, .int .i64 0] 27 (0, 0)) (by (with_reducible repeat (first | apply kN | apply kD | apply kA)); exact BK110.out) hb)
         have n5_ := Am (blk_below (g := gb123) (o := .cells #[.int .i64 (wrap64 (t111 * 8)), .int .i64 t113, .int .i64 (wrap64 (1 + t115)), .int .i64 (rd y117 t120)] 23 (0, 0)) (by (with_reducible repeat (first | apply kN | apply kD | apply kA)); exact BK123.out) hb)
         have n6_ := Am (KeepBut.trans (by repeat (first | (with_reducible first | exact HK.out | apply KeepBut.set_ | apply keep_drewN | apply keep_drew | apply keep_alloc | refine keep_far ?_ GW109.out _ | refine keep_far ?_ GW110.out _ | refine keep_far ?_ GW123.out _) | exact HK.out)) (KeepBut.of_below hb g none) (.inl rfl))
         have n7_ := Am (below_step (by repeat (first | (with_reducible first | exact HB.out | apply bA | apply bN | apply bD | refine bS ?_ GE109.out | refine bS ?_ GE110.out | refine bS ?_ GE123.out) | exact HB.out)) hb)
         have z_BK109 := fun (h0_ : b 17 = false) => (show w31.heap[gb109]? = some (.cells #[.int .i64 0, .int .i64 0, .int .i64 0, .int .i64 0] 23 (0, 0)) from by first | exact (blk_below (g := gb109) (o := .cells #[.int .i64 0, .int .i64 0, .int .i64 0, .int .i64 0] 23 (0, 0)) (by (with_reducible repeat (first | apply kN | apply kD | apply kA)); exact (Q_BK109 h0_)) hb))
         have z_HI0 := fun (h0_ : b 7 = false) => (show IsS59 w0 w31 g t121 from by first | exact (IsS59.below (by repeat (first | (with_reducible first | exact (Q_HI0 h0_) | apply IsS59.alloc | apply IsS59.drewN | apply IsS59.drew | refine IsS59.far ?_ NB0_109.out _ | refine IsS59.far ?_ NB0_110.out _ | refine IsS59.far ?_ NB0_123.out _) | exact (Q_HI0 h0_))) hb))
         have z_HI0_e7 := fun (h0_ : b 7 = true) (h1_ : b 12 = false) => (show IsS59 w0 w31 g t128 from by first | exact (IsS59.below (by repeat (first | (with_reducible first | exact (Q_HI0_e7 h0_ h1_) | apply IsS59.alloc | apply IsS59.drewN | apply IsS59.drew | refine IsS59.far ?_ NB0_109.out _ | refine IsS59.far ?_ NB0_110.out _ | refine IsS59.far ?_ NB0_123.out _) | exact (Q_HI0_e7 h0_ h1_))) hb))
         have z_HO132 := fun (h0_ : b 10 = true) => (show Kd.R (Kd.int .i64) 3 w31 w.heap.size (fun k_ => some k_ ≠ (.slice (some ad122) y117.length co23 : Value).ownBlock) v131 y130 from by first | exact (Kd.R_below (by (with_reducible repeat (first | apply Kd.R_alloc | apply Kd.R_drewN | apply Kd.R_drew)); exact (Q_HO132 h0_)) hb) | exact Kd.R_mono (Kd.R_below (by (with_reducible repeat (first | apply Kd.R_alloc | apply Kd.R_drewN | apply Kd.R_drew)); exact (Q_HO132 h0_)) hb) (fun _ h_ => by first | trivial | exact h_ | exact h_.1))
         have z_HI0_e12 := fun (h0_ : b 12 = true) (h1_ : b 16 = false) => (show IsS59 w0 w31 g t134 from by first | exact (IsS59.below (by repeat (first | (with_reducible first | exact (Q_HI0_e12 h0_ h1_) | apply IsS59.alloc | apply IsS59.drewN | apply IsS59.drew | refine IsS59.far ?_ NB0_109.out _ | refine IsS59.far ?_ NB0_110.out _ | refine IsS59.far ?_ NB0_123.out _) | exact (Q_HI0_e12 h0_ h1_))) hb))
         have z_HI0_e16 := fun (h0_ : b 16 = true) => (show IsS59 w0 w31 g t137 from by first | exact (IsS59.below (by repeat (first | (with_reducible first | exact (Q_HI0_e16 h0_) | apply IsS59.alloc | apply IsS59.drewN | apply IsS59.drew | refine IsS59.far ?_ NB0_109.out _ | refine IsS59.far ?_ NB0_110.out _ | refine IsS59.far ?_ NB0_123.out _) | exact (Q_HI0_e16 h0_))) hb))
         have z_BK109_e17 := fun (h0_ : b 17 = true) => (show w31.heap[gb109]? = some (.cells #[.int .i64 (wrap64 (t111 * 8)), .int .i64 t113, .int .i64 (wrap64 (1 + t115)), .int .i64 (rd y117 t120)] 23 (0, 0)) from by first | exact (blk_below (g := gb109) (o := .cells #[.int .i64 (wrap64 (t111 * 8)), .int .i64 t113, .int .i64 (wrap64 (1 + t115)), .int .i64 (rd y117 t120)] 23 (0, 0)) (by (with_reducible repeat (first | apply kN | apply kD | apply kA)); exact (Q_BK109_e17 h0_)) hb))
         clear HO119 BK110 BK123 HK HB; have HO119 := n0_; have HO126 := n1_; have BK110 := n4_; have BK123 := n5_; have HK := n6_; have HB := n7_; clear n0_ n1_ n4_ n5_ n6_ n7_ hb ho32
         obtain ⟨Ao33, co33, eo33⟩ := Kd.R_slice HO126.out
         subst eo33
         obtain ⟨ado33, fo33, _⟩ := at_T27 (Kd.R_reads' HO126.out).2.2 0 (by decide) (by rw [Ny124.out]; simp)
         cases fo33
         refine hK.out _ _ ⟨.slice (some ado33) y124.length co33, ado33, v131, adz_v131, m8_, m13_, (by rw [ha.out]; exact putSel_upk 5 hb_ rfl rfl rfl), (by (with_reducible repeat (first | apply Kd.R_alloc | apply Kd.R_drewN | apply Kd.R_drew)); exact HO119.out), z_BK109, fun _ => (by (with_reducible repeat (first | apply kN | apply kD | apply kA)); exact BK110.out), (by (with_reducible repeat (first | apply kN | apply kD | apply kA)); exact BK123.out), z_HI0, (by repeat (first | (with_reducible first | exact HK.out | apply KeepBut.set_ | apply keep_drewN | apply keep_drew | apply keep_alloc | refine keep_far ?_ GW109.out _ | refine keep_far ?_ GW110.out _ | refine keep_far ?_ GW123.out _) | exact HK.out)), (by repeat (first | (with_reducible first | exact HB.out | apply bA | apply bN | apply bD | refine bS ?_ GE109.out | refine bS ?_ GE110.out | refine bS ?_ GE123.out) | exact HB.out)), fun _ => (by (with_reducible repeat (first | apply Kd.R_alloc | apply Kd.R_drewN | apply Kd.R_drew)); exact Kd.R_mono HO126.out (fun _ hk => by first | exact hk.2 | trivial)), fun _ => ⟨_, rfl⟩, z_HI0_e7, z_HO132, Q_HA_HO132, z_HI0_e12, z_HI0_e16, z_BK109_e17, fun h0_ => absurd ((hoff 18 (by kernel_rfl)).symm.trans h0_) (by decide), fun h0_ => absurd ((hoff 8 (by kernel_rfl)).symm.trans h0_) (by decide), Q_X13_⟩
        refine steps_cons ?_ ?_
        ·rintro b a w' ⟨v125, adz_v125, v131, adz_v131, m8_, m13_, ha, Q_HO119, Q_BK109, Q_BK110, Q_BK123, Q_HI0, Q_HK, Q_HB, Q_HO126, Q_HA_HO126, Q_HI0_e7, Q_HO132, Q_HA_HO132, Q_HI0_e12, Q_HI0_e16, Q_BK109_e17, Q_BK110_e18, Q_X8_, Q_X13_⟩ hb_ hon hoff
         refine ⟨_, rfl, fun K hK => ?_⟩
         have e27 : a.tmps[27]? = some (.pointer (some ⟨g, 0, none⟩)) := by rw [ha]; exact (putSel_off rfl).trans rfl
         replace ha := Am ha
         have HO119 := Am Q_HO119
         have BK109 := Am (Q_BK109 (hoff 17 (by kernel_rfl)))
         have BK110 := Am (Q_BK110 (hoff 18 (by kernel_rfl)))
         have BK123 := Am Q_BK123
         have HI0 := Am (Q_HI0 hb_)
         have HK := Am Q_HK
         have HB := Am Q_HB
         refine goes_ Try.func23 (by kernel_rfl) rfl #[.pointer (some ⟨g, 0, none⟩), .int .i64 4] (by rfl) rfl rfl (by first | (simp only [List.map_toArray, List.map_cons, List.map_nil, Act.eval, Array.getD_eq_getD_getElem?, Option.getD_some, e27]; done) | (simp only [List.map_toArray, List.map_cons, List.map_nil, Act.eval, Array.getD_eq_getD_getElem?, Option.getD_some, e27]; rfl)) ?_
         with_reducible refine (soundservicemade_Dice_Next.calls g t121 4 t127 t128 w0 _ ?side1 ?side2 A8.out).mono ?_
         (case side1 => repeat (first | (with_reducible first | exact HI0.out | apply IsS59.alloc | apply IsS59.drewN | apply IsS59.drew | refine IsS59.far ?_ NB0_109.out _ | refine IsS59.far ?_ NB0_110.out _ | refine IsS59.far ?_ NB0_123.out _) | exact HI0.out))
         (case side2 => repeat (first | (with_reducible first | exact HB.out | apply bA | apply bN | apply bD | refine bS ?_ (IsS59.ge HI0.out) | refine bS ?_ GE109.out | refine bS ?_ GE110.out | refine bS ?_ GE123.out) | exact HB.out))
         rintro e w31 ⟨rfl, hi, hb, hk⟩
         refine ⟨_, rfl, ?_⟩
         have n0_ := Am (KeepBut.blk hk (g' := gb109) (o := .cells #[.int .i64 0, .int .i64 0, .int .i64 0, .int .i64 0] 23 (0, 0)) (by (with_reducible repeat (first | apply kN | apply kD | apply kA)); exact BK109.out) NB109_0.out (by simp))
         have n1_ := Am (KeepBut.blk hk (g' := gb110) (o := .cells #[.int .i64 0, .int .i64 0] 27 (0, 0)) (by (with_reducible repeat (first | apply kN | apply kD | apply kA)); exact BK110.out) NB110_0.out (by simp))
         have n2_ := Am (Kd.R_mono (Kd.R_keep (IsS59.apart (show IsS59 w0 _ g t121 from by repeat (first | (with_reducible first | exact HI0.out | apply IsS59.alloc | apply IsS59.drewN | apply IsS59.drew | refine IsS59.far ?_ NB0_109.out _ | refine IsS59.far ?_ NB0_110.out _ | refine IsS59.far ?_ NB0_123.out _) | exact HI0.out)) (by (with_reducible repeat (first | apply Kd.R_alloc | apply Kd.R_drewN | apply Kd.R_drew)); exact HO119.out) (by decide)) hk (fun _ h => h.2)) (fun _ h => h.1))
         have n3_ := Am (KeepBut.blk hk (g' := gb123) (o := .cells #[.int .i64 (wrap64 (t111 * 8)), .int .i64 t113, .int .i64 (wrap64 (1 + t115)), .int .i64 (rd y117 t120)] 23 (0, 0)) (by (with_reducible repeat (first | apply kN | apply kD | apply kA)); exact BK123.out) NB123_0.out (by simp))
         have n4_ := Am (KeepBut.trans (by repeat (first | (with_reducible first | exact HK.out | apply KeepBut.set_ | apply keep_drewN | apply keep_drew | apply keep_alloc | refine keep_far ?_ GW109.out _ | refine keep_far ?_ GW110.out _ | refine keep_far ?_ GW123.out _) | exact HK.out)) hk (.inl rfl))
         have n5_ := Am (hb)
         have n6_ := Am (hi)
         have z_HO126 := fun (h0_ : b 5 = true) => (show Kd.R k27 27 w31 w.heap.size (fun k_ => k_ ≠ gb110) v125 y124 from by first | exact (Kd.R_mono (Kd.R_keep (IsS59.apart (show IsS59 w0 _ g t121 from by repeat (first | (with_reducible first | exact HI0.out | apply IsS59.alloc | apply IsS59.drewN | apply IsS59.drew | refine IsS59.far ?_ NB0_109.out _ | refine IsS59.far ?_ NB0_110.out _ | refine IsS59.far ?_ NB0_123.out _) | exact HI0.out)) (by (with_reducible repeat (first | apply Kd.R_alloc | apply Kd.R_drewN | apply Kd.R_drew)); exact (Q_HO126 h0_)) (by decide)) hk (fun _ h => h.2)) (fun _ h => h.1)) | exact Kd.R_mono (Kd.R_mono (Kd.R_keep (IsS59.apart (show IsS59 w0 _ g t121 from by repeat (first | (with_reducible first | exact HI0.out | apply IsS59.alloc | apply IsS59.drewN | apply IsS59.drew | refine IsS59.far ?_ NB0_109.out _ | refine IsS59.far ?_ NB0_110.out _ | refine IsS59.far ?_ NB0_123.out _) | exact HI0.out)) (by (with_reducible repeat (first | apply Kd.R_alloc | apply Kd.R_drewN | apply Kd.R_drew)); exact (Q_HO126 h0_)) (by decide)) hk (fun _ h => h.2)) (fun _ h => h.1)) (fun _ h_ => by first | trivial | exact h_ | exact h_.1))
         have z_HO132 := fun (h0_ : b 10 = true) => (show Kd.R (Kd.int .i64) 3 w31 w.heap.size (fun k_ => some k_ ≠ (.slice (some ad122) y117.length co23 : Value).ownBlock) v131 y130 from by first | exact (Kd.R_mono (Kd.R_keep (IsS59.apart (show IsS59 w0 _ g t121 from by repeat (first | (with_reducible first | exact HI0.out | apply IsS59.alloc | apply IsS59.drewN | apply IsS59.drew | refine IsS59.far ?_ NB0_109.out _ | refine IsS59.far ?_ NB0_110.out _ | refine IsS59.far ?_ NB0_123.out _) | exact HI0.out)) (by (with_reducible repeat (first | apply Kd.R_alloc | apply Kd.R_drewN | apply Kd.R_drew)); exact (Q_HO132 h0_)) (by decide)) hk (fun _ h => h.2)) (fun _ h => h.1)) | exact Kd.R_mono (Kd.R_mono (Kd.R_keep (IsS59.apart (show IsS59 w0 _ g t121 from by repeat (first | (with_reducible first | exact HI0.out | apply IsS59.alloc | apply IsS59.drewN | apply IsS59.drew | refine IsS59.far ?_ NB0_109.out _ | refine IsS59.far ?_ NB0_110.out _ | refine IsS59.far ?_ NB0_123.out _) | exact HI0.out)) (by (with_reducible repeat (first | apply Kd.R_alloc | apply Kd.R_drewN | apply Kd.R_drew)); exact (Q_HO132 h0_)) (by decide)) hk (fun _ h => h.2)) (fun _ h => h.1)) (fun _ h_ => by first | trivial | exact h_ | exact h_.1))
         clear BK109 BK110 HO119 BK123 HK HB HI0; have BK109 := n0_; have BK110 := n1_; have HO119 := n2_; have BK123 := n3_; have HK := n4_; have HB := n5_; have HI0 := n6_; clear n0_ n1_ n2_ n3_ n4_ n5_ n6_; (try clear hb); (try clear hb2); (try clear hk); (try clear hi)
         refine hK.out _ _ ⟨v125, adz_v125, v131, adz_v131, m8_, m13_, (by rw [ha.out]; exact putSel_upk 6 hb_ rfl rfl rfl), (by (with_reducible repeat (first | apply Kd.R_alloc | apply Kd.R_drewN | apply Kd.R_drew)); exact HO119.out), fun _ => (by (with_reducible repeat (first | apply kN | apply kD | apply kA)); exact BK109.out), fun _ => (by (with_reducible repeat (first | apply kN | apply kD | apply kA)); exact BK110.out), (by (with_reducible repeat (first | apply kN | apply kD | apply kA)); exact BK123.out), fun h0_ => absurd ((up_self b 7).symm.trans h0_) (by decide), (by repeat (first | (with_reducible first | exact HK.out | apply KeepBut.set_ | apply keep_drewN | apply keep_drew | apply keep_alloc | refine keep_far ?_ GW109.out _ | refine keep_far ?_ GW110.out _ | refine keep_far ?_ GW123.out _) | exact HK.out)), (by repeat (first | (with_reducible first | exact HB.out | apply bA | apply bN | apply bD | refine bS ?_ (IsS59.ge HI0.out) | refine bS ?_ GE109.out | refine bS ?_ GE110.out | refine bS ?_ GE123.out) | exact HB.out)), z_HO126, Q_HA_HO126, fun _ _ => (by repeat (first | (with_reducible first | exact HI0.out | apply IsS59.alloc | apply IsS59.drewN | apply IsS59.drew | refine IsS59.far ?_ NB0_109.out _ | refine IsS59.far ?_ NB0_110.out _ | refine IsS59.far ?_ NB0_123.out _) | exact HI0.out)), z_HO132, Q_HA_HO132, fun h0_ _ => absurd ((hoff 12 (by kernel_rfl)).symm.trans h0_) (by decide), fun h0_ => absurd ((hoff 16 (by kernel_rfl)).symm.trans h0_) (by decide), fun h0_ => absurd ((hoff 17 (by kernel_rfl)).symm.trans h0_) (by decide), fun h0_ => absurd ((hoff 18 (by kernel_rfl)).symm.trans h0_) (by decide), fun h0_ => absurd ((hoff 8 (by kernel_rfl)).symm.trans h0_) (by decide), fun h0_ => absurd ((hoff 13 (by kernel_rfl)).symm.trans h0_) (by decide)⟩
        refine steps_cons ?_ ?_
        ·rintro b a w' ⟨v125, adz_v125, v131, adz_v131, m8_, m13_, ha, Q_HO119, Q_BK109, Q_BK110, Q_BK123, Q_HI0, Q_HK, Q_HB, Q_HO126, Q_HA_HO126, Q_HI0_e7, Q_HO132, Q_HA_HO132, Q_HI0_e12, Q_HI0_e16, Q_BK109_e17, Q_BK110_e18, Q_X8_, Q_X13_⟩ hb_ hon hoff
         refine ⟨_, rfl, fun K hK => ?_⟩
         have e26 : a.tmps[26]? = some (v125) := by rw [ha]; exact putSel_on (e := (5, 26, v125)) 5 rfl rfl (hon 5 (by kernel_rfl)) rfl
         have e28 : a.tmps[28]? = some (.int .i64 t127) := by rw [ha]; exact putSel_on (e := (7, 28, .int .i64 t127)) 6 rfl rfl (hon 7 (by kernel_rfl)) rfl
         replace ha := Am ha
         have HO119 := Am Q_HO119
         have BK110 := Am (Q_BK110 (hoff 18 (by kernel_rfl)))
         have BK123 := Am Q_BK123
         have HK := Am Q_HK
         have HB := Am Q_HB
         have HO126 := Am (Q_HO126 (hon 5 (by kernel_rfl)))
         have HA_HO126 := Am (Q_HA_HO126 (hon 5 (by kernel_rfl)))
         obtain ⟨c_, hv_⟩ := HA_HO126.out
         rw [hv_] at e26
         refine value_ (w1 := w') (v := .pointer (some (adz_v125.add ((t127).toNat * 2)))) (by rfl) rfl ?_ ?_
         ·go_simp
          (try simp only [i64_w])
          try rfl
         refine hK.out _ _ ⟨v125, adz_v125, v131, adz_v131, (.pointer (some (adz_v125.add ((t127).toNat * 2)))), m13_, (by rw [ha.out]; exact putSel_upk 7 hb_ rfl rfl rfl), Q_HO119, Q_BK109, Q_BK110, Q_BK123, fun h0_ => absurd ((hon 7 (by kernel_rfl)).symm.trans h0_) (by decide), Q_HK, Q_HB, Q_HO126, Q_HA_HO126, Q_HI0_e7, Q_HO132, Q_HA_HO132, Q_HI0_e12, Q_HI0_e16, Q_BK109_e17, fun h0_ => absurd ((hoff 18 (by kernel_rfl)).symm.trans h0_) (by decide), fun _ => rfl, Q_X13_⟩
        refine steps_cons ?_ ?_
        ·rintro b a w' ⟨v125, adz_v125, v131, adz_v131, m8_, m13_, ha, Q_HO119, Q_BK109, Q_BK110, Q_BK123, Q_HI0, Q_HK, Q_HB, Q_HO126, Q_HA_HO126, Q_HI0_e7, Q_HO132, Q_HA_HO132, Q_HI0_e12, Q_HI0_e16, Q_BK109_e17, Q_BK110_e18, Q_X8_, Q_X13_⟩ hb_ hon hoff
         refine ⟨_, rfl, fun K hK => ?_⟩
         have e29 : a.tmps[29]? = some (m8_) := by rw [ha]; exact putSel_on (e := (8, 29, m8_)) 7 rfl rfl (hon 8 (by kernel_rfl)) rfl
         rw [Q_X8_ (hon 8 (by kernel_rfl))] at e29
         replace ha := Am ha
         have HO119 := Am Q_HO119
         have BK110 := Am (Q_BK110 (hoff 18 (by kernel_rfl)))
         have BK123 := Am Q_BK123
         have HK := Am Q_HK
         have HB := Am Q_HB
         have HO126 := Am (Q_HO126 (hon 5 (by kernel_rfl)))
         have HA_HO126 := Am (Q_HA_HO126 (hon 5 (by kernel_rfl)))
         obtain ⟨c_, hv_⟩ := HA_HO126.out
         have hF_ := HO126.out
         rw [hv_] at hF_
         obtain ⟨ad_, ea_, hx_⟩ := at_T27 (Kd.R_reads' hF_).2.2 t127 (of_eq_true pi129) (of_eq_true qi129)
         cases ea_
         refine value_ (w1 := w') (v := .agg #[.int .i64 ((rd_T27 y124 t127).f0), .int .i64 ((rd_T27 y124 t127).f1)]) (by rfl) rfl ?_ ?_
         ·go_simp
          (try simp only [i64_w])
          try rfl
         refine hK.out _ _ ⟨v125, adz_v125, v131, adz_v131, m8_, m13_, (by rw [ha.out]; exact putSel_upk 8 hb_ rfl rfl rfl), Q_HO119, Q_BK109, Q_BK110, Q_BK123, fun h0_ => absurd ((hon 7 (by kernel_rfl)).symm.trans h0_) (by decide), Q_HK, Q_HB, Q_HO126, Q_HA_HO126, Q_HI0_e7, Q_HO132, Q_HA_HO132, Q_HI0_e12, Q_HI0_e16, Q_BK109_e17, fun h0_ => absurd ((hoff 18 (by kernel_rfl)).symm.trans h0_) (by decide), Q_X8_, Q_X13_⟩
        refine steps_cons ?_ ?_
        ·rintro b a w' ⟨v125, adz_v125, v131, adz_v131, m8_, m13_, ha, Q_HO119, Q_BK109, Q_BK110, Q_BK123, Q_HI0, Q_HK, Q_HB, Q_HO126, Q_HA_HO126, Q_HI0_e7, Q_HO132, Q_HA_HO132, Q_HI0_e12, Q_HI0_e16, Q_BK109_e17, Q_BK110_e18, Q_X8_, Q_X13_⟩ hb_ hon hoff
         refine ⟨_, rfl, fun K hK => ?_⟩
         replace ha := Am ha
         have HO119 := Am Q_HO119
         have BK123 := Am Q_BK123
         have HK := Am Q_HK
         have HB := Am Q_HB
         refine Kd.R_lit_step (Kd.int .i64) _ 3 ?hg (N := 31) ?hd (xs := ([0, 66, 100, 4096, 2000] : List Int)) (inner := [.int .i64 0, .int .i64 66, .int .i64 100, .int .i64 4096, .int .i64 2000]) (ok := fun _ => True) (okp := fun _ => True) ?hr ?hp (fun _ hk => hk) trivial (Below.refl _ _) (Nat.le_refl _) (by simp) ?_; (case hd => rfl); (case hg => rfl); (case hr => first | (go_simp; done) | (go_simp; rfl)); (case hp => exact (Reps.one (show Kd.M (Kd.int .i64) _ _ _ 0 [.int .i64 0] from rfl) (Reps.one (show Kd.M (Kd.int .i64) _ _ _ 66 [.int .i64 66] from rfl) (Reps.one (show Kd.M (Kd.int .i64) _ _ _ 100 [.int .i64 100] from rfl) (Reps.one (show Kd.M (Kd.int .i64) _ _ _ 4096 [.int .i64 4096] from rfl) (Reps.one (show Kd.M (Kd.int .i64) _ _ _ 2000 [.int .i64 2000] from rfl) (Reps.none _ _)))))))
         intro v131 w31 ho32 hb hg_ hnew_
         clear hg_ hnew_
         (first | rw [← Ny130.out] at ho32 | (simp only [Int.reduceToNat] at ho32; rw [← Ny130.out] at ho32))
         have n0_ := Am (Kd.R_elder' (by (with_reducible repeat (first | apply Kd.R_alloc | apply Kd.R_drewN | apply Kd.R_drew)); exact HO119.out) (Kd.R_base ho32) hb)
         have n1_ := Am (Kd.R_lower (Kd.R_new' ho32 (Kd.R_lt (by (with_reducible repeat (first | apply Kd.R_alloc | apply Kd.R_drewN | apply Kd.R_drew)); exact HO119.out))) (keep_size (w := w) (g := g) (row := none) (by repeat (first | (with_reducible first | exact HK.out | apply KeepBut.set_ | apply keep_drewN | apply keep_drew | apply keep_alloc | refine keep_far ?_ GW109.out _ | refine keep_far ?_ GW110.out _ | refine keep_far ?_ GW123.out _) | exact HK.out))))
         have n5_ := Am (blk_below (g := gb123) (o := .cells #[.int .i64 (wrap64 (t111 * 8)), .int .i64 t113, .int .i64 (wrap64 (1 + t115)), .int .i64 (rd y117 t120)] 23 (0, 0)) (by (with_reducible repeat (first | apply kN | apply kD | apply kA)); exact BK123.out) hb)
         have n6_ := Am (KeepBut.trans (by repeat (first | (with_reducible first | exact HK.out | apply KeepBut.set_ | apply keep_drewN | apply keep_drew | apply keep_alloc | refine keep_far ?_ GW109.out _ | refine keep_far ?_ GW110.out _ | refine keep_far ?_ GW123.out _) | exact HK.out)) (KeepBut.of_below hb g none) (.inl rfl))
         have n7_ := Am (below_step (by repeat (first | (with_reducible first | exact HB.out | apply bA | apply bN | apply bD | refine bS ?_ GE109.out | refine bS ?_ GE110.out | refine bS ?_ GE123.out) | exact HB.out)) hb)
         have z_BK109 := fun (h0_ : b 17 = false) => (show w31.heap[gb109]? = some (.cells #[.int .i64 0, .int .i64 0, .int .i64 0, .int .i64 0] 23 (0, 0)) from by first | exact (blk_below (g := gb109) (o := .cells #[.int .i64 0, .int .i64 0, .int .i64 0, .int .i64 0] 23 (0, 0)) (by (with_reducible repeat (first | apply kN | apply kD | apply kA)); exact (Q_BK109 h0_)) hb))
         have z_BK110 := fun (h0_ : b 18 = false) => (show w31.heap[gb110]? = some (.cells #[.int .i64 0, .int .i64 0] 27 (0, 0)) from by first | exact (blk_below (g := gb110) (o := .cells #[.int .i64 0, .int .i64 0] 27 (0, 0)) (by (with_reducible repeat (first | apply kN | apply kD | apply kA)); exact (Q_BK110 h0_)) hb))
         have z_HI0 := fun (h0_ : b 7 = false) => (show IsS59 w0 w31 g t121 from by first | exact (IsS59.below (by repeat (first | (with_reducible first | exact (Q_HI0 h0_) | apply IsS59.alloc | apply IsS59.drewN | apply IsS59.drew | refine IsS59.far ?_ NB0_109.out _ | refine IsS59.far ?_ NB0_110.out _ | refine IsS59.far ?_ NB0_123.out _) | exact (Q_HI0 h0_))) hb))
         have z_HO126 := fun (h0_ : b 5 = true) => (show Kd.R k27 27 w31 w.heap.size (fun k_ => k_ ≠ gb110) v125 y124 from by first | exact (Kd.R_below (by (with_reducible repeat (first | apply Kd.R_alloc | apply Kd.R_drewN | apply Kd.R_drew)); exact (Q_HO126 h0_)) hb) | exact Kd.R_mono (Kd.R_below (by (with_reducible repeat (first | apply Kd.R_alloc | apply Kd.R_drewN | apply Kd.R_drew)); exact (Q_HO126 h0_)) hb) (fun _ h_ => by first | trivial | exact h_ | exact h_.1))
         have z_HI0_e7 := fun (h0_ : b 7 = true) (h1_ : b 12 = false) => (show IsS59 w0 w31 g t128 from by first | exact (IsS59.below (by repeat (first | (with_reducible first | exact (Q_HI0_e7 h0_ h1_) | apply IsS59.alloc | apply IsS59.drewN | apply IsS59.drew | refine IsS59.far ?_ NB0_109.out _ | refine IsS59.far ?_ NB0_110.out _ | refine IsS59.far ?_ NB0_123.out _) | exact (Q_HI0_e7 h0_ h1_))) hb))
         have z_HI0_e12 := fun (h0_ : b 12 = true) (h1_ : b 16 = false) => (show IsS59 w0 w31 g t134 from by first | exact (IsS59.below (by repeat (first | (with_reducible first | exact (Q_HI0_e12 h0_ h1_) | apply IsS59.alloc | apply IsS59.drewN | apply IsS59.drew | refine IsS59.far ?_ NB0_109.out _ | refine IsS59.far ?_ NB0_110.out _ | refine IsS59.far ?_ NB0_123.out _) | exact (Q_HI0_e12 h0_ h1_))) hb))
         have z_HI0_e16 := fun (h0_ : b 16 = true) => (show IsS59 w0 w31 g t137 from by first | exact (IsS59.below (by repeat (first | (with_reducible first | exact (Q_HI0_e16 h0_) | apply IsS59.alloc | apply IsS59.drewN | apply IsS59.drew | refine IsS59.far ?_ NB0_109.out _ | refine IsS59.far ?_ NB0_110.out _ | refine IsS59.far ?_ NB0_123.out _) | exact (Q_HI0_e16 h0_))) hb))
         have z_BK109_e17 := fun (h0_ : b 17 = true) => (show w31.heap[gb109]? = some (.cells #[.int .i64 (wrap64 (t111 * 8)), .int .i64 t113, .int .i64 (wrap64 (1 + t115)), .int .i64 (rd y117 t120)] 23 (0, 0)) from by first | exact (blk_below (g := gb109) (o := .cells #[.int .i64 (wrap64 (t111 * 8)), .int .i64 t113, .int .i64 (wrap64 (1 + t115)), .int .i64 (rd y117 t120)] 23 (0, 0)) (by (with_reducible repeat (first | apply kN | apply kD | apply kA)); exact (Q_BK109_e17 h0_)) hb))
         have z_BK110_e18 := fun (h0_ : b 18 = true) => (show w31.heap[gb110]? = some (.cells #[.int .i64 ((rd_T27 y124 t127).f0), .int .i64 ((rd_T27 y124 t127).f1)] 27 (0, 0)) from by first | exact (blk_below (g := gb110) (o := .cells #[.int .i64 ((rd_T27 y124 t127).f0), .int .i64 ((rd_T27 y124 t127).f1)] 27 (0, 0)) (by (with_reducible repeat (first | apply kN | apply kD | apply kA)); exact (Q_BK110_e18 h0_)) hb))
         clear HO119 BK123 HK HB; have HO119 := n0_; have HO132 := n1_; have BK123 := n5_; have HK := n6_; have HB := n7_; clear n0_ n1_ n5_ n6_ n7_ hb ho32
         obtain ⟨Ao33, co33, eo33⟩ := Kd.R_slice HO132.out
         subst eo33
         obtain ⟨ado33, fo33, _⟩ := Kd.at_int (Kd.R_reads' HO132.out).2.2 0 (by decide) (by rw [Ny130.out]; simp)
         cases fo33
         refine hK.out _ _ ⟨v125, adz_v125, .slice (some ado33) y130.length co33, ado33, m8_, m13_, (by rw [ha.out]; exact putSel_upk 9 hb_ rfl rfl rfl), (by (with_reducible repeat (first | apply Kd.R_alloc | apply Kd.R_drewN | apply Kd.R_drew)); exact Kd.R_mono HO119.out (fun _ hk => by first | exact hk.2 | trivial)), z_BK109, z_BK110, (by (with_reducible repeat (first | apply kN | apply kD | apply kA)); exact BK123.out), z_HI0, (by repeat (first | (with_reducible first | exact HK.out | apply KeepBut.set_ | apply keep_drewN | apply keep_drew | apply keep_alloc | refine keep_far ?_ GW109.out _ | refine keep_far ?_ GW110.out _ | refine keep_far ?_ GW123.out _) | exact HK.out)), (by repeat (first | (with_reducible first | exact HB.out | apply bA | apply bN | apply bD | refine bS ?_ GE109.out | refine bS ?_ GE110.out | refine bS ?_ GE123.out) | exact HB.out)), z_HO126, Q_HA_HO126, z_HI0_e7, fun _ => (by (with_reducible repeat (first | apply Kd.R_alloc | apply Kd.R_drewN | apply Kd.R_drew)); exact Kd.R_mono HO132.out (fun _ hk => by first | exact hk.2 | trivial)), fun _ => ⟨_, rfl⟩, z_HI0_e12, z_HI0_e16, z_BK109_e17, z_BK110_e18, Q_X8_, fun h0_ => absurd ((hoff 13 (by kernel_rfl)).symm.trans h0_) (by decide)⟩
        refine steps_cons ?_ ?_
        ·rintro b a w' ⟨v125, adz_v125, v131, adz_v131, m8_, m13_, ha, Q_HO119, Q_BK109, Q_BK110, Q_BK123, Q_HI0, Q_HK, Q_HB, Q_HO126, Q_HA_HO126, Q_HI0_e7, Q_HO132, Q_HA_HO132, Q_HI0_e12, Q_HI0_e16, Q_BK109_e17, Q_BK110_e18, Q_X8_, Q_X13_⟩ hb_ hon hoff
         refine ⟨_, rfl, fun K hK => ?_⟩
         have e32 : a.tmps[32]? = some (.pointer (some ⟨g, 0, none⟩)) := by rw [ha]; exact (putSel_off rfl).trans rfl
         replace ha := Am ha
         have HO119 := Am Q_HO119
         have BK109 := Am (Q_BK109 (hoff 17 (by kernel_rfl)))
         have BK110 := Am (Q_BK110 (hoff 18 (by kernel_rfl)))
         have BK123 := Am Q_BK123
         have HK := Am Q_HK
         have HB := Am Q_HB
         have HI0 := Am (Q_HI0_e7 (hon 7 (by kernel_rfl)) hb_)
         refine goes_ Try.func23 (by kernel_rfl) rfl #[.pointer (some ⟨g, 0, none⟩), .int .i64 5] (by rfl) rfl rfl (by first | (simp only [List.map_toArray, List.map_cons, List.map_nil, Act.eval, Array.getD_eq_getD_getElem?, Option.getD_some, e32]; done) | (simp only [List.map_toArray, List.map_cons, List.map_nil, Act.eval, Array.getD_eq_getD_getElem?, Option.getD_some, e32]; rfl)) ?_
         with_reducible refine (soundservicemade_Dice_Next.calls g t128 5 t133 t134 w0 _ ?side1 ?side2 A11.out).mono ?_
         (case side1 => repeat (first | (with_reducible first | exact HI0.out | apply IsS59.alloc | apply IsS59.drewN | apply IsS59.drew | refine IsS59.far ?_ NB0_109.out _ | refine IsS59.far ?_ NB0_110.out _ | refine IsS59.far ?_ NB0_123.out _) | exact HI0.out))
         (case side2 => repeat (first | (with_reducible first | exact HB.out | apply bA | apply bN | apply bD | refine bS ?_ (IsS59.ge HI0.out) | refine bS ?_ GE109.out | refine bS ?_ GE110.out | refine bS ?_ GE123.out) | exact HB.out))
         rintro e w33 ⟨rfl, hi, hb, hk⟩
         refine ⟨_, rfl, ?_⟩
         have n0_ := Am (KeepBut.blk hk (g' := gb109) (o := .cells #[.int .i64 0, .int .i64 0, .int .i64 0, .int .i64 0] 23 (0, 0)) (by (with_reducible repeat (first | apply kN | apply kD | apply kA)); exact BK109.out) NB109_0.out (by simp))
         have n1_ := Am (KeepBut.blk hk (g' := gb110) (o := .cells #[.int .i64 0, .int .i64 0] 27 (0, 0)) (by (with_reducible repeat (first | apply kN | apply kD | apply kA)); exact BK110.out) NB110_0.out (by simp))
         have n2_ := Am (Kd.R_mono (Kd.R_keep (IsS59.apart (show IsS59 w0 _ g t128 from by repeat (first | (with_reducible first | exact HI0.out | apply IsS59.alloc | apply IsS59.drewN | apply IsS59.drew | refine IsS59.far ?_ NB0_109.out _ | refine IsS59.far ?_ NB0_110.out _ | refine IsS59.far ?_ NB0_123.out _) | exact HI0.out)) (by (with_reducible repeat (first | apply Kd.R_alloc | apply Kd.R_drewN | apply Kd.R_drew)); exact HO119.out) (by decide)) hk (fun _ h => h.2)) (fun _ h => h.1))
         have n3_ := Am (KeepBut.blk hk (g' := gb123) (o := .cells #[.int .i64 (wrap64 (t111 * 8)), .int .i64 t113, .int .i64 (wrap64 (1 + t115)), .int .i64 (rd y117 t120)] 23 (0, 0)) (by (with_reducible repeat (first | apply kN | apply kD | apply kA)); exact BK123.out) NB123_0.out (by simp))
         have n4_ := Am (KeepBut.trans (by repeat (first | (with_reducible first | exact HK.out | apply KeepBut.set_ | apply keep_drewN | apply keep_drew | apply keep_alloc | refine keep_far ?_ GW109.out _ | refine keep_far ?_ GW110.out _ | refine keep_far ?_ GW123.out _) | exact HK.out)) hk (.inl rfl))
         have n5_ := Am (hb)
         have n6_ := Am (hi)
         have z_HO126 := fun (h0_ : b 5 = true) => (show Kd.R k27 27 w33 w.heap.size (fun k_ => k_ ≠ gb110) v125 y124 from by first | exact (Kd.R_mono (Kd.R_keep (IsS59.apart (show IsS59 w0 _ g t128 from by repeat (first | (with_reducible first | exact HI0.out | apply IsS59.alloc | apply IsS59.drewN | apply IsS59.drew | refine IsS59.far ?_ NB0_109.out _ | refine IsS59.far ?_ NB0_110.out _ | refine IsS59.far ?_ NB0_123.out _) | exact HI0.out)) (by (with_reducible repeat (first | apply Kd.R_alloc | apply Kd.R_drewN | apply Kd.R_drew)); exact (Q_HO126 h0_)) (by decide)) hk (fun _ h => h.2)) (fun _ h => h.1)) | exact Kd.R_mono (Kd.R_mono (Kd.R_keep (IsS59.apart (show IsS59 w0 _ g t128 from by repeat (first | (with_reducible first | exact HI0.out | apply IsS59.alloc | apply IsS59.drewN | apply IsS59.drew | refine IsS59.far ?_ NB0_109.out _ | refine IsS59.far ?_ NB0_110.out _ | refine IsS59.far ?_ NB0_123.out _) | exact HI0.out)) (by (with_reducible repeat (first | apply Kd.R_alloc | apply Kd.R_drewN | apply Kd.R_drew)); exact (Q_HO126 h0_)) (by decide)) hk (fun _ h => h.2)) (fun _ h => h.1)) (fun _ h_ => by first | trivial | exact h_ | exact h_.1))
         have z_HO132 := fun (h0_ : b 10 = true) => (show Kd.R (Kd.int .i64) 3 w33 w.heap.size (fun k_ => some k_ ≠ (.slice (some ad122) y117.length co23 : Value).ownBlock) v131 y130 from by first | exact (Kd.R_mono (Kd.R_keep (IsS59.apart (show IsS59 w0 _ g t128 from by repeat (first | (with_reducible first | exact HI0.out | apply IsS59.alloc | apply IsS59.drewN | apply IsS59.drew | refine IsS59.far ?_ NB0_109.out _ | refine IsS59.far ?_ NB0_110.out _ | refine IsS59.far ?_ NB0_123.out _) | exact HI0.out)) (by (with_reducible repeat (first | apply Kd.R_alloc | apply Kd.R_drewN | apply Kd.R_drew)); exact (Q_HO132 h0_)) (by decide)) hk (fun _ h => h.2)) (fun _ h => h.1)) | exact Kd.R_mono (Kd.R_mono (Kd.R_keep (IsS59.apart (show IsS59 w0 _ g t128 from by repeat (first | (with_reducible first | exact HI0.out | apply IsS59.alloc | apply IsS59.drewN | apply IsS59.drew | refine IsS59.far ?_ NB0_109.out _ | refine IsS59.far ?_ NB0_110.out _ | refine IsS59.far ?_ NB0_123.out _) | exact HI0.out)) (by (with_reducible repeat (first | apply Kd.R_alloc | apply Kd.R_drewN | apply Kd.R_drew)); exact (Q_HO132 h0_)) (by decide)) hk (fun _ h => h.2)) (fun _ h => h.1)) (fun _ h_ => by first | trivial | exact h_ | exact h_.1))
         clear BK109 BK110 HO119 BK123 HK HB HI0; have BK109 := n0_; have BK110 := n1_; have HO119 := n2_; have BK123 := n3_; have HK := n4_; have HB := n5_; have HI0 := n6_; clear n0_ n1_ n2_ n3_ n4_ n5_ n6_; (try clear hb); (try clear hb2); (try clear hk); (try clear hi)
         refine hK.out _ _ ⟨v125, adz_v125, v131, adz_v131, m8_, m13_, (by rw [ha.out]; exact putSel_upk 10 hb_ rfl rfl rfl), (by (with_reducible repeat (first | apply Kd.R_alloc | apply Kd.R_drewN | apply Kd.R_drew)); exact HO119.out), fun _ => (by (with_reducible repeat (first | apply kN | apply kD | apply kA)); exact BK109.out), fun _ => (by (with_reducible repeat (first | apply kN | apply kD | apply kA)); exact BK110.out), (by (with_reducible repeat (first | apply kN | apply kD | apply kA)); exact BK123.out), fun h0_ => absurd ((hon 7 (by kernel_rfl)).symm.trans h0_) (by decide), (by repeat (first | (with_reducible first | exact HK.out | apply KeepBut.set_ | apply keep_drewN | apply keep_drew | apply keep_alloc | refine keep_far ?_ GW109.out _ | refine keep_far ?_ GW110.out _ | refine keep_far ?_ GW123.out _) | exact HK.out)), (by repeat (first | (with_reducible first | exact HB.out | apply bA | apply bN | apply bD | refine bS ?_ (IsS59.ge HI0.out) | refine bS ?_ GE109.out | refine bS ?_ GE110.out | refine bS ?_ GE123.out) | exact HB.out)), z_HO126, Q_HA_HO126, fun _ h1_ => absurd ((up_self b 12).symm.trans h1_) (by decide), z_HO132, Q_HA_HO132, fun _ _ => (by repeat (first | (with_reducible first | exact HI0.out | apply IsS59.alloc | apply IsS59.drewN | apply IsS59.drew | refine IsS59.far ?_ NB0_109.out _ | refine IsS59.far ?_ NB0_110.out _ | refine IsS59.far ?_ NB0_123.out _) | exact HI0.out)), fun h0_ => absurd ((hoff 16 (by kernel_rfl)).symm.trans h0_) (by decide), fun h0_ => absurd ((hoff 17 (by kernel_rfl)).symm.trans h0_) (by decide), fun h0_ => absurd ((hoff 18 (by kernel_rfl)).symm.trans h0_) (by decide), Q_X8_, fun h0_ => absurd ((hoff 13 (by kernel_rfl)).symm.trans h0_) (by decide)⟩
        refine steps_cons ?_ ?_
        ·rintro b a w' ⟨v125, adz_v125, v131, adz_v131, m8_, m13_, ha, Q_HO119, Q_BK109, Q_BK110, Q_BK123, Q_HI0, Q_HK, Q_HB, Q_HO126, Q_HA_HO126, Q_HI0_e7, Q_HO132, Q_HA_HO132, Q_HI0_e12, Q_HI0_e16, Q_BK109_e17, Q_BK110_e18, Q_X8_, Q_X13_⟩ hb_ hon hoff
         refine ⟨_, rfl, fun K hK => ?_⟩
         have e31 : a.tmps[31]? = some (v131) := by rw [ha]; exact putSel_on (e := (10, 31, v131)) 9 rfl rfl (hon 10 (by kernel_rfl)) rfl
         have e33 : a.tmps[33]? = some (.int .i64 t133) := by rw [ha]; exact putSel_on (e := (12, 33, .int .i64 t133)) 10 rfl rfl (hon 12 (by kernel_rfl)) rfl
         replace ha := Am ha
         have HO119 := Am Q_HO119
         have BK123 := Am Q_BK123
         have HK := Am Q_HK
         have HB := Am Q_HB
         have HO132 := Am (Q_HO132 (hon 10 (by kernel_rfl)))
         have HA_HO132 := Am (Q_HA_HO132 (hon 10 (by kernel_rfl)))
         obtain ⟨c_, hv_⟩ := HA_HO132.out
         rw [hv_] at e31
         refine value_ (w1 := w') (v := .pointer (some (adz_v131.add (t133).toNat))) (by rfl) rfl ?_ ?_
         ·go_simp
          (try simp only [i64_w])
          try rfl
         refine hK.out _ _ ⟨v125, adz_v125, v131, adz_v131, m8_, (.pointer (some (adz_v131.add (t133).toNat))), (by rw [ha.out]; exact putSel_upk 11 hb_ rfl rfl rfl), Q_HO119, Q_BK109, Q_BK110, Q_BK123, fun h0_ => absurd ((hon 7 (by kernel_rfl)).symm.trans h0_) (by decide), Q_HK, Q_HB, Q_HO126, Q_HA_HO126, fun _ h1_ => absurd ((hon 12 (by kernel_rfl)).symm.trans h1_) (by decide), Q_HO132, Q_HA_HO132, Q_HI0_e12, Q_HI0_e16, Q_BK109_e17, Q_BK110_e18, Q_X8_, fun _ => rfl⟩
        refine steps_cons ?_ ?_
        ·rintro b a w' ⟨v125, adz_v125, v131, adz_v131, m8_, m13_, ha, Q_HO119, Q_BK109, Q_BK110, Q_BK123, Q_HI0, Q_HK, Q_HB, Q_HO126, Q_HA_HO126, Q_HI0_e7, Q_HO132, Q_HA_HO132, Q_HI0_e12, Q_HI0_e16, Q_BK109_e17, Q_BK110_e18, Q_X8_, Q_X13_⟩ hb_ hon hoff
         refine ⟨_, rfl, fun K hK => ?_⟩
         have e34 : a.tmps[34]? = some (m13_) := by rw [ha]; exact putSel_on (e := (13, 34, m13_)) 11 rfl rfl (hon 13 (by kernel_rfl)) rfl
         rw [Q_X13_ (hon 13 (by kernel_rfl))] at e34
         replace ha := Am ha
         have HO119 := Am Q_HO119
         have BK123 := Am Q_BK123
         have HK := Am Q_HK
         have HB := Am Q_HB
         have HO132 := Am (Q_HO132 (hon 10 (by kernel_rfl)))
         have HA_HO132 := Am (Q_HA_HO132 (hon 10 (by kernel_rfl)))
         obtain ⟨c_, hv_⟩ := HA_HO132.out
         have hF_ := HO132.out
         rw [hv_] at hF_
         obtain ⟨ad_, ea_, hx_⟩ := Kd.at_int (Kd.R_reads' hF_).2.2 t133 (of_eq_true pi135) (of_eq_true qi135)
         cases ea_
         refine value_ (w1 := w') (v := .int .i64 (rd y130 t133)) (by rfl) rfl ?_ ?_
         ·go_simp
          (try simp only [i64_w])
          try rfl
         refine hK.out _ _ ⟨v125, adz_v125, v131, adz_v131, m8_, m13_, (by rw [ha.out]; exact putSel_upk 12 hb_ rfl rfl rfl), Q_HO119, Q_BK109, Q_BK110, Q_BK123, fun h0_ => absurd ((hon 7 (by kernel_rfl)).symm.trans h0_) (by decide), Q_HK, Q_HB, Q_HO126, Q_HA_HO126, fun _ h1_ => absurd ((hon 12 (by kernel_rfl)).symm.trans h1_) (by decide), Q_HO132, Q_HA_HO132, Q_HI0_e12, Q_HI0_e16, Q_BK109_e17, Q_BK110_e18, Q_X8_, Q_X13_⟩
        refine steps_cons ?_ ?_
        ·rintro b a w' ⟨v125, adz_v125, v131, adz_v131, m8_, m13_, ha, Q_HO119, Q_BK109, Q_BK110, Q_BK123, Q_HI0, Q_HK, Q_HB, Q_HO126, Q_HA_HO126, Q_HI0_e7, Q_HO132, Q_HA_HO132, Q_HI0_e12, Q_HI0_e16, Q_BK109_e17, Q_BK110_e18, Q_X8_, Q_X13_⟩ hb_ hon hoff
         refine ⟨_, rfl, fun K hK => ?_⟩
         have e36 : a.tmps[36]? = some (.pointer (some ⟨g, 0, none⟩)) := by rw [ha]; exact (putSel_off rfl).trans rfl
         replace ha := Am ha
         have HO119 := Am Q_HO119
         have BK109 := Am (Q_BK109 (hoff 17 (by kernel_rfl)))
         have BK110 := Am (Q_BK110 (hoff 18 (by kernel_rfl)))
         have BK123 := Am Q_BK123
         have HK := Am Q_HK
         have HB := Am Q_HB
         have HI0 := Am (Q_HI0_e12 (hon 12 (by kernel_rfl)) hb_)
         refine goes_ Try.func23 (by kernel_rfl) rfl #[.pointer (some ⟨g, 0, none⟩), .int .i64 20] (by rfl) rfl rfl (by first | (simp only [List.map_toArray, List.map_cons, List.map_nil, Act.eval, Array.getD_eq_getD_getElem?, Option.getD_some, e36]; done) | (simp only [List.map_toArray, List.map_cons, List.map_nil, Act.eval, Array.getD_eq_getD_getElem?, Option.getD_some, e36]; rfl)) ?_
         with_reducible refine (soundservicemade_Dice_Next.calls g t134 20 t136 t137 w0 _ ?side1 ?side2 A14.out).mono ?_
         (case side1 => repeat (first | (with_reducible first | exact HI0.out | apply IsS59.alloc | apply IsS59.drewN | apply IsS59.drew | refine IsS59.far ?_ NB0_109.out _ | refine IsS59.far ?_ NB0_110.out _ | refine IsS59.far ?_ NB0_123.out _) | exact HI0.out))
         (case side2 => repeat (first | (with_reducible first | exact HB.out | apply bA | apply bN | apply bD | refine bS ?_ (IsS59.ge HI0.out) | refine bS ?_ GE109.out | refine bS ?_ GE110.out | refine bS ?_ GE123.out) | exact HB.out))
         rintro e w34 ⟨rfl, hi, hb, hk⟩
         refine ⟨_, rfl, ?_⟩
         have n0_ := Am (KeepBut.blk hk (g' := gb109) (o := .cells #[.int .i64 0, .int .i64 0, .int .i64 0, .int .i64 0] 23 (0, 0)) (by (with_reducible repeat (first | apply kN | apply kD | apply kA)); exact BK109.out) NB109_0.out (by simp))
         have n1_ := Am (KeepBut.blk hk (g' := gb110) (o := .cells #[.int .i64 0, .int .i64 0] 27 (0, 0)) (by (with_reducible repeat (first | apply kN | apply kD | apply kA)); exact BK110.out) NB110_0.out (by simp))
         have n2_ := Am (Kd.R_mono (Kd.R_keep (IsS59.apart (show IsS59 w0 _ g t134 from by repeat (first | (with_reducible first | exact HI0.out | apply IsS59.alloc | apply IsS59.drewN | apply IsS59.drew | refine IsS59.far ?_ NB0_109.out _ | refine IsS59.far ?_ NB0_110.out _ | refine IsS59.far ?_ NB0_123.out _) | exact HI0.out)) (by (with_reducible repeat (first | apply Kd.R_alloc | apply Kd.R_drewN | apply Kd.R_drew)); exact HO119.out) (by decide)) hk (fun _ h => h.2)) (fun _ h => h.1))
         have n3_ := Am (KeepBut.blk hk (g' := gb123) (o := .cells #[.int .i64 (wrap64 (t111 * 8)), .int .i64 t113, .int .i64 (wrap64 (1 + t115)), .int .i64 (rd y117 t120)] 23 (0, 0)) (by (with_reducible repeat (first | apply kN | apply kD | apply kA)); exact BK123.out) NB123_0.out (by simp))
         have n4_ := Am (KeepBut.trans (by repeat (first | (with_reducible first | exact HK.out | apply KeepBut.set_ | apply keep_drewN | apply keep_drew | apply keep_alloc | refine keep_far ?_ GW109.out _ | refine keep_far ?_ GW110.out _ | refine keep_far ?_ GW123.out _) | exact HK.out)) hk (.inl rfl))
         have n5_ := Am (hb)
         have n6_ := Am (hi)
         have z_HO126 := fun (h0_ : b 5 = true) => (show Kd.R k27 27 w34 w.heap.size (fun k_ => k_ ≠ gb110) v125 y124 from by first | exact (Kd.R_mono (Kd.R_keep (IsS59.apart (show IsS59 w0 _ g t134 from by repeat (first | (with_reducible first | exact HI0.out | apply IsS59.alloc | apply IsS59.drewN | apply IsS59.drew | refine IsS59.far ?_ NB0_109.out _ | refine IsS59.far ?_ NB0_110.out _ | refine IsS59.far ?_ NB0_123.out _) | exact HI0.out)) (by (with_reducible repeat (first | apply Kd.R_alloc | apply Kd.R_drewN | apply Kd.R_drew)); exact (Q_HO126 h0_)) (by decide)) hk (fun _ h => h.2)) (fun _ h => h.1)) | exact Kd.R_mono (Kd.R_mono (Kd.R_keep (IsS59.apart (show IsS59 w0 _ g t134 from by repeat (first | (with_reducible first | exact HI0.out | apply IsS59.alloc | apply IsS59.drewN | apply IsS59.drew | refine IsS59.far ?_ NB0_109.out _ | refine IsS59.far ?_ NB0_110.out _ | refine IsS59.far ?_ NB0_123.out _) | exact HI0.out)) (by (with_reducible repeat (first | apply Kd.R_alloc | apply Kd.R_drewN | apply Kd.R_drew)); exact (Q_HO126 h0_)) (by decide)) hk (fun _ h => h.2)) (fun _ h => h.1)) (fun _ h_ => by first | trivial | exact h_ | exact h_.1))
         have z_HO132 := fun (h0_ : b 10 = true) => (show Kd.R (Kd.int .i64) 3 w34 w.heap.size (fun k_ => some k_ ≠ (.slice (some ad122) y117.length co23 : Value).ownBlock) v131 y130 from by first | exact (Kd.R_mono (Kd.R_keep (IsS59.apart (show IsS59 w0 _ g t134 from by repeat (first | (with_reducible first | exact HI0.out | apply IsS59.alloc | apply IsS59.drewN | apply IsS59.drew | refine IsS59.far ?_ NB0_109.out _ | refine IsS59.far ?_ NB0_110.out _ | refine IsS59.far ?_ NB0_123.out _) | exact HI0.out)) (by (with_reducible repeat (first | apply Kd.R_alloc | apply Kd.R_drewN | apply Kd.R_drew)); exact (Q_HO132 h0_)) (by decide)) hk (fun _ h => h.2)) (fun _ h => h.1)) | exact Kd.R_mono (Kd.R_mono (Kd.R_keep (IsS59.apart (show IsS59 w0 _ g t134 from by repeat (first | (with_reducible first | exact HI0.out | apply IsS59.alloc | apply IsS59.drewN | apply IsS59.drew | refine IsS59.far ?_ NB0_109.out _ | refine IsS59.far ?_ NB0_110.out _ | refine IsS59.far ?_ NB0_123.out _) | exact HI0.out)) (by (with_reducible repeat (first | apply Kd.R_alloc | apply Kd.R_drewN | apply Kd.R_drew)); exact (Q_HO132 h0_)) (by decide)) hk (fun _ h => h.2)) (fun _ h => h.1)) (fun _ h_ => by first | trivial | exact h_ | exact h_.1))
         clear BK109 BK110 HO119 BK123 HK HB HI0; have BK109 := n0_; have BK110 := n1_; have HO119 := n2_; have BK123 := n3_; have HK := n4_; have HB := n5_; have HI0 := n6_; clear n0_ n1_ n2_ n3_ n4_ n5_ n6_; (try clear hb); (try clear hb2); (try clear hk); (try clear hi)
         refine hK.out _ _ ⟨v125, adz_v125, v131, adz_v131, m8_, m13_, (by rw [ha.out]; exact putSel_upk 13 hb_ rfl rfl rfl), (by (with_reducible repeat (first | apply Kd.R_alloc | apply Kd.R_drewN | apply Kd.R_drew)); exact HO119.out), fun _ => (by (with_reducible repeat (first | apply kN | apply kD | apply kA)); exact BK109.out), fun _ => (by (with_reducible repeat (first | apply kN | apply kD | apply kA)); exact BK110.out), (by (with_reducible repeat (first | apply kN | apply kD | apply kA)); exact BK123.out), fun h0_ => absurd ((hon 7 (by kernel_rfl)).symm.trans h0_) (by decide), (by repeat (first | (with_reducible first | exact HK.out | apply KeepBut.set_ | apply keep_drewN | apply keep_drew | apply keep_alloc | refine keep_far ?_ GW109.out _ | refine keep_far ?_ GW110.out _ | refine keep_far ?_ GW123.out _) | exact HK.out)), (by repeat (first | (with_reducible first | exact HB.out | apply bA | apply bN | apply bD | refine bS ?_ (IsS59.ge HI0.out) | refine bS ?_ GE109.out | refine bS ?_ GE110.out | refine bS ?_ GE123.out) | exact HB.out)), z_HO126, Q_HA_HO126, fun _ h1_ => absurd ((hon 12 (by kernel_rfl)).symm.trans h1_) (by decide), z_HO132, Q_HA_HO132, fun _ h1_ => absurd ((up_self b 16).symm.trans h1_) (by decide), fun _ => (by repeat (first | (with_reducible first | exact HI0.out | apply IsS59.alloc | apply IsS59.drewN | apply IsS59.drew | refine IsS59.far ?_ NB0_109.out _ | refine IsS59.far ?_ NB0_110.out _ | refine IsS59.far ?_ NB0_123.out _) | exact HI0.out)), fun h0_ => absurd ((hoff 17 (by kernel_rfl)).symm.trans h0_) (by decide), fun h0_ => absurd ((hoff 18 (by kernel_rfl)).symm.trans h0_) (by decide), Q_X8_, Q_X13_⟩
        refine steps_cons ?_ ?_
        ·rintro b a w' ⟨v125, adz_v125, v131, adz_v131, m8_, m13_, ha, Q_HO119, Q_BK109, Q_BK110, Q_BK123, Q_HI0, Q_HK, Q_HB, Q_HO126, Q_HA_HO126, Q_HI0_e7, Q_HO132, Q_HA_HO132, Q_HI0_e12, Q_HI0_e16, Q_BK109_e17, Q_BK110_e18, Q_X8_, Q_X13_⟩ hb_ hon hoff
         refine ⟨_, rfl, fun K hK => ?_⟩
         have e2 : a.tmps[2]? = some (.pointer (some ⟨gb109, 0, none⟩)) := by rw [ha]; exact (putSel_off rfl).trans rfl
         have e21 : a.tmps[21]? = some (.agg #[.int .i64 (wrap64 (t111 * 8)), .int .i64 t113, .int .i64 (wrap64 (1 + t115)), .int .i64 (rd y117 t120)]) := by rw [ha]; exact putSel_on (e := (0, 21, .agg #[.int .i64 (wrap64 (t111 * 8)), .int .i64 t113, .int .i64 (wrap64 (1 + t115)), .int .i64 (rd y117 t120)])) 0 rfl rfl (hon 0 (by kernel_rfl)) rfl
         replace ha := Am ha
         have HO119 := Am Q_HO119
         have BK109 := Am (Q_BK109 hb_)
         have BK110 := Am (Q_BK110 (hoff 18 (by kernel_rfl)))
         have BK123 := Am Q_BK123
         have HK := Am Q_HK
         have HB := Am Q_HB
         have HI0 := Am (Q_HI0_e16 (hon 16 (by kernel_rfl)))
         have hs35 : w'.cell? ⟨gb109, 0, none⟩ = some (.int .i64 0) := (blk_cell BK109.out 0).trans rfl
         have hfs35 := blk_frozen BK109.out 0
         have hns35_1 := NB110_109.out
         have hns35_2 := NB123_109.out
         have hms35_1 := NB109_110.out
         have hms35_2 := NB109_123.out
         have hs36 : w'.cell? ⟨gb109, 1, none⟩ = some (.int .i64 0) := (blk_cell BK109.out 1).trans rfl
         have hfs36 := blk_frozen BK109.out 1
         have hns36_1 := NB110_109.out
         have hns36_2 := NB123_109.out
         have hms36_1 := NB109_110.out
         have hms36_2 := NB109_123.out
         have hs37 : w'.cell? ⟨gb109, 2, none⟩ = some (.int .i64 0) := (blk_cell BK109.out 2).trans rfl
         have hfs37 := blk_frozen BK109.out 2
         have hns37_1 := NB110_109.out
         have hns37_2 := NB123_109.out
         have hms37_1 := NB109_110.out
         have hms37_2 := NB109_123.out
         have hs38 : w'.cell? ⟨gb109, 3, none⟩ = some (.int .i64 0) := (blk_cell BK109.out 3).trans rfl
         have hfs38 := blk_frozen BK109.out 3
         have hns38_1 := NB110_109.out
         have hns38_2 := NB123_109.out
         have hms38_1 := NB109_110.out
         have hms38_2 := NB109_123.out
         refine skip_ (w1 := ?_) (by rfl) rfl ?_ ?_
         rotate_left
         ·go_simp
          rfl
         refine hK.out _ _ ⟨v125, adz_v125, v131, adz_v131, m8_, m13_, (by rw [ha.out]; exact putSel_none (v := undef) rfl), (by (with_reducible repeat (first | apply Kd.R_alloc | apply Kd.R_drewN | apply Kd.R_drew)); exact Kd.R_mono (Kd.R_far (p := ⟨gb109, 3, none⟩) (Kd.R_far (p := ⟨gb109, 2, none⟩) (Kd.R_far (p := ⟨gb109, 1, none⟩) (Kd.R_far (p := ⟨gb109, 0, none⟩) (Kd.R_types HO119.out BK109.out (by decide)) (fun _ hk => hk.2) (.int .i64 (wrap64 (t111 * 8)))) (fun _ hk => hk.2) (.int .i64 t113)) (fun _ hk => hk.2) (.int .i64 (wrap64 (1 + t115)))) (fun _ hk => hk.2) (.int .i64 (rd y117 t120))) (fun _ hk => trivial)), fun h0_ => absurd ((up_self b 17).symm.trans h0_) (by decide), fun _ => (by (with_reducible repeat (first | apply kN | apply kD | apply kA)); refine blk_far ?_ NB110_109.out _; (with_reducible repeat (first | apply kN | apply kD | apply kA)); refine blk_far ?_ NB110_109.out _; (with_reducible repeat (first | apply kN | apply kD | apply kA)); refine blk_far ?_ NB110_109.out _; (with_reducible repeat (first | apply kN | apply kD | apply kA)); refine blk_far ?_ NB110_109.out _; (with_reducible repeat (first | apply kN | apply kD | apply kA)); exact BK110.out), (by (with_reducible repeat (first | apply kN | apply kD | apply kA)); refine blk_far ?_ NB123_109.out _; (with_reducible repeat (first | apply kN | apply kD | apply kA)); refine blk_far ?_ NB123_109.out _; (with_reducible repeat (first | apply kN | apply kD | apply kA)); refine blk_far ?_ NB123_109.out _; (with_reducible repeat (first | apply kN | apply kD | apply kA)); refine blk_far ?_ NB123_109.out _; (with_reducible repeat (first | apply kN | apply kD | apply kA)); exact BK123.out), fun h0_ => absurd ((hon 7 (by kernel_rfl)).symm.trans h0_) (by decide), (by repeat (first | (with_reducible first | exact HK.out | apply KeepBut.set_ | apply keep_drewN | apply keep_drew | apply keep_alloc | refine keep_far ?_ GW109.out _ | refine keep_far ?_ GW110.out _ | refine keep_far ?_ GW123.out _) | exact HK.out)), (by repeat (first | (with_reducible first | exact HB.out | apply bA | apply bN | apply bD | refine bS ?_ (IsS59.ge HI0.out) | refine bS ?_ GE109.out | refine bS ?_ GE110.out | refine bS ?_ GE123.out) | exact HB.out)), fun h0_ => (by (with_reducible repeat (first | apply Kd.R_alloc | apply Kd.R_drewN | apply Kd.R_drew)); exact Kd.R_mono (Kd.R_far (p := ⟨gb109, 3, none⟩) (Kd.R_far (p := ⟨gb109, 2, none⟩) (Kd.R_far (p := ⟨gb109, 1, none⟩) (Kd.R_far (p := ⟨gb109, 0, none⟩) (Kd.R_types (Q_HO126 h0_) BK109.out (by decide)) (fun _ hk => hk.2) (.int .i64 (wrap64 (t111 * 8)))) (fun _ hk => hk.2) (.int .i64 t113)) (fun _ hk => hk.2) (.int .i64 (wrap64 (1 + t115)))) (fun _ hk => hk.2) (.int .i64 (rd y117 t120))) (fun _ hk => hk.1)), Q_HA_HO126, fun _ h1_ => absurd ((hon 12 (by kernel_rfl)).symm.trans h1_) (by decide), fun h0_ => (by (with_reducible repeat (first | apply Kd.R_alloc | apply Kd.R_drewN | apply Kd.R_drew)); exact Kd.R_mono (Kd.R_far (p := ⟨gb109, 3, none⟩) (Kd.R_far (p := ⟨gb109, 2, none⟩) (Kd.R_far (p := ⟨gb109, 1, none⟩) (Kd.R_far (p := ⟨gb109, 0, none⟩) (Kd.R_types (Q_HO132 h0_) BK109.out (by decide)) (fun _ hk => hk.2) (.int .i64 (wrap64 (t111 * 8)))) (fun _ hk => hk.2) (.int .i64 t113)) (fun _ hk => hk.2) (.int .i64 (wrap64 (1 + t115)))) (fun _ hk => hk.2) (.int .i64 (rd y117 t120))) (fun _ hk => hk.1)), Q_HA_HO132, fun _ h1_ => absurd ((hon 16 (by kernel_rfl)).symm.trans h1_) (by decide), fun _ => (by repeat (first | (with_reducible first | exact HI0.out | apply IsS59.alloc | apply IsS59.drewN | apply IsS59.drew | refine IsS59.far ?_ NB0_109.out _ | refine IsS59.far ?_ NB0_110.out _ | refine IsS59.far ?_ NB0_123.out _) | exact HI0.out)), fun _ => (by (with_reducible repeat (first | apply kN | apply kD | apply kA)); refine blk_put (cs := #[.int .i64 (wrap64 (t111 * 8)), .int .i64 t113, .int .i64 (wrap64 (1 + t115)), .int .i64 0]) ?_ 3 _ rfl; (with_reducible repeat (first | apply kN | apply kD | apply kA)); refine blk_put (cs := #[.int .i64 (wrap64 (t111 * 8)), .int .i64 t113, .int .i64 0, .int .i64 0]) ?_ 2 _ rfl; (with_reducible repeat (first | apply kN | apply kD | apply kA)); refine blk_put (cs := #[.int .i64 (wrap64 (t111 * 8)), .int .i64 0, .int .i64 0, .int .i64 0]) ?_ 1 _ rfl; (with_reducible repeat (first | apply kN | apply kD | apply kA)); refine blk_put (cs := #[.int .i64 0, .int .i64 0, .int .i64 0, .int .i64 0]) ?_ 0 _ rfl; (with_reducible repeat (first | apply kN | apply kD | apply kA)); exact BK109.out), fun h0_ => absurd ((hoff 18 (by kernel_rfl)).symm.trans h0_) (by decide), Q_X8_, Q_X13_⟩
        refine steps_cons ?_ ?_
        ·rintro b a w' ⟨v125, adz_v125, v131, adz_v131, m8_, m13_, ha, Q_HO119, Q_BK109, Q_BK110, Q_BK123, Q_HI0, Q_HK, Q_HB, Q_HO126, Q_HA_HO126, Q_HI0_e7, Q_HO132, Q_HA_HO132, Q_HI0_e12, Q_HI0_e16, Q_BK109_e17, Q_BK110_e18, Q_X8_, Q_X13_⟩ hb_ hon hoff
         refine ⟨_, rfl, fun K hK => ?_⟩
         have e3 : a.tmps[3]? = some (.pointer (some ⟨gb110, 0, none⟩)) := by rw [ha]; exact (putSel_off rfl).trans rfl
         have e30 : a.tmps[30]? = some (.agg #[.int .i64 ((rd_T27 y124 t127).f0), .int .i64 ((rd_T27 y124 t127).f1)]) := by rw [ha]; exact putSel_on (e := (9, 30, .agg #[.int .i64 ((rd_T27 y124 t127).f0), .int .i64 ((rd_T27 y124 t127).f1)])) 8 rfl rfl (hon 9 (by kernel_rfl)) rfl
         replace ha := Am ha
         have HO119 := Am Q_HO119
         have BK110 := Am (Q_BK110 hb_)
         have BK123 := Am Q_BK123
         have HK := Am Q_HK
         have HB := Am Q_HB
         have HO126 := Am (Q_HO126 (hon 5 (by kernel_rfl)))
         have HA_HO126 := Am (Q_HA_HO126 (hon 5 (by kernel_rfl)))
         have HI0 := Am (Q_HI0_e16 (hon 16 (by kernel_rfl)))
         have BK109 := Am (Q_BK109_e17 (hon 17 (by kernel_rfl)))
         obtain ⟨co42, eo42⟩ := HA_HO126.out
         clear HA_HO126
         subst eo42
         have hs43 : w'.cell? ⟨gb110, 0, none⟩ = some (.int .i64 0) := (blk_cell BK110.out 0).trans rfl
         have hfs43 := blk_frozen BK110.out 0
         have hns43_0 := NB109_110.out
         have hns43_2 := NB123_110.out
         have hms43_0 := NB110_109.out
         have hms43_2 := NB110_123.out
         have hs44 : w'.cell? ⟨gb110, 1, none⟩ = some (.int .i64 0) := (blk_cell BK110.out 1).trans rfl
         have hfs44 := blk_frozen BK110.out 1
         have hns44_0 := NB109_110.out
         have hns44_2 := NB123_110.out
         have hms44_0 := NB110_109.out
         have hms44_2 := NB110_123.out
         refine skip_ (w1 := ?_) (by rfl) rfl ?_ ?_
         rotate_left
         ·go_simp
          rfl
         refine hK.out _ _ ⟨.slice (some adz_v125) y124.length co42, adz_v125, v131, adz_v131, m8_, m13_, (by rw [ha.out]; exact putSel_none (v := undef) rfl), (by (with_reducible repeat (first | apply Kd.R_alloc | apply Kd.R_drewN | apply Kd.R_drew)); exact Kd.R_mono (Kd.R_far (p := ⟨gb110, 1, none⟩) (Kd.R_far (p := ⟨gb110, 0, none⟩) (Kd.R_types HO119.out BK110.out (by decide)) (fun _ hk => hk.2) (.int .i64 ((rd_T27 y124 t127).f0))) (fun _ hk => hk.2) (.int .i64 ((rd_T27 y124 t127).f1))) (fun _ hk => trivial)), fun h0_ => absurd ((hon 17 (by kernel_rfl)).symm.trans h0_) (by decide), fun h0_ => absurd ((up_self b 18).symm.trans h0_) (by decide), (by (with_reducible repeat (first | apply kN | apply kD | apply kA)); refine blk_far ?_ NB123_110.out _; (with_reducible repeat (first | apply kN | apply kD | apply kA)); refine blk_far ?_ NB123_110.out _; (with_reducible repeat (first | apply kN | apply kD | apply kA)); exact BK123.out), fun h0_ => absurd ((hon 7 (by kernel_rfl)).symm.trans h0_) (by decide), (by repeat (first | (with_reducible first | exact HK.out | apply KeepBut.set_ | apply keep_drewN | apply keep_drew | apply keep_alloc | refine keep_far ?_ GW109.out _ | refine keep_far ?_ GW110.out _ | refine keep_far ?_ GW123.out _) | exact HK.out)), (by repeat (first | (with_reducible first | exact HB.out | apply bA | apply bN | apply bD | refine bS ?_ (IsS59.ge HI0.out) | refine bS ?_ GE109.out | refine bS ?_ GE110.out | refine bS ?_ GE123.out) | exact HB.out)), fun _ => (by (with_reducible repeat (first | apply Kd.R_alloc | apply Kd.R_drewN | apply Kd.R_drew)); exact Kd.R_mono (Kd.R_far (p := ⟨gb110, 1, none⟩) (Kd.R_far (p := ⟨gb110, 0, none⟩) (Kd.R_mono HO126.out (fun k_ hk => (⟨hk, hk⟩ : _ ∧ k_ ≠ gb110))) (fun _ hk => hk.2) (.int .i64 ((rd_T27 y124 t127).f0))) (fun _ hk => hk.2) (.int .i64 ((rd_T27 y124 t127).f1))) (fun _ hk => hk.1)), fun _ => ⟨_, rfl⟩, fun _ h1_ => absurd ((hon 12 (by kernel_rfl)).symm.trans h1_) (by decide), fun h0_ => (by (with_reducible repeat (first | apply Kd.R_alloc | apply Kd.R_drewN | apply Kd.R_drew)); exact Kd.R_mono (Kd.R_far (p := ⟨gb110, 1, none⟩) (Kd.R_far (p := ⟨gb110, 0, none⟩) (Kd.R_types (Q_HO132 h0_) BK110.out (by decide)) (fun _ hk => hk.2) (.int .i64 ((rd_T27 y124 t127).f0))) (fun _ hk => hk.2) (.int .i64 ((rd_T27 y124 t127).f1))) (fun _ hk => hk.1)), Q_HA_HO132, fun _ h1_ => absurd ((hon 16 (by kernel_rfl)).symm.trans h1_) (by decide), fun _ => (by repeat (first | (with_reducible first | exact HI0.out | apply IsS59.alloc | apply IsS59.drewN | apply IsS59.drew | refine IsS59.far ?_ NB0_109.out _ | refine IsS59.far ?_ NB0_110.out _ | refine IsS59.far ?_ NB0_123.out _) | exact HI0.out)), fun _ => (by (with_reducible repeat (first | apply kN | apply kD | apply kA)); refine blk_far ?_ NB109_110.out _; (with_reducible repeat (first | apply kN | apply kD | apply kA)); refine blk_far ?_ NB109_110.out _; (with_reducible repeat (first | apply kN | apply kD | apply kA)); exact BK109.out), fun _ => (by (with_reducible repeat (first | apply kN | apply kD | apply kA)); refine blk_put (cs := #[.int .i64 ((rd_T27 y124 t127).f0), .int .i64 0]) ?_ 1 _ rfl; (with_reducible repeat (first | apply kN | apply kD | apply kA)); refine blk_put (cs := #[.int .i64 0, .int .i64 0]) ?_ 0 _ rfl; (with_reducible repeat (first | apply kN | apply kD | apply kA)); exact BK110.out), Q_X8_, Q_X13_⟩
        refine steps_cons ?_ ?_
        ·rintro b a w' ⟨v125, adz_v125, v131, adz_v131, m8_, m13_, ha, Q_HO119, Q_BK109, Q_BK110, Q_BK123, Q_HI0, Q_HK, Q_HB, Q_HO126, Q_HA_HO126, Q_HI0_e7, Q_HO132, Q_HA_HO132, Q_HI0_e12, Q_HI0_e16, Q_BK109_e17, Q_BK110_e18, Q_X8_, Q_X13_⟩ hb_ hon hoff
         refine ⟨_, rfl, fun K hK => ?_⟩
         have e35 : a.tmps[35]? = some (.int .i64 (rd y130 t133)) := by rw [ha]; exact putSel_on (e := (14, 35, .int .i64 (rd y130 t133))) 12 rfl rfl (hon 14 (by kernel_rfl)) rfl
         replace ha := Am ha
         have HO119 := Am Q_HO119
         have BK123 := Am Q_BK123
         have HK := Am Q_HK
         have HB := Am Q_HB
         have HO126 := Am (Q_HO126 (hon 5 (by kernel_rfl)))
         have HA_HO126 := Am (Q_HA_HO126 (hon 5 (by kernel_rfl)))
         have HO132 := Am (Q_HO132 (hon 10 (by kernel_rfl)))
         have HA_HO132 := Am (Q_HA_HO132 (hon 10 (by kernel_rfl)))
         have HI0 := Am (Q_HI0_e16 (hon 16 (by kernel_rfl)))
         have BK109 := Am (Q_BK109_e17 (hon 17 (by kernel_rfl)))
         have BK110 := Am (Q_BK110_e18 (hon 18 (by kernel_rfl)))
         refine value_ (w1 := w') (v := .int .i64 (rd y130 t133)) (by rfl) rfl ?_ ?_
         ·go_simp
          (try simp only [i64_w])
          try rfl
         refine hK.out _ _ ⟨v125, adz_v125, v131, adz_v131, m8_, m13_, (by rw [ha.out]; exact putSel_upk 14 hb_ rfl rfl rfl), Q_HO119, fun h0_ => absurd ((hon 17 (by kernel_rfl)).symm.trans h0_) (by decide), fun h0_ => absurd ((hon 18 (by kernel_rfl)).symm.trans h0_) (by decide), Q_BK123, fun h0_ => absurd ((hon 7 (by kernel_rfl)).symm.trans h0_) (by decide), Q_HK, Q_HB, Q_HO126, Q_HA_HO126, fun _ h1_ => absurd ((hon 12 (by kernel_rfl)).symm.trans h1_) (by decide), Q_HO132, Q_HA_HO132, fun _ h1_ => absurd ((hon 16 (by kernel_rfl)).symm.trans h1_) (by decide), Q_HI0_e16, Q_BK109_e17, Q_BK110_e18, Q_X8_, Q_X13_⟩
        refine steps_cons ?_ ?_
        ·rintro b a w' ⟨v125, adz_v125, v131, adz_v131, m8_, m13_, ha, Q_HO119, Q_BK109, Q_BK110, Q_BK123, Q_HI0, Q_HK, Q_HB, Q_HO126, Q_HA_HO126, Q_HI0_e7, Q_HO132, Q_HA_HO132, Q_HI0_e12, Q_HI0_e16, Q_BK109_e17, Q_BK110_e18, Q_X8_, Q_X13_⟩ hb_ hon hoff
         refine ⟨_, rfl, fun K hK => ?_⟩
         have e37 : a.tmps[37]? = some (.int .i64 t136) := by rw [ha]; exact putSel_on (e := (16, 37, .int .i64 t136)) 13 rfl rfl (hon 16 (by kernel_rfl)) rfl
         replace ha := Am ha
         have HO119 := Am Q_HO119
         have BK123 := Am Q_BK123
         have HK := Am Q_HK
         have HB := Am Q_HB
         have HO126 := Am (Q_HO126 (hon 5 (by kernel_rfl)))
         have HA_HO126 := Am (Q_HA_HO126 (hon 5 (by kernel_rfl)))
         have HO132 := Am (Q_HO132 (hon 10 (by kernel_rfl)))
         have HA_HO132 := Am (Q_HA_HO132 (hon 10 (by kernel_rfl)))
         have HI0 := Am (Q_HI0_e16 (hon 16 (by kernel_rfl)))
         have BK109 := Am (Q_BK109_e17 (hon 17 (by kernel_rfl)))
         have BK110 := Am (Q_BK110_e18 (hon 18 (by kernel_rfl)))
         refine value_ (w1 := w') (v := .int .i64 t136) (by rfl) rfl ?_ ?_
         ·go_simp
          (try simp only [i64_w])
          try rfl
         refine hK.out _ _ ⟨v125, adz_v125, v131, adz_v131, m8_, m13_, (by rw [ha.out]; exact putSel_upk 15 hb_ rfl rfl rfl), Q_HO119, fun h0_ => absurd ((hon 17 (by kernel_rfl)).symm.trans h0_) (by decide), fun h0_ => absurd ((hon 18 (by kernel_rfl)).symm.trans h0_) (by decide), Q_BK123, fun h0_ => absurd ((hon 7 (by kernel_rfl)).symm.trans h0_) (by decide), Q_HK, Q_HB, Q_HO126, Q_HA_HO126, fun _ h1_ => absurd ((hon 12 (by kernel_rfl)).symm.trans h1_) (by decide), Q_HO132, Q_HA_HO132, fun _ h1_ => absurd ((hon 16 (by kernel_rfl)).symm.trans h1_) (by decide), Q_HI0_e16, Q_BK109_e17, Q_BK110_e18, Q_X8_, Q_X13_⟩
        exact steps_nil
       rintro b a w46 hall ⟨v125, adz_v125, v131, adz_v131, m8_, m13_, ha, Q_HO119, Q_BK109, Q_BK110, Q_BK123, Q_HI0, Q_HK, Q_HB, Q_HO126, Q_HA_HO126, Q_HI0_e7, Q_HO132, Q_HA_HO132, Q_HI0_e12, Q_HI0_e16, Q_BK109_e17, Q_BK110_e18, Q_X8_, Q_X13_⟩
       clear BK109 BK110 BK123 HB HI0 HK HO119
       have hb0_ := hall 0 (by kernel_rfl)
       have hb1_ := hall 1 (by kernel_rfl)
       have hb2_ := hall 2 (by kernel_rfl)
       have hb3_ := hall 3 (by kernel_rfl)
       have hb4_ := hall 4 (by kernel_rfl)
       have hb5_ := hall 5 (by kernel_rfl)
       have hb7_ := hall 7 (by kernel_rfl)
       have hb8_ := hall 8 (by kernel_rfl)
       have hb9_ := hall 9 (by kernel_rfl)
       have hb10_ := hall 10 (by kernel_rfl)
       have hb12_ := hall 12 (by kernel_rfl)
       have hb13_ := hall 13 (by kernel_rfl)
       have hb14_ := hall 14 (by kernel_rfl)
       have hb16_ := hall 16 (by kernel_rfl)
       have hb17_ := hall 17 (by kernel_rfl)
       have hb18_ := hall 18 (by kernel_rfl)
       have hb19_ := hall 19 (by kernel_rfl)
       have hb20_ := hall 20 (by kernel_rfl)
       subst ha
       obtain rfl := Q_X8_ hb8_
       obtain rfl := Q_X13_ hb13_
       simp only [putSel, hb0_, hb1_, hb2_, hb3_, hb4_, hb5_, hb7_, hb8_, hb9_, hb10_, hb12_, hb13_, hb14_, hb16_, hb17_, hb18_, hb19_, hb20_, if_true, pL]
       have HO119 := Am Q_HO119
       clear Q_HO119 Q_BK109 Q_BK110
       have BK123 := Am Q_BK123
       clear Q_BK123 Q_HI0
       have HK := Am Q_HK
       clear Q_HK
       have HB := Am Q_HB
       clear Q_HB
       have HO126 := Am (Q_HO126 hb5_)
       clear Q_HO126
       have HA_HO126 := Am (Q_HA_HO126 hb5_)
       clear Q_HA_HO126 Q_HI0_e7
       have HO132 := Am (Q_HO132 hb10_)
       clear Q_HO132
       have HA_HO132 := Am (Q_HA_HO132 hb10_)
       clear Q_HA_HO132 Q_HI0_e12
       have HI0 := Am (Q_HI0_e16 hb16_)
       clear Q_HI0_e16
       have BK109 := Am (Q_BK109_e17 hb17_)
       clear Q_BK109_e17
       have BK110 := Am (Q_BK110_e18 hb18_)
       clear Q_BK110_e18 hall hb0_ hb1_ hb2_ hb3_ hb4_ hb5_ hb7_ hb8_ hb9_ hb10_ hb12_ hb13_ hb14_ hb16_ hb17_ hb18_ hb19_ hb20_
       obtain ⟨co47, eo47⟩ := HA_HO126.out
       clear HA_HO126
       subst eo47
       obtain ⟨co48, eo48⟩ := HA_HO132.out
       clear HA_HO132
       subst eo48
       try go_wp2
       refine bodyPost_ret (results_list (rs := [.cell 2 23, .cell 3 27, .tmp 4, .tmp 5]) rfl (by simp) (.cell gb109 23 #[.int .i64 (wrap64 (t111 * 8)), .int .i64 t113, .int .i64 (wrap64 (1 + t115)), .int .i64 (rd y117 t120)] (0, 0) _ rfl (by (with_reducible repeat (first | apply kN | apply kD | apply kA)); exact BK109.out) Try.underlying23 rfl (by kernel_rfl) (.cell gb110 27 #[.int .i64 ((rd_T27 y124 t127).f0), .int .i64 ((rd_T27 y124 t127).f1)] (0, 0) _ rfl (by (with_reducible repeat (first | apply kN | apply kD | apply kA)); exact BK110.out) Try.underlying27 rfl (by kernel_rfl) (.tmp (.tmp .nil))))) rfl ?_
       exact ⟨by first | rfl | (simp [errW_none, errW_some] <;> rfl) | (simp [*, errW_none, errW_some] <;> rfl), by repeat (first | (with_reducible first | exact HI0.out | apply IsS59.alloc | apply IsS59.drewN | apply IsS59.drew | refine IsS59.far ?_ NB0_109.out _ | refine IsS59.far ?_ NB0_110.out _ | refine IsS59.far ?_ NB0_123.out _) | exact HI0.out), by repeat (first | (with_reducible first | exact HB.out | apply bA | apply bN | apply bD | refine bS ?_ (IsS59.ge HI0.out) | refine bS ?_ GE109.out | refine bS ?_ GE110.out | refine bS ?_ GE123.out) | exact HB.out), by repeat (first | (with_reducible first | exact HK.out | apply KeepBut.set_ | apply keep_drewN | apply keep_drew | apply keep_alloc | refine keep_far ?_ GW109.out _ | refine keep_far ?_ GW110.out _ | refine keep_far ?_ GW123.out _) | exact HK.out)⟩
      ·rw [if_neg c13] at H
       exact absurd H (by simp)
     ·rw [if_neg c12] at H
      exact absurd H (by simp)
    ·rw [if_neg c10] at H
     exact absurd H (by simp)
   ·rw [if_neg c9] at H
    exact absurd H (by simp)
  ·rw [if_neg c7] at H
   exact absurd H (by simp)
 ·rw [if_neg c6] at H
  exact absurd H (by simp)

end Go.Proofs.Ytcnheiemajghiaa.PA
