/- Walks of functions of the program: each does what its Lean function says. Written by a program of this session (wip/xprint), which runs the printer of the kit with changes. -/
import Derived.Test.YtcnheiemajghiaaPAx0
import Derived.Test.YtcnheiemajghiaaPAx10
namespace Go.Proofs.Ytcnheiemajghiaa.PA
open Go.RowKit Go.Proofs.YtcnheiemajghiaaW.PrintWords Go.Proofs.YtcnheiemajghiaaW.PrintLast Go.Proofs.YtcnheiemajghiaaW.PrintMore
attribute [local go_sem] max2_int min2_int max_two min_two max_three min_three max_four min_four   -- for this text's walks alone
set_option linter.unusedVariables false
set_option linter.unusedSimpArgs false

/-! ### soundserviceref18_near: function 42 -/
def soundserviceref18_near.f (a0_0 : Int) (a0_1 : Int) (a1_0 : Int) (a1_1 : Int) (a2_0 : Int) (a2_1 : Int) : Option (Bool) := (soundserviceref18_plus.f a1_0 a1_1 a2_0 a2_1).bind fun bt224 => ((soundserviceref18_more.f a0_0 a0_1 bt224.1 bt224.2).bind fun t226 => (if t226 = true then (some false) else ((soundserviceref18_plus.f a0_0 a0_1 a2_0 a2_1).bind fun bt227 => ((soundserviceref18_more.f a1_0 a1_1 bt227.1 bt227.2).bind fun t229 => (some (!t229))))))
def soundserviceref18_near.T1 : Bool × List (List Nat × List Nat) := (true, [([], []), ([], []), ([], []), ([1, 2], [1, 2]), ([0, 3, 3], [0, 3]), ([4], [4]), ([5, 4], [5]), ([6], [6]), ([6], [6]), ([6], [6]), ([8, 9, 6, 6], [6, 8, 9]), ([7, 10, 10, 6], [6, 7, 10]), ([11, 6], [6, 11]), ([6, 12], [6, 12]), ([13, 11, 0, 1, 2, 3, 4, 5, 6, 7, 8, 9, 10, 11, 12, 13], [13])])
def soundserviceref18_near.B1 : List Nat := [0, 0, 0, 6, 15, 31, 63, 127, 127, 127, 895, 2047, 4095, 8191, 16383]
theorem soundserviceref18_near.tab1 : rtab .any (opsOf Try.f42 1) = soundserviceref18_near.T1 := by kernel_rfl
theorem soundserviceref18_near.bits1 : waitsOk soundserviceref18_near.T1.2 soundserviceref18_near.B1 = true := by kernel_rfl
abbrev soundserviceref18_near.q0 : Array Bool := #[false, false, false, false, false, false, false, false, false, false, false, false, false, false, false]
abbrev soundserviceref18_near.q1 : Array Bool := #[true, false, false, false, false, false, false, false, false, false, false, false, false, false, false]
abbrev soundserviceref18_near.q2 : Array Bool := #[true, true, false, false, false, false, false, false, false, false, false, false, false, false, false]
abbrev soundserviceref18_near.q3 : Array Bool := #[true, true, true, false, false, false, false, false, false, false, false, false, false, false, false]
abbrev soundserviceref18_near.q4 : Array Bool := #[true, true, true, true, false, false, false, false, false, false, false, false, false, false, false]
abbrev soundserviceref18_near.q5 : Array Bool := #[true, true, true, true, true, false, false, false, false, false, false, false, false, false, false]
abbrev soundserviceref18_near.q6 : Array Bool := #[true, true, true, true, true, true, false, false, false, false, false, false, false, false, false]
abbrev soundserviceref18_near.q7 : Array Bool := #[true, true, true, true, true, true, true, false, false, false, false, false, false, false, false]
abbrev soundserviceref18_near.q8 : Array Bool := #[true, true, true, true, true, true, true, true, false, false, false, false, false, false, false]
abbrev soundserviceref18_near.q9 : Array Bool := #[true, true, true, true, true, true, true, true, true, false, false, false, false, false, false]
abbrev soundserviceref18_near.q10 : Array Bool := #[true, true, true, true, true, true, true, true, true, true, false, false, false, false, false]
abbrev soundserviceref18_near.q11 : Array Bool := #[true, true, true, true, true, true, true, true, true, true, true, false, false, false, false]
abbrev soundserviceref18_near.q12 : Array Bool := #[true, true, true, true, true, true, true, true, true, true, true, true, false, false, false]
abbrev soundserviceref18_near.q13 : Array Bool := #[true, true, true, true, true, true, true, true, true, true, true, true, true, false, false]
abbrev soundserviceref18_near.q14 : Array Bool := #[true, true, true, true, true, true, true, true, true, true, true, true, true, true, false]
abbrev soundserviceref18_near.q15 : Array Bool := #[true, true, true, true, true, true, true, true, true, true, true, true, true, true, true]
set_option maxHeartbeats 8000000 in
set_option maxRecDepth 100000 in
theorem soundserviceref18_near.calls (a0_0 : Int) (a0_1 : Int) (a1_0 : Int) (a1_1 : Int) (a2_0 : Int) (a2_1 : Int) (r : Bool) (w : World) (h : soundserviceref18_near.f a0_0 a0_1 a1_0 a1_1 a2_0 a2_1 = some r) :
  Calls Try.prog 42 #[.agg #[.int .u64 a0_0, .int .u64 a0_1], .agg #[.int .u64 a1_0, .int .u64 a1_1], .agg #[.int .u64 a2_0, .int .u64 a2_1]] w fun e w' => e = .returned (.bool r) ∧ Below w.heap.size w w' := by
 have hu76 := Try.underlying76
 have HB := Am (Below.refl w.heap.size w)
 have H : ((soundserviceref18_plus.f a1_0 a1_1 a2_0 a2_1).bind fun bt224 => ((soundserviceref18_more.f a0_0 a0_1 bt224.1 bt224.2).bind fun t226 => (if t226 = true then (some false) else ((soundserviceref18_plus.f a0_0 a0_1 a2_0 a2_1).bind fun bt227 => ((soundserviceref18_more.f a1_0 a1_1 bt227.1 bt227.2).bind fun t229 => (some (!t229))))))) = some r := h
 clear h
 replace H := Option.bind_eq_some_iff.mp H
 obtain ⟨⟨t224, t225⟩, A40, H⟩ := H
 replace H : ((soundserviceref18_more.f a0_0 a0_1 t224 t225).bind fun t226 => (if t226 = true then (some false) else ((soundserviceref18_plus.f a0_0 a0_1 a2_0 a2_1).bind fun bt227 => ((soundserviceref18_more.f a1_0 a1_1 bt227.1 bt227.2).bind fun t229 => (some (!t229)))))) = some r := H
 have A4 := Am A40
 clear A40
 replace H := Option.bind_eq_some_iff.mp H
 obtain ⟨t226, A50, H⟩ := H
 replace H : (if t226 = true then (some false) else ((soundserviceref18_plus.f a0_0 a0_1 a2_0 a2_1).bind fun bt227 => ((soundserviceref18_more.f a1_0 a1_1 bt227.1 bt227.2).bind fun t229 => (some (!t229))))) = some r := H
 have A5 := Am A50
 clear A50
 by_cases c6 : t226 = true
 ·subst c6
  have H1 : (some false) = some r := by rw [if_pos rfl] at H; exact H
  clear H; have H := H1; clear H1
  obtain rfl := Option.some.inj H
  go_enter Try.func42, Try.ntmps42
  try go_wp2_with (first | ((with_reducible refine gate_dst (N := 3) rfl ?_); refine box_event ?hg (N := 3) ?hd (cs := #[.int .u64 a0_0, .int .u64 a0_1]) (t := 76) ?hr ?_; (case hd => rfl); (case hg => rfl); (case hr => first | (go_simp; done) | (go_simp; rfl)); intro gb221 hg w7 hbox hb; have n0_ := Am (below_step (by repeat (first | (with_reducible first | exact HB.out | apply bA | apply bN | apply bD) | exact HB.out)) hb); have n1_ := Am (hbox); have n2_ := Am ((by rw [hg]; exact (below_size (by repeat (first | (with_reducible first | exact HB.out | apply bA | apply bN | apply bD) | exact HB.out))) : w.heap.size ≤ gb221)); have n3_ := Am ((by rw [hg]; exact (below_size (by repeat (first | (with_reducible first | exact HB.out | apply bA | apply bN | apply bD) | exact HB.out))) : w.heap.size ≤ gb221)); clear HB; have HB := n0_; have BK221 := n1_; have GW221 := n2_; have GE221 := n3_; clear n0_ n1_ n2_ n3_ hb hbox hg) | ((with_reducible refine gate_dst (N := 4) rfl ?_); refine box_event ?hg (N := 4) ?hd (cs := #[.int .u64 a1_0, .int .u64 a1_1]) (t := 76) ?hr ?_; (case hd => rfl); (case hg => rfl); (case hr => first | (go_simp; done) | (go_simp; rfl)); intro gb222 hg w8 hbox hb; have n0_ := Am (blk_below (g := gb221) (o := .cells #[.int .u64 a0_0, .int .u64 a0_1] 76 (0, 0)) (by (with_reducible repeat (first | apply kN | apply kD | apply kA)); exact BK221.out) hb); have n1_ := Am (below_step (by repeat (first | (with_reducible first | exact HB.out | apply bA | apply bN | apply bD | refine bS ?_ GE221.out) | exact HB.out)) hb); have n2_ := Am (hbox); have n3_ := Am ((by rw [hg]; exact (below_size (by repeat (first | (with_reducible first | exact HB.out | apply bA | apply bN | apply bD | refine bS ?_ GE221.out) | exact HB.out))) : w.heap.size ≤ gb222)); have n4_ := Am ((by rw [hg]; exact (below_size (by repeat (first | (with_reducible first | exact HB.out | apply bA | apply bN | apply bD | refine bS ?_ GE221.out) | exact HB.out))) : w.heap.size ≤ gb222)); have n5_ := Am ((by rw [hg]; exact Nat.ne_of_lt (blk_lt (g := gb221) (o := .cells #[.int .u64 a0_0, .int .u64 a0_1] 76 (0, 0)) (by (with_reducible repeat (first | apply kN | apply kD | apply kA)); exact BK221.out)) : gb221 ≠ gb222)); have n6_ := Am ((by rw [hg]; exact Nat.ne_of_gt (blk_lt (g := gb221) (o := .cells #[.int .u64 a0_0, .int .u64 a0_1] 76 (0, 0)) (by (with_reducible repeat (first | apply kN | apply kD | apply kA)); exact BK221.out)) : gb222 ≠ gb221)); clear BK221 HB; have BK221 := n0_; have HB := n1_; have BK222 := n2_; have GW222 := n3_; have GE222 := n4_; have NB221_222 := n5_; have NB222_221 := n6_; clear n0_ n1_ n2_ n3_ n4_ n5_ n6_ hb hbox hg) | ((with_reducible refine gate_dst (N := 5) rfl ?_); refine box_event ?hg (N := 5) ?hd (cs := #[.int .u64 a2_0, .int .u64 a2_1]) (t := 76) ?hr ?_; (case hd => rfl); (case hg => rfl); (case hr => first | (go_simp; done) | (go_simp; rfl)); intro gb223 hg w9 hbox hb; have n0_ := Am (blk_below (g := gb221) (o := .cells #[.int .u64 a0_0, .int .u64 a0_1] 76 (0, 0)) (by (with_reducible repeat (first | apply kN | apply kD | apply kA)); exact BK221.out) hb); have n1_ := Am (blk_below (g := gb222) (o := .cells #[.int .u64 a1_0, .int .u64 a1_1] 76 (0, 0)) (by (with_reducible repeat (first | apply kN | apply kD | apply kA)); exact BK222.out) hb); have n2_ := Am (below_step (by repeat (first | (with_reducible first | exact HB.out | apply bA | apply bN | apply bD | refine bS ?_ GE221.out | refine bS ?_ GE222.out) | exact HB.out)) hb); have n3_ := Am (hbox); have n4_ := Am ((by rw [hg]; exact (below_size (by repeat (first | (with_reducible first | exact HB.out | apply bA | apply bN | apply bD | refine bS ?_ GE221.out | refine bS ?_ GE222.out) | exact HB.out))) : w.heap.size ≤ gb223)); have n5_ := Am ((by rw [hg]; exact (below_size (by repeat (first | (with_reducible first | exact HB.out | apply bA | apply bN | apply bD | refine bS ?_ GE221.out | refine bS ?_ GE222.out) | exact HB.out))) : w.heap.size ≤ gb223)); have n6_ := Am ((by rw [hg]; exact Nat.ne_of_lt (blk_lt (g := gb221) (o := .cells #[.int .u64 a0_0, .int .u64 a0_1] 76 (0, 0)) (by (with_reducible repeat (first | apply kN | apply kD | apply kA)); exact BK221.out)) : gb221 ≠ gb223)); have n7_ := Am ((by rw [hg]; exact Nat.ne_of_gt (blk_lt (g := gb221) (o := .cells #[.int .u64 a0_0, .int .u64 a0_1] 76 (0, 0)) (by (with_reducible repeat (first | apply kN | apply kD | apply kA)); exact BK221.out)) : gb223 ≠ gb221)); have n8_ := Am ((by rw [hg]; exact Nat.ne_of_lt (blk_lt (g := gb222) (o := .cells #[.int .u64 a1_0, .int .u64 a1_1] 76 (0, 0)) (by (with_reducible repeat (first | apply kN | apply kD | apply kA)); exact BK222.out)) : gb222 ≠ gb223)); have n9_ := Am ((by rw [hg]; exact Nat.ne_of_gt (blk_lt (g := gb222) (o := .cells #[.int .u64 a1_0, .int .u64 a1_1] 76 (0, 0)) (by (with_reducible repeat (first | apply kN | apply kD | apply kA)); exact BK222.out)) : gb223 ≠ gb222)); clear BK221 BK222 HB; have BK221 := n0_; have BK222 := n1_; have HB := n2_; have BK223 := n3_; have GW223 := n4_; have GE223 := n5_; have NB221_223 := n6_; have NB223_221 := n7_; have NB222_223 := n8_; have NB223_222 := n9_; clear n0_ n1_ n2_ n3_ n4_ n5_ n6_ n7_ n8_ n9_ hb hbox hg))
  have n0_ := Am (kD BK221.out)
  have n1_ := Am (kD BK222.out)
  have n2_ := Am (kD BK223.out)
  have n3_ := Am (bD HB.out)
  clear BK221 BK222 BK223 HB; have BK221 := n0_; have BK222 := n1_; have BK223 := n2_; have HB := n3_; clear n0_ n1_ n2_ n3_
  refine start_ (n := 15) (S := fun w' => w'.cell? ⟨gb221, 0, none⟩ = some (.int .u64 a0_0) ∧ w'.cell? ⟨gb221, 1, none⟩ = some (.int .u64 a0_1) ∧ w'.cell? ⟨gb222, 0, none⟩ = some (.int .u64 a1_0) ∧ w'.cell? ⟨gb222, 1, none⟩ = some (.int .u64 a1_1) ∧ w'.cell? ⟨gb223, 0, none⟩ = some (.int .u64 a2_0) ∧ w'.cell? ⟨gb223, 1, none⟩ = some (.int .u64 a2_1)) (ds := []) soundserviceref18_near.q0 (by kernel_rfl) rfl rfl ⟨(blk_cell BK221.out 0).trans rfl, (blk_cell BK221.out 1).trans rfl, (blk_cell BK222.out 0).trans rfl, (blk_cell BK222.out 1).trans rfl, (blk_cell BK223.out 0).trans rfl, (blk_cell BK223.out 1).trans rfl⟩ (fun hHeld => ?_); refine with_tabW soundserviceref18_near.tab1 soundserviceref18_near.bits1 (fun HT_ HW_ => ?_)
  generalize w9.drew = w10 at BK221 BK222 BK223 HB hHeld ⊢
  refine take_ (i := 0) (N := some 7) (v := ?_) (a' := ?_) soundserviceref18_near.q1 rfl rfl (take_ofW HT_.out HW_.out (by kernel_rfl)) (fun _ _ _ h => h) (Or.inl ⟨by rfl, ?_⟩) hHeld ?_ ?_
  rotate_left; (· rintro w' ⟨s0, s1, s2, s3, s4, s5⟩; go_simp; with_reducible rfl); rotate_left; (· simp only [pL, i64_w, i32_w]; rfl)
  refine take_ (i := 1) (N := some 8) (v := ?_) (a' := ?_) soundserviceref18_near.q2 rfl rfl (take_ofW HT_.out HW_.out (by kernel_rfl)) (fun _ _ _ h => h) (Or.inl ⟨by rfl, ?_⟩) hHeld ?_ ?_
  rotate_left; (· rintro w' ⟨s0, s1, s2, s3, s4, s5⟩; go_simp; with_reducible rfl); rotate_left; (· simp only [pL, i64_w, i32_w]; rfl)
  refine take_ (i := 2) (N := some 9) (v := ?_) (a' := ?_) soundserviceref18_near.q3 rfl rfl (take_ofW HT_.out HW_.out (by kernel_rfl)) (fun _ _ _ h => h) (Or.inl ⟨by rfl, ?_⟩) hHeld ?_ ?_
  rotate_left; (· rintro w' ⟨s0, s1, s2, s3, s4, s5⟩; go_simp; with_reducible rfl); rotate_left; (· simp only [pL, i64_w, i32_w]; rfl)
  refine one_ (i := 3) (N := some 10) soundserviceref18_near.q4 rfl rfl (one_of HT_.out (by kernel_rfl)) (by decide) (fun K hK => ?_)
  refine goes_ Try.func41 (by kernel_rfl) rfl #[.agg #[.int .u64 a1_0, .int .u64 a1_1], .agg #[.int .u64 a2_0, .int .u64 a2_1]] (by rfl) rfl rfl (by (try simp only [List.map_toArray, List.map_cons, List.map_nil]); first | done | rfl | (simp only [List.length_drop, List.length_take]; rfl)) ?_
  with_reducible refine (soundserviceref18_plus.calls a1_0 a1_1 a2_0 a2_1 t224 t225 _ A4.out).mono ?_
  rintro e w11 ⟨rfl, hb⟩
  refine ⟨_, rfl, ?_⟩
  have n0_ := Am (blk_below (g := gb221) (o := .cells #[.int .u64 a0_0, .int .u64 a0_1] 76 (0, 0)) (by (with_reducible repeat (first | apply kN | apply kD | apply kA)); exact BK221.out) hb)
  have n1_ := Am (blk_below (g := gb222) (o := .cells #[.int .u64 a1_0, .int .u64 a1_1] 76 (0, 0)) (by (with_reducible repeat (first | apply kN | apply kD | apply kA)); exact BK222.out) hb)
  have n2_ := Am (blk_below (g := gb223) (o := .cells #[.int .u64 a2_0, .int .u64 a2_1] 76 (0, 0)) (by (with_reducible repeat (first | apply kN | apply kD | apply kA)); exact BK223.out) hb)
  have n3_ := Am (below_step (by repeat (first | (with_reducible first | exact HB.out | apply bA | apply bN | apply bD | refine bS ?_ GE221.out | refine bS ?_ GE222.out | refine bS ?_ GE223.out) | exact HB.out)) hb)
  clear BK221 BK222 BK223 HB; have BK221 := n0_; have BK222 := n1_; have BK223 := n2_; have HB := n3_; clear n0_ n1_ n2_ n3_; (try clear hb); (try clear hb2); (try clear hk); (try clear hi)
  refine hK.out _ _ ⟨(blk_cell BK221.out 0).trans rfl, (blk_cell BK221.out 1).trans rfl, (blk_cell BK222.out 0).trans rfl, (blk_cell BK222.out 1).trans rfl, (blk_cell BK223.out 0).trans rfl, (blk_cell BK223.out 1).trans rfl⟩ (fun hHeld => ?_)
  clear hK K
  refine norm_ (a' := ?_) ?_ ?_
  rotate_left
  ·show Act.put _ (some 10) _ = _
   simp only [pL, i64_w, i32_w]
   rfl
  refine one_ (i := 4) (N := some 11) soundserviceref18_near.q5 rfl rfl (one_of HT_.out (by kernel_rfl)) (by decide) (fun K hK => ?_)
  refine goes_ Try.func50 (by kernel_rfl) rfl #[.agg #[.int .u64 a0_0, .int .u64 a0_1], .agg #[.int .u64 t224, .int .u64 t225]] (by rfl) rfl rfl (by (try simp only [List.map_toArray, List.map_cons, List.map_nil]); first | done | rfl | (simp only [List.length_drop, List.length_take]; rfl)) ?_
  with_reducible refine (soundserviceref18_more.calls a0_0 a0_1 t224 t225 true _ A5.out).mono ?_
  rintro e w12 ⟨rfl, hb⟩
  refine ⟨_, rfl, ?_⟩
  have n0_ := Am (blk_below (g := gb221) (o := .cells #[.int .u64 a0_0, .int .u64 a0_1] 76 (0, 0)) (by (with_reducible repeat (first | apply kN | apply kD | apply kA)); exact BK221.out) hb)
  have n1_ := Am (blk_below (g := gb222) (o := .cells #[.int .u64 a1_0, .int .u64 a1_1] 76 (0, 0)) (by (with_reducible repeat (first | apply kN | apply kD | apply kA)); exact BK222.out) hb)
  have n2_ := Am (blk_below (g := gb223) (o := .cells #[.int .u64 a2_0, .int .u64 a2_1] 76 (0, 0)) (by (with_reducible repeat (first | apply kN | apply kD | apply kA)); exact BK223.out) hb)
  have n3_ := Am (below_step (by repeat (first | (with_reducible first | exact HB.out | apply bA | apply bN | apply bD | refine bS ?_ GE221.out | refine bS ?_ GE222.out | refine bS ?_ GE223.out) | exact HB.out)) hb)
  clear BK221 BK222 BK223 HB; have BK221 := n0_; have BK222 := n1_; have BK223 := n2_; have HB := n3_; clear n0_ n1_ n2_ n3_; (try clear hb); (try clear hb2); (try clear hk); (try clear hi)
  refine hK.out _ _ ⟨(blk_cell BK221.out 0).trans rfl, (blk_cell BK221.out 1).trans rfl, (blk_cell BK222.out 0).trans rfl, (blk_cell BK222.out 1).trans rfl, (blk_cell BK223.out 0).trans rfl, (blk_cell BK223.out 1).trans rfl⟩ (fun hHeld => ?_)
  clear hK K
  refine norm_ (a' := ?_) ?_ ?_
  rotate_left
  ·show Act.put _ (some 11) _ = _
   simp only [pL, i64_w, i32_w]
   rfl
  refine pure_ (i := 5) (N := some 12) (v := ?_) (a' := ?_) soundserviceref18_near.q6 rfl rfl (any_of HT_.out (by kernel_rfl)) (fun _ _ _ h => h) (Or.inl ⟨by rfl, ?_⟩) ?_ ?_
  rotate_left; (· intro w'; go_simp; with_reducible rfl); rotate_left; (· simp only [pL, i64_w, i32_w]; rfl)
  refine pure_ (i := 6) (N := some 13) (v := ?_) (a' := ?_) soundserviceref18_near.q7 rfl rfl (any_of HT_.out (by kernel_rfl)) (fun _ _ _ h => h) (Or.inl ⟨by rfl, ?_⟩) ?_ ?_
  rotate_left; (· intro w'; go_simp; with_reducible rfl); rotate_left; (· simp only [pL, i64_w, i32_w]; rfl)
  refine pure_ (i := 7) (N := some 14) (v := undef) (a' := ?_) soundserviceref18_near.q8 rfl rfl (any_of HT_.out (by kernel_rfl)) (fun _ _ _ h => h) (Or.inr ⟨by rfl, rfl⟩) ?_ ?_
  rotate_left
  ·simp only [pL, i64_w, i32_w]
   rfl
  refine pure_ (i := 8) (N := some 15) (v := undef) (a' := ?_) soundserviceref18_near.q9 rfl rfl (any_of HT_.out (by kernel_rfl)) (fun _ _ _ h => h) (Or.inr ⟨by rfl, rfl⟩) ?_ ?_
  rotate_left
  ·simp only [pL, i64_w, i32_w]
   rfl
  refine pure_ (i := 9) (N := some 16) (v := undef) (a' := ?_) soundserviceref18_near.q10 rfl rfl (any_of HT_.out (by kernel_rfl)) (fun _ _ _ h => h) (Or.inr ⟨by rfl, rfl⟩) ?_ ?_
  rotate_left
  ·simp only [pL, i64_w, i32_w]
   rfl
  refine pure_ (i := 10) (N := some 17) (v := undef) (a' := ?_) soundserviceref18_near.q11 rfl rfl (any_of HT_.out (by kernel_rfl)) (fun _ _ _ h => h) (Or.inr ⟨by rfl, rfl⟩) ?_ ?_
  rotate_left
  ·simp only [pL, i64_w, i32_w]
   rfl
  refine pure_ (i := 11) (N := some 18) (v := undef) (a' := ?_) soundserviceref18_near.q12 rfl rfl (any_of HT_.out (by kernel_rfl)) (fun _ _ _ h => h) (Or.inr ⟨by rfl, rfl⟩) ?_ ?_
  rotate_left
  ·simp only [pL, i64_w, i32_w]
   rfl
  refine pure_ (i := 12) (N := some 19) (v := undef) (a' := ?_) soundserviceref18_near.q13 rfl rfl (any_of HT_.out (by kernel_rfl)) (fun _ _ _ h => h) (Or.inr ⟨by rfl, rfl⟩) ?_ ?_
  rotate_left
  ·simp only [pL, i64_w, i32_w]
   rfl
  refine pure_ (i := 13) (N := some 20) (v := ?_) (a' := ?_) soundserviceref18_near.q14 rfl rfl (any_of HT_.out (by kernel_rfl)) (fun _ _ _ h => h) (Or.inl ⟨by rfl, ?_⟩) ?_ ?_
  rotate_left; (· intro w'; go_simp; with_reducible rfl); rotate_left; (· simp only [pL, i64_w, i32_w]; rfl)
  refine pure_ (i := 14) (N := some 6) (v := ?_) (a' := ?_) soundserviceref18_near.q15 rfl rfl (any_of HT_.out (by kernel_rfl)) (fun _ _ _ h => h) (Or.inl ⟨by rfl, ?_⟩) ?_ ?_
  rotate_left; (· intro w'; go_simp; with_reducible rfl); rotate_left; (· simp only [pL, i64_w, i32_w]; rfl)
  refine done_ (done_of HT_.out (by kernel_rfl)) ?_
  try go_wp2
  go_ret
  exact ⟨by first | rfl | (simp [errW_none, errW_some] <;> rfl) | (simp [*, errW_none, errW_some] <;> rfl), by repeat (first | (with_reducible first | exact HB.out | apply bA | apply bN | apply bD | refine bS ?_ GE221.out | refine bS ?_ GE222.out | refine bS ?_ GE223.out) | exact HB.out)⟩
 ·replace c6 := Bool.eq_false_iff.mpr c6
  subst c6
  have H1 : ((soundserviceref18_plus.f a0_0 a0_1 a2_0 a2_1).bind fun bt227 => ((soundserviceref18_more.f a1_0 a1_1 bt227.1 bt227.2).bind fun t229 => (some (!t229)))) = some r := by rw [if_neg (show ¬ (false = true) by decide)] at H; exact H
  clear H; have H := H1; clear H1
  replace H := Option.bind_eq_some_iff.mp H
  obtain ⟨⟨t227, t228⟩, A130, H⟩ := H
  replace H : ((soundserviceref18_more.f a1_0 a1_1 t227 t228).bind fun t229 => (some (!t229))) = some r := H
  have A13 := Am A130
  clear A130
  replace H := Option.bind_eq_some_iff.mp H
  obtain ⟨t229, A140, H⟩ := H
  replace H : (some (!t229)) = some r := H
  have A14 := Am A140
  clear A140
  obtain rfl := Option.some.inj H
  go_enter Try.func42, Try.ntmps42
  try go_wp2_with (first | ((with_reducible refine gate_dst (N := 3) rfl ?_); refine box_event ?hg (N := 3) ?hd (cs := #[.int .u64 a0_0, .int .u64 a0_1]) (t := 76) ?hr ?_; (case hd => rfl); (case hg => rfl); (case hr => first | (go_simp; done) | (go_simp; rfl)); intro gb221 hg w15 hbox hb; have n0_ := Am (below_step (by repeat (first | (with_reducible first | exact HB.out | apply bA | apply bN | apply bD) | exact HB.out)) hb); have n1_ := Am (hbox); have n2_ := Am ((by rw [hg]; exact (below_size (by repeat (first | (with_reducible first | exact HB.out | apply bA | apply bN | apply bD) | exact HB.out))) : w.heap.size ≤ gb221)); have n3_ := Am ((by rw [hg]; exact (below_size (by repeat (first | (with_reducible first | exact HB.out | apply bA | apply bN | apply bD) | exact HB.out))) : w.heap.size ≤ gb221)); clear HB; have HB := n0_; have BK221 := n1_; have GW221 := n2_; have GE221 := n3_; clear n0_ n1_ n2_ n3_ hb hbox hg) | ((with_reducible refine gate_dst (N := 4) rfl ?_); refine box_event ?hg (N := 4) ?hd (cs := #[.int .u64 a1_0, .int .u64 a1_1]) (t := 76) ?hr ?_; (case hd => rfl); (case hg => rfl); (case hr => first | (go_simp; done) | (go_simp; rfl)); intro gb222 hg w16 hbox hb; have n0_ := Am (blk_below (g := gb221) (o := .cells #[.int .u64 a0_0, .int .u64 a0_1] 76 (0, 0)) (by (with_reducible repeat (first | apply kN | apply kD | apply kA)); exact BK221.out) hb); have n1_ := Am (below_step (by repeat (first | (with_reducible first | exact HB.out | apply bA | apply bN | apply bD | refine bS ?_ GE221.out) | exact HB.out)) hb); have n2_ := Am (hbox); have n3_ := Am ((by rw [hg]; exact (below_size (by repeat (first | (with_reducible first | exact HB.out | apply bA | apply bN | apply bD | refine bS ?_ GE221.out) | exact HB.out))) : w.heap.size ≤ gb222)); have n4_ := Am ((by rw [hg]; exact (below_size (by repeat (first | (with_reducible first | exact HB.out | apply bA | apply bN | apply bD | refine bS ?_ GE221.out) | exact HB.out))) : w.heap.size ≤ gb222)); have n5_ := Am ((by rw [hg]; exact Nat.ne_of_lt (blk_lt (g := gb221) (o := .cells #[.int .u64 a0_0, .int .u64 a0_1] 76 (0, 0)) (by (with_reducible repeat (first | apply kN | apply kD | apply kA)); exact BK221.out)) : gb221 ≠ gb222)); have n6_ := Am ((by rw [hg]; exact Nat.ne_of_gt (blk_lt (g := gb221) (o := .cells #[.int .u64 a0_0, .int .u64 a0_1] 76 (0, 0)) (by (with_reducible repeat (first | apply kN | apply kD | apply kA)); exact BK221.out)) : gb222 ≠ gb221)); clear BK221 HB; have BK221 := n0_; have HB := n1_; have BK222 := n2_; have GW222 := n3_; have GE222 := n4_; have NB221_222 := n5_; have NB222_221 := n6_; clear n0_ n1_ n2_ n3_ n4_ n5_ n6_ hb hbox hg) | ((with_reducible refine gate_dst (N := 5) rfl ?_); refine box_event ?hg (N := 5) ?hd (cs := #[.int .u64 a2_0, .int .u64 a2_1]) (t := 76) ?hr ?_; (case hd => rfl); (case hg => rfl); (case hr => first | (go_simp; done) | (go_simp; rfl)); intro gb223 hg w17 hbox hb; have n0_ := Am (blk_below (g := gb221) (o := .cells #[.int .u64 a0_0, .int .u64 a0_1] 76 (0, 0)) (by (with_reducible repeat (first | apply kN | apply kD | apply kA)); exact BK221.out) hb); have n1_ := Am (blk_below (g := gb222) (o := .cells #[.int .u64 a1_0, .int .u64 a1_1] 76 (0, 0)) (by (with_reducible repeat (first | apply kN | apply kD | apply kA)); exact BK222.out) hb); have n2_ := Am (below_step (by repeat (first | (with_reducible first | exact HB.out | apply bA | apply bN | apply bD | refine bS ?_ GE221.out | refine bS ?_ GE222.out) | exact HB.out)) hb); have n3_ := Am (hbox); have n4_ := Am ((by rw [hg]; exact (below_size (by repeat (first | (with_reducible first | exact HB.out | apply bA | apply bN | apply bD | refine bS ?_ GE221.out | refine bS ?_ GE222.out) | exact HB.out))) : w.heap.size ≤ gb223)); have n5_ := Am ((by rw [hg]; exact (below_size (by repeat (first | (with_reducible first | exact HB.out | apply bA | apply bN | apply bD | refine bS ?_ GE221.out | refine bS ?_ GE222.out) | exact HB.out))) : w.heap.size ≤ gb223)); have n6_ := Am ((by rw [hg]; exact Nat.ne_of_lt (blk_lt (g := gb221) (o := .cells #[.int .u64 a0_0, .int .u64 a0_1] 76 (0, 0)) (by (with_reducible repeat (first | apply kN | apply kD | apply kA)); exact BK221.out)) : gb221 ≠ gb223)); have n7_ := Am ((by rw [hg]; exact Nat.ne_of_gt (blk_lt (g := gb221) (o := .cells #[.int .u64 a0_0, .int .u64 a0_1] 76 (0, 0)) (by (with_reducible repeat (first | apply kN | apply kD | apply kA)); exact BK221.out)) : gb223 ≠ gb221)); have n8_ := Am ((by rw [hg]; exact Nat.ne_of_lt (blk_lt (g := gb222) (o := .cells #[.int .u64 a1_0, .int .u64 a1_1] 76 (0, 0)) (by (with_reducible repeat (first | apply kN | apply kD | apply kA)); exact BK222.out)) : gb222 ≠ gb223)); have n9_ := Am ((by rw [hg]; exact Nat.ne_of_gt (blk_lt (g := gb222) (o := .cells #[.int .u64 a1_0, .int .u64 a1_1] 76 (0, 0)) (by (with_reducible repeat (first | apply kN | apply kD | apply kA)); exact BK222.out)) : gb223 ≠ gb222)); clear BK221 BK222 HB; have BK221 := n0_; have BK222 := n1_; have HB := n2_; have BK223 := n3_; have GW223 := n4_; have GE223 := n5_; have NB221_223 := n6_; have NB223_221 := n7_; have NB222_223 := n8_; have NB223_222 := n9_; clear n0_ n1_ n2_ n3_ n4_ n5_ n6_ n7_ n8_ n9_ hb hbox hg))
  have n0_ := Am (kD BK221.out)
  have n1_ := Am (kD BK222.out)
  have n2_ := Am (kD BK223.out)
  have n3_ := Am (bD HB.out)
  clear BK221 BK222 BK223 HB; have BK221 := n0_; have BK222 := n1_; have BK223 := n2_; have HB := n3_; clear n0_ n1_ n2_ n3_
  refine start_ (n := 15) (S := fun w' => w'.cell? ⟨gb221, 0, none⟩ = some (.int .u64 a0_0) ∧ w'.cell? ⟨gb221, 1, none⟩ = some (.int .u64 a0_1) ∧ w'.cell? ⟨gb222, 0, none⟩ = some (.int .u64 a1_0) ∧ w'.cell? ⟨gb222, 1, none⟩ = some (.int .u64 a1_1) ∧ w'.cell? ⟨gb223, 0, none⟩ = some (.int .u64 a2_0) ∧ w'.cell? ⟨gb223, 1, none⟩ = some (.int .u64 a2_1)) (ds := []) soundserviceref18_near.q0 (by kernel_rfl) rfl rfl ⟨(blk_cell BK221.out 0).trans rfl, (blk_cell BK221.out 1).trans rfl, (blk_cell BK222.out 0).trans rfl, (blk_cell BK222.out 1).trans rfl, (blk_cell BK223.out 0).trans rfl, (blk_cell BK223.out 1).trans rfl⟩ (fun hHeld => ?_); refine with_tabW soundserviceref18_near.tab1 soundserviceref18_near.bits1 (fun HT_ HW_ => ?_)
  generalize w17.drew = w18 at BK221 BK222 BK223 HB hHeld ⊢
  refine take_ (i := 0) (N := some 7) (v := ?_) (a' := ?_) soundserviceref18_near.q1 rfl rfl (take_ofW HT_.out HW_.out (by kernel_rfl)) (fun _ _ _ h => h) (Or.inl ⟨by rfl, ?_⟩) hHeld ?_ ?_
  rotate_left; (· rintro w' ⟨s0, s1, s2, s3, s4, s5⟩; go_simp; with_reducible rfl); rotate_left; (· simp only [pL, i64_w, i32_w]; rfl)
  refine take_ (i := 1) (N := some 8) (v := ?_) (a' := ?_) soundserviceref18_near.q2 rfl rfl (take_ofW HT_.out HW_.out (by kernel_rfl)) (fun _ _ _ h => h) (Or.inl ⟨by rfl, ?_⟩) hHeld ?_ ?_
  rotate_left; (· rintro w' ⟨s0, s1, s2, s3, s4, s5⟩; go_simp; with_reducible rfl); rotate_left; (· simp only [pL, i64_w, i32_w]; rfl)
  refine take_ (i := 2) (N := some 9) (v := ?_) (a' := ?_) soundserviceref18_near.q3 rfl rfl (take_ofW HT_.out HW_.out (by kernel_rfl)) (fun _ _ _ h => h) (Or.inl ⟨by rfl, ?_⟩) hHeld ?_ ?_
  rotate_left; (· rintro w' ⟨s0, s1, s2, s3, s4, s5⟩; go_simp; with_reducible rfl); rotate_left; (· simp only [pL, i64_w, i32_w]; rfl)
  refine one_ (i := 3) (N := some 10) soundserviceref18_near.q4 rfl rfl (one_of HT_.out (by kernel_rfl)) (by decide) (fun K hK => ?_)
  refine goes_ Try.func41 (by kernel_rfl) rfl #[.agg #[.int .u64 a1_0, .int .u64 a1_1], .agg #[.int .u64 a2_0, .int .u64 a2_1]] (by rfl) rfl rfl (by (try simp only [List.map_toArray, List.map_cons, List.map_nil]); first | done | rfl | (simp only [List.length_drop, List.length_take]; rfl)) ?_
  with_reducible refine (soundserviceref18_plus.calls a1_0 a1_1 a2_0 a2_1 t224 t225 _ A4.out).mono ?_
  rintro e w19 ⟨rfl, hb⟩
  refine ⟨_, rfl, ?_⟩
  have n0_ := Am (blk_below (g := gb221) (o := .cells #[.int .u64 a0_0, .int .u64 a0_1] 76 (0, 0)) (by (with_reducible repeat (first | apply kN | apply kD | apply kA)); exact BK221.out) hb)
  have n1_ := Am (blk_below (g := gb222) (o := .cells #[.int .u64 a1_0, .int .u64 a1_1] 76 (0, 0)) (by (with_reducible repeat (first | apply kN | apply kD | apply kA)); exact BK222.out) hb)
  have n2_ := Am (blk_below (g := gb223) (o := .cells #[.int .u64 a2_0, .int .u64 a2_1] 76 (0, 0)) (by (with_reducible repeat (first | apply kN | apply kD | apply kA)); exact BK223.out) hb)
  have n3_ := Am (below_step (by repeat (first | (with_reducible first | exact HB.out | apply bA | apply bN | apply bD | refine bS ?_ GE221.out | refine bS ?_ GE222.out | refine bS ?_ GE223.out) | exact HB.out)) hb)
  clear BK221 BK222 BK223 HB; have BK221 := n0_; have BK222 := n1_; have BK223 := n2_; have HB := n3_; clear n0_ n1_ n2_ n3_; (try clear hb); (try clear hb2); (try clear hk); (try clear hi)
  refine hK.out _ _ ⟨(blk_cell BK221.out 0).trans rfl, (blk_cell BK221.out 1).trans rfl, (blk_cell BK222.out 0).trans rfl, (blk_cell BK222.out 1).trans rfl, (blk_cell BK223.out 0).trans rfl, (blk_cell BK223.out 1).trans rfl⟩ (fun hHeld => ?_)
  clear hK K
  refine norm_ (a' := ?_) ?_ ?_
  rotate_left
  ·show Act.put _ (some 10) _ = _
   simp only [pL, i64_w, i32_w]
   rfl
  refine one_ (i := 4) (N := some 11) soundserviceref18_near.q5 rfl rfl (one_of HT_.out (by kernel_rfl)) (by decide) (fun K hK => ?_)
  refine goes_ Try.func50 (by kernel_rfl) rfl #[.agg #[.int .u64 a0_0, .int .u64 a0_1], .agg #[.int .u64 t224, .int .u64 t225]] (by rfl) rfl rfl (by (try simp only [List.map_toArray, List.map_cons, List.map_nil]); first | done | rfl | (simp only [List.length_drop, List.length_take]; rfl)) ?_
  with_reducible refine (soundserviceref18_more.calls a0_0 a0_1 t224 t225 false _ A5.out).mono ?_
  rintro e w20 ⟨rfl, hb⟩
  refine ⟨_, rfl, ?_⟩
  have n0_ := Am (blk_below (g := gb221) (o := .cells #[.int .u64 a0_0, .int .u64 a0_1] 76 (0, 0)) (by (with_reducible repeat (first | apply kN | apply kD | apply kA)); exact BK221.out) hb)
  have n1_ := Am (blk_below (g := gb222) (o := .cells #[.int .u64 a1_0, .int .u64 a1_1] 76 (0, 0)) (by (with_reducible repeat (first | apply kN | apply kD | apply kA)); exact BK222.out) hb)
  have n2_ := Am (blk_below (g := gb223) (o := .cells #[.int .u64 a2_0, .int .u64 a2_1] 76 (0, 0)) (by (with_reducible repeat (first | apply kN | apply kD | apply kA)); exact BK223.out) hb)
  have n3_ := Am (below_step (by repeat (first | (with_reducible first | exact HB.out | apply bA | apply bN | apply bD | refine bS ?_ GE221.out | refine bS ?_ GE222.out | refine bS ?_ GE223.out) | exact HB.out)) hb)
  clear BK221 BK222 BK223 HB; have BK221 := n0_; have BK222 := n1_; have BK223 := n2_; have HB := n3_; clear n0_ n1_ n2_ n3_; (try clear hb); (try clear hb2); (try clear hk); (try clear hi)
  refine hK.out _ _ ⟨(blk_cell BK221.out 0).trans rfl, (blk_cell BK221.out 1).trans rfl, (blk_cell BK222.out 0).trans rfl, (blk_cell BK222.out 1).trans rfl, (blk_cell BK223.out 0).trans rfl, (blk_cell BK223.out 1).trans rfl⟩ (fun hHeld => ?_)
  clear hK K
  refine norm_ (a' := ?_) ?_ ?_
  rotate_left
  ·show Act.put _ (some 11) _ = _
   simp only [pL, i64_w, i32_w]
   rfl
  refine pure_ (i := 5) (N := some 12) (v := ?_) (a' := ?_) soundserviceref18_near.q6 rfl rfl (any_of HT_.out (by kernel_rfl)) (fun _ _ _ h => h) (Or.inl ⟨by rfl, ?_⟩) ?_ ?_
  rotate_left; (· intro w'; go_simp; with_reducible rfl); rotate_left; (· simp only [pL, i64_w, i32_w]; rfl)
  refine pure_ (i := 6) (N := some 13) (v := ?_) (a' := ?_) soundserviceref18_near.q7 rfl rfl (any_of HT_.out (by kernel_rfl)) (fun _ _ _ h => h) (Or.inl ⟨by rfl, ?_⟩) ?_ ?_
  rotate_left; (· intro w'; go_simp; with_reducible rfl); rotate_left; (· simp only [pL, i64_w, i32_w]; rfl)
  refine take_ (i := 7) (N := some 14) (v := ?_) (a' := ?_) soundserviceref18_near.q8 rfl rfl (take_ofW HT_.out HW_.out (by kernel_rfl)) (fun _ _ _ h => h) (Or.inl ⟨by rfl, ?_⟩) hHeld ?_ ?_
  rotate_left; (· rintro w' ⟨s0, s1, s2, s3, s4, s5⟩; go_simp; with_reducible rfl); rotate_left; (· simp only [pL, i64_w, i32_w]; rfl)
  refine take_ (i := 8) (N := some 15) (v := ?_) (a' := ?_) soundserviceref18_near.q9 rfl rfl (take_ofW HT_.out HW_.out (by kernel_rfl)) (fun _ _ _ h => h) (Or.inl ⟨by rfl, ?_⟩) hHeld ?_ ?_
  rotate_left; (· rintro w' ⟨s0, s1, s2, s3, s4, s5⟩; go_simp; with_reducible rfl); rotate_left; (· simp only [pL, i64_w, i32_w]; rfl)
  refine take_ (i := 9) (N := some 16) (v := ?_) (a' := ?_) soundserviceref18_near.q10 rfl rfl (take_ofW HT_.out HW_.out (by kernel_rfl)) (fun _ _ _ h => h) (Or.inl ⟨by rfl, ?_⟩) hHeld ?_ ?_
  rotate_left; (· rintro w' ⟨s0, s1, s2, s3, s4, s5⟩; go_simp; with_reducible rfl); rotate_left; (· simp only [pL, i64_w, i32_w]; rfl)
  refine one_ (i := 10) (N := some 17) soundserviceref18_near.q11 rfl rfl (one_of HT_.out (by kernel_rfl)) (by decide) (fun K hK => ?_)
  refine goes_ Try.func41 (by kernel_rfl) rfl #[.agg #[.int .u64 a0_0, .int .u64 a0_1], .agg #[.int .u64 a2_0, .int .u64 a2_1]] (by rfl) rfl rfl (by (try simp only [List.map_toArray, List.map_cons, List.map_nil]); first | done | rfl | (simp only [List.length_drop, List.length_take]; rfl)) ?_
  with_reducible refine (soundserviceref18_plus.calls a0_0 a0_1 a2_0 a2_1 t227 t228 _ A13.out).mono ?_
  rintro e w21 ⟨rfl, hb⟩
  refine ⟨_, rfl, ?_⟩
  have n0_ := Am (blk_below (g := gb221) (o := .cells #[.int .u64 a0_0, .int .u64 a0_1] 76 (0, 0)) (by (with_reducible repeat (first | apply kN | apply kD | apply kA)); exact BK221.out) hb)
  have n1_ := Am (blk_below (g := gb222) (o := .cells #[.int .u64 a1_0, .int .u64 a1_1] 76 (0, 0)) (by (with_reducible repeat (first | apply kN | apply kD | apply kA)); exact BK222.out) hb)
  have n2_ := Am (blk_below (g := gb223) (o := .cells #[.int .u64 a2_0, .int .u64 a2_1] 76 (0, 0)) (by (with_reducible repeat (first | apply kN | apply kD | apply kA)); exact BK223.out) hb)
  have n3_ := Am (below_step (by repeat (first | (with_reducible first | exact HB.out | apply bA | apply bN | apply bD | refine bS ?_ GE221.out | refine bS ?_ GE222.out | refine bS ?_ GE223.out) | exact HB.out)) hb)
  clear BK221 BK222 BK223 HB; have BK221 := n0_; have BK222 := n1_; have BK223 := n2_; have HB := n3_; clear n0_ n1_ n2_ n3_; (try clear hb); (try clear hb2); (try clear hk); (try clear hi)
  refine hK.out _ _ ⟨(blk_cell BK221.out 0).trans rfl, (blk_cell BK221.out 1).trans rfl, (blk_cell BK222.out 0).trans rfl, (blk_cell BK222.out 1).trans rfl, (blk_cell BK223.out 0).trans rfl, (blk_cell BK223.out 1).trans rfl⟩ (fun hHeld => ?_)
  clear hK K
  refine norm_ (a' := ?_) ?_ ?_
  rotate_left
  ·show Act.put _ (some 17) _ = _
   simp only [pL, i64_w, i32_w]
   rfl
  refine one_ (i := 11) (N := some 18) soundserviceref18_near.q12 rfl rfl (one_of HT_.out (by kernel_rfl)) (by decide) (fun K hK => ?_)
  refine goes_ Try.func50 (by kernel_rfl) rfl #[.agg #[.int .u64 a1_0, .int .u64 a1_1], .agg #[.int .u64 t227, .int .u64 t228]] (by rfl) rfl rfl (by (try simp only [List.map_toArray, List.map_cons, List.map_nil]); first | done | rfl | (simp only [List.length_drop, List.length_take]; rfl)) ?_
  with_reducible refine (soundserviceref18_more.calls a1_0 a1_1 t227 t228 t229 _ A14.out).mono ?_
  rintro e w22 ⟨rfl, hb⟩
  refine ⟨_, rfl, ?_⟩
  have n0_ := Am (blk_below (g := gb221) (o := .cells #[.int .u64 a0_0, .int .u64 a0_1] 76 (0, 0)) (by (with_reducible repeat (first | apply kN | apply kD | apply kA)); exact BK221.out) hb)
  have n1_ := Am (blk_below (g := gb222) (o := .cells #[.int .u64 a1_0, .int .u64 a1_1] 76 (0, 0)) (by (with_reducible repeat (first | apply kN | apply kD | apply kA)); exact BK222.out) hb)
  have n2_ := Am (blk_below (g := gb223) (o := .cells #[.int .u64 a2_0, .int .u64 a2_1] 76 (0, 0)) (by (with_reducible repeat (first | apply kN | apply kD | apply kA)); exact BK223.out) hb)
  have n3_ := Am (below_step (by repeat (first | (with_reducible first | exact HB.out | apply bA | apply bN | apply bD | refine bS ?_ GE221.out | refine bS ?_ GE222.out | refine bS ?_ GE223.out) | exact HB.out)) hb)
  clear BK221 BK222 BK223 HB; have BK221 := n0_; have BK222 := n1_; have BK223 := n2_; have HB := n3_; clear n0_ n1_ n2_ n3_; (try clear hb); (try clear hb2); (try clear hk); (try clear hi)
  refine hK.out _ _ ⟨(blk_cell BK221.out 0).trans rfl, (blk_cell BK221.out 1).trans rfl, (blk_cell BK222.out 0).trans rfl, (blk_cell BK222.out 1).trans rfl, (blk_cell BK223.out 0).trans rfl, (blk_cell BK223.out 1).trans rfl⟩ (fun hHeld => ?_)
  clear hK K
  refine norm_ (a' := ?_) ?_ ?_
  rotate_left
  ·show Act.put _ (some 18) _ = _
   simp only [pL, i64_w, i32_w]
   rfl
  refine pure_ (i := 12) (N := some 19) (v := ?_) (a' := ?_) soundserviceref18_near.q13 rfl rfl (any_of HT_.out (by kernel_rfl)) (fun _ _ _ h => h) (Or.inl ⟨by rfl, ?_⟩) ?_ ?_
  rotate_left; (· intro w'; go_simp; with_reducible rfl); rotate_left; (· simp only [pL, i64_w, i32_w]; rfl)
  refine pure_ (i := 13) (N := some 20) (v := ?_) (a' := ?_) soundserviceref18_near.q14 rfl rfl (any_of HT_.out (by kernel_rfl)) (fun _ _ _ h => h) (Or.inl ⟨by rfl, ?_⟩) ?_ ?_
  rotate_left; (· intro w'; go_simp; with_reducible rfl); rotate_left; (· simp only [pL, i64_w, i32_w]; rfl)
  refine pure_ (i := 14) (N := some 6) (v := ?_) (a' := ?_) soundserviceref18_near.q15 rfl rfl (any_of HT_.out (by kernel_rfl)) (fun _ _ _ h => h) (Or.inl ⟨by rfl, ?_⟩) ?_ ?_
  rotate_left; (· intro w'; go_simp; with_reducible rfl); rotate_left; (· simp only [pL, i64_w, i32_w]; rfl)
  refine done_ (done_of HT_.out (by kernel_rfl)) ?_
  try go_wp2
  go_ret
  exact ⟨by first | rfl | (simp [errW_none, errW_some] <;> rfl) | (simp [*, errW_none, errW_some] <;> rfl), by repeat (first | (with_reducible first | exact HB.out | apply bA | apply bN | apply bD | refine bS ?_ GE221.out | refine bS ?_ GE222.out | refine bS ?_ GE223.out) | exact HB.out)⟩

end Go.Proofs.Ytcnheiemajghiaa.PA
