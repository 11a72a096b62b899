/- Walks of functions of the program: each does what its Lean function says. Written by a program of this session (wip/xprint), which runs the printer of the kit with changes. -/
import Derived.Test.YtcnheiemajghiaaPAx0
import Derived.Test.YtcnheiemajghiaaPAx7
import Derived.Test.YtcnheiemajghiaaPAx10
import Derived.Test.YtcnheiemajghiaaPAx11
namespace Go.Proofs.Ytcnheiemajghiaa.PA
open Go.RowKit Go.Proofs.YtcnheiemajghiaaW.PrintWords Go.Proofs.YtcnheiemajghiaaW.PrintLast Go.Proofs.YtcnheiemajghiaaW.PrintMore
attribute [local go_sem] max2_int min2_int max_two min_two max_three min_three max_four min_four   -- for this text's walks alone
set_option linter.unusedVariables false
set_option linter.unusedSimpArgs false


/-! ### soundserviceref18_Declared: function 25 -/
/-- The windows that begin at one transfer: m of them have been looked at. -/
def soundserviceref18_Declared.inner (num b p q drift jitter : Int) : List S54 → Nat → Int → Int → Option Bool
 | [], _, _, _ => some true
 | x :: xs, k, pull, push =>
   (soundserviceref18_times.f (IntKind.u64.wrap (IntKind.u64.wrap (pull + IntKind.u64.wrap x.f0) * IntKind.u64.wrap num)) q 65536).bind fun u =>
   (soundserviceref18_times.f (IntKind.u64.wrap (IntKind.u64.wrap (push + IntKind.u64.wrap x.f1) * b)) q 65536).bind fun v =>
   (soundserviceref18_times.f (IntKind.u64.wrap (((k : Int) + 1) * p)) b 65536).bind fun n =>
   (soundserviceref18_times.f (IntKind.u64.wrap (((k : Int) + 1) * p)) b (IntKind.u64.wrap drift)).bind fun x1 =>
   (soundserviceref18_times.f (IntKind.u64.wrap (IntKind.u64.wrap jitter * b)) q 65536).bind fun x2 =>
   (soundserviceref18_plus.f x1.1 x1.2 x2.1 x2.2).bind fun by_ =>
   (soundserviceref18_near.f u.1 u.2 n.1 n.2 by_.1 by_.2).bind fun r1 => if r1 = true then
   (soundserviceref18_near.f v.1 v.2 n.1 n.2 by_.1 by_.2).bind fun r2 => if r2 = true then
   (soundserviceref18_near.f u.1 u.2 v.1 v.2 by_.1 by_.2).bind fun r3 => if r3 = true then
   soundserviceref18_Declared.inner num b p q drift jitter xs (k + 1) (IntKind.u64.wrap (pull + IntKind.u64.wrap x.f0)) (IntKind.u64.wrap (push + IntKind.u64.wrap x.f1))
   else some false else some false else some false
def soundserviceref18_Declared.outer (num b p q drift jitter : Int) : List S54 → Option Bool
 | [] => some true
 | x :: xs => (soundserviceref18_Declared.inner num b p q drift jitter (x :: xs) 0 0 0).bind fun r => if r = true then soundserviceref18_Declared.outer num b p q drift jitter xs else some false
def soundserviceref18_Declared.check : List S54 → Bool
 | [] => true
 | x :: xs => if x.f0 < 0 then false else if x.f0 > 65536 then false else if x.f1 < 0 then false else if x.f1 > 65536 then false else soundserviceref18_Declared.check xs
def soundserviceref18_Declared.f (k : Nat) (a0_0 a0_1 a1_0 a1_1 a2 a3 : Int) (l4 : List S54) : Option Bool :=
  (soundserviceref03_Valid.f k a0_0 a0_1).bind fun v => if v = true then (if a0_0 > 768000 then some false else if a0_1 > 768000 then some false else (soundserviceref18_Possible.f k a1_0 a1_1).bind fun d => if d = true then
    (if a2 < 0 then some false else if a2 > 4096 then some false else if a3 < 0 then some false else if a3 > 65536 then some false else if (l4.length : Int) > 256 then some false else
    if soundserviceref18_Declared.check l4 = true then soundserviceref18_Declared.outer a0_0 (IntKind.u64.wrap a0_1) (IntKind.u64.wrap a1_0) (IntKind.u64.wrap a1_1) a2 a3 l4 else some false)
    else some false) else some false
/-- What lies in memory while the transfers are walked: the two ratios' blocks. -/
structure soundserviceref18_Declared.Env (w W : World) (S : Nat) (a b p q : Int) : Prop where
  base : W.heap[S]? = some (.cells #[.int .i64 a, .int .i64 b] 27 (0, 0))
  per : W.heap[S + 1]? = some (.cells #[.int .i64 p, .int .i64 q] 27 (0, 0))
  below : Below w.heap.size w W
theorem soundserviceref18_Declared.Env.grow {w W W' : World} {S : Nat} {a b p q : Int} (h : soundserviceref18_Declared.Env w W S a b p q) (hb : Below W.heap.size W W') : soundserviceref18_Declared.Env w W' S a b p q :=
  ⟨blk_below h.base hb, blk_below h.per hb, h.below.trans (hb.mono h.below.size)⟩
theorem soundserviceref18_Declared.mono : ∀ a0 a1 a2 a3 a4 a5 a6 k, LeO (soundserviceref18_Declared.f k a0 a1 a2 a3 a4 a5 a6) (soundserviceref18_Declared.f (k + 1) a0 a1 a2 a3 a4 a5 a6) := fun _ _ _ _ _ _ _ k =>
  LeO.bind (soundserviceref03_Valid.mono _ _ k) (fun _ => LeO.ite (LeO.ite (LeO.refl _) (LeO.ite (LeO.refl _) (LeO.bind (soundserviceref18_Possible.mono _ _ k) (fun _ => LeO.refl _)))) (LeO.refl _))
set_option maxHeartbeats 8000000 in
set_option maxRecDepth 100000 in
theorem soundserviceref18_Declared.calls (k : Nat) (a0_0 a0_1 a1_0 a1_1 a2 a3 : Int) (A4 : Option Addr) (c4 : Nat) (l4 : List S54) (r : Bool) (w : World) (hr4 : Kd.C k54 w A4 l4.length l4) (hc4 : l4.length ≤ c4) (h : soundserviceref18_Declared.f k a0_0 a0_1 a1_0 a1_1 a2 a3 l4 = some r) :
    Calls Try.prog 25 #[.agg #[.int .i64 a0_0, .int .i64 a0_1], .agg #[.int .i64 a1_0, .int .i64 a1_1], .int .i64 a2, .int .i64 a3, .slice A4 l4.length c4] w fun e w' => e = .returned (.bool r) ∧ Below w.heap.size w w' := by
  have hu76 := Try.underlying76
  have hu27 := Try.underlying27
  have hu54 := Try.underlying54
  simp only [soundserviceref18_Declared.f, Option.bind_eq_some_iff] at h
  obtain ⟨v, hv, h⟩ := h
  have hcv : ∀ W : World, Calls Try.prog 38 #[.agg #[.int .i64 a0_0, .int .i64 a0_1]] W fun e w' => e = .returned (.bool v) ∧ Below W.heap.size W w' := fun W => soundserviceref03_Valid.calls k a0_0 a0_1 v W hv
  clear hv
  have HR := Aside0.mk (And.intro hr4 hc4)
  clear hr4 hc4
  cases v with
  | false =>
    have H := Aside0.mk h
    clear h
    go_enter Try.func25, Try.ntmps25
    go_wp2_with (go_at_call 38; refine (hcv _).mono ?_; clear hcv; rintro e W1 ⟨rfl, hb⟩; have hb1 := hb; have q0 : W1.cell? ⟨w.heap.size, 0, none⟩ = some (.int .i64 a0_0) := keep_cell hb (by simp); have q1 : W1.cell? ⟨w.heap.size, 1, none⟩ = some (.int .i64 a0_1) := keep_cell hb (by simp); have q2 : W1.cell? ⟨w.heap.size + 1, 0, none⟩ = some (.int .i64 a1_0) := keep_cell hb (by simp); have q3 : W1.cell? ⟨w.heap.size + 1, 1, none⟩ = some (.int .i64 a1_1) := keep_cell hb (by simp))
    go_ret
    obtain ⟨rfl⟩ : false = r := by simpa using H.out
    exact ⟨rfl, (below_alloc (below_alloc (Below.refl _ w) _) _).trans (hb1.mono (by simp; omega))⟩
  | true =>
    rw [if_pos rfl] at h
    by_cases c1 : a0_0 > 768000
    · rw [if_pos c1] at h
      obtain rfl := Option.some.inj h
      have d1 : decide (768000 < a0_0) = true := decide_eq_true (by omega)
      clear c1 h
      go_enter Try.func25, Try.ntmps25
      go_wp2_with (go_at_call 38; refine (hcv _).mono ?_; clear hcv; rintro e W1 ⟨rfl, hb⟩; have hb1 := hb; have q0 : W1.cell? ⟨w.heap.size, 0, none⟩ = some (.int .i64 a0_0) := keep_cell hb (by simp); have q1 : W1.cell? ⟨w.heap.size, 1, none⟩ = some (.int .i64 a0_1) := keep_cell hb (by simp); have q2 : W1.cell? ⟨w.heap.size + 1, 0, none⟩ = some (.int .i64 a1_0) := keep_cell hb (by simp); have q3 : W1.cell? ⟨w.heap.size + 1, 1, none⟩ = some (.int .i64 a1_1) := keep_cell hb (by simp))
      go_ret
      exact ⟨rfl, (below_alloc (below_alloc (Below.refl _ w) _) _).trans (hb1.mono (by simp; omega))⟩
    rw [if_neg c1] at h
    have d1 : decide (768000 < a0_0) = false := decide_eq_false (by omega)
    by_cases c2 : a0_1 > 768000
    · rw [if_pos c2] at h
      obtain rfl := Option.some.inj h
      have d2 : decide (768000 < a0_1) = true := decide_eq_true (by omega)
      clear c2 h
      go_enter Try.func25, Try.ntmps25
      go_wp2_with (go_at_call 38; refine (hcv _).mono ?_; clear hcv; rintro e W1 ⟨rfl, hb⟩; have hb1 := hb; have q0 : W1.cell? ⟨w.heap.size, 0, none⟩ = some (.int .i64 a0_0) := keep_cell hb (by simp); have q1 : W1.cell? ⟨w.heap.size, 1, none⟩ = some (.int .i64 a0_1) := keep_cell hb (by simp); have q2 : W1.cell? ⟨w.heap.size + 1, 0, none⟩ = some (.int .i64 a1_0) := keep_cell hb (by simp); have q3 : W1.cell? ⟨w.heap.size + 1, 1, none⟩ = some (.int .i64 a1_1) := keep_cell hb (by simp))
      go_ret
      exact ⟨rfl, (below_alloc (below_alloc (Below.refl _ w) _) _).trans (hb1.mono (by simp; omega))⟩
    rw [if_neg c2] at h
    have d2 : decide (768000 < a0_1) = false := decide_eq_false (by omega)
    clear c1 c2
    simp only [Option.bind_eq_some_iff] at h
    obtain ⟨d, hd, h⟩ := h
    have hcd : ∀ W : World, Calls Try.prog 39 #[.agg #[.int .i64 a1_0, .int .i64 a1_1]] W fun e w' => e = .returned (.bool d) ∧ Below W.heap.size W w' := fun W => soundserviceref18_Possible.calls k a1_0 a1_1 d W hd
    clear hd
    cases d with
    | false =>
      have H := Aside0.mk h
      clear h
      go_enter Try.func25, Try.ntmps25
      go_wp2_with (first | (go_at_call 38; refine (hcv _).mono ?_; clear hcv; rintro e W1 ⟨rfl, hb⟩; have hb1 := hb; have q0 : W1.cell? ⟨w.heap.size, 0, none⟩ = some (.int .i64 a0_0) := keep_cell hb (by simp); have q1 : W1.cell? ⟨w.heap.size, 1, none⟩ = some (.int .i64 a0_1) := keep_cell hb (by simp); have q2 : W1.cell? ⟨w.heap.size + 1, 0, none⟩ = some (.int .i64 a1_0) := keep_cell hb (by simp); have q3 : W1.cell? ⟨w.heap.size + 1, 1, none⟩ = some (.int .i64 a1_1) := keep_cell hb (by simp)) | (go_at_call 39; refine (hcd _).mono ?_; clear hcd; rintro e W2 ⟨rfl, hb⟩; have hb2 := hb))
      go_ret
      obtain ⟨rfl⟩ : false = r := by simpa using H.out
      exact ⟨rfl, ((below_alloc (below_alloc (Below.refl _ w) _) _).trans (hb1.mono (by simp; omega))).trans (hb2.mono (by have := hb1.size; simp at this; omega))⟩
    | true =>
      rw [if_pos rfl] at h
      by_cases c3 : a2 < 0
      · rw [if_pos c3] at h
        obtain rfl := Option.some.inj h
        have d3 : decide (a2 < 0) = true := decide_eq_true (by omega)
        clear c3 h
        go_enter Try.func25, Try.ntmps25
        go_wp2_with (first | (go_at_call 38; refine (hcv _).mono ?_; clear hcv; rintro e W1 ⟨rfl, hb⟩; have hb1 := hb; have q0 : W1.cell? ⟨w.heap.size, 0, none⟩ = some (.int .i64 a0_0) := keep_cell hb (by simp); have q1 : W1.cell? ⟨w.heap.size, 1, none⟩ = some (.int .i64 a0_1) := keep_cell hb (by simp); have q2 : W1.cell? ⟨w.heap.size + 1, 0, none⟩ = some (.int .i64 a1_0) := keep_cell hb (by simp); have q3 : W1.cell? ⟨w.heap.size + 1, 1, none⟩ = some (.int .i64 a1_1) := keep_cell hb (by simp)) | (go_at_call 39; refine (hcd _).mono ?_; clear hcd; rintro e W2 ⟨rfl, hb⟩; have hb2 := hb))
        go_ret
        exact ⟨rfl, ((below_alloc (below_alloc (Below.refl _ w) _) _).trans (hb1.mono (by simp; omega))).trans (hb2.mono (by have := hb1.size; simp at this; omega))⟩
      rw [if_neg c3] at h
      have d3 : decide (a2 < 0) = false := decide_eq_false (by omega)
      by_cases c4 : a2 > 4096
      · rw [if_pos c4] at h
        obtain rfl := Option.some.inj h
        have d4 : decide (4096 < a2) = true := decide_eq_true (by omega)
        clear c4 h
        go_enter Try.func25, Try.ntmps25
        go_wp2_with (first | (go_at_call 38; refine (hcv _).mono ?_; clear hcv; rintro e W1 ⟨rfl, hb⟩; have hb1 := hb; have q0 : W1.cell? ⟨w.heap.size, 0, none⟩ = some (.int .i64 a0_0) := keep_cell hb (by simp); have q1 : W1.cell? ⟨w.heap.size, 1, none⟩ = some (.int .i64 a0_1) := keep_cell hb (by simp); have q2 : W1.cell? ⟨w.heap.size + 1, 0, none⟩ = some (.int .i64 a1_0) := keep_cell hb (by simp); have q3 : W1.cell? ⟨w.heap.size + 1, 1, none⟩ = some (.int .i64 a1_1) := keep_cell hb (by simp)) | (go_at_call 39; refine (hcd _).mono ?_; clear hcd; rintro e W2 ⟨rfl, hb⟩; have hb2 := hb))
        go_ret
        exact ⟨rfl, ((below_alloc (below_alloc (Below.refl _ w) _) _).trans (hb1.mono (by simp; omega))).trans (hb2.mono (by have := hb1.size; simp at this; omega))⟩
      rw [if_neg c4] at h
      have d4 : decide (4096 < a2) = false := decide_eq_false (by omega)
      by_cases c5 : a3 < 0
      · rw [if_pos c5] at h
        obtain rfl := Option.some.inj h
        have d5 : decide (a3 < 0) = true := decide_eq_true (by omega)
        clear c5 h
        go_enter Try.func25, Try.ntmps25
        go_wp2_with (first | (go_at_call 38; refine (hcv _).mono ?_; clear hcv; rintro e W1 ⟨rfl, hb⟩; have hb1 := hb; have q0 : W1.cell? ⟨w.heap.size, 0, none⟩ = some (.int .i64 a0_0) := keep_cell hb (by simp); have q1 : W1.cell? ⟨w.heap.size, 1, none⟩ = some (.int .i64 a0_1) := keep_cell hb (by simp); have q2 : W1.cell? ⟨w.heap.size + 1, 0, none⟩ = some (.int .i64 a1_0) := keep_cell hb (by simp); have q3 : W1.cell? ⟨w.heap.size + 1, 1, none⟩ = some (.int .i64 a1_1) := keep_cell hb (by simp)) | (go_at_call 39; refine (hcd _).mono ?_; clear hcd; rintro e W2 ⟨rfl, hb⟩; have hb2 := hb))
        go_ret
        exact ⟨rfl, ((below_alloc (below_alloc (Below.refl _ w) _) _).trans (hb1.mono (by simp; omega))).trans (hb2.mono (by have := hb1.size; simp at this; omega))⟩
      rw [if_neg c5] at h
      have d5 : decide (a3 < 0) = false := decide_eq_false (by omega)
      by_cases c6 : a3 > 65536
      · rw [if_pos c6] at h
        obtain rfl := Option.some.inj h
        have d6 : decide (65536 < a3) = true := decide_eq_true (by omega)
        clear c6 h
        go_enter Try.func25, Try.ntmps25
        go_wp2_with (first | (go_at_call 38; refine (hcv _).mono ?_; clear hcv; rintro e W1 ⟨rfl, hb⟩; have hb1 := hb; have q0 : W1.cell? ⟨w.heap.size, 0, none⟩ = some (.int .i64 a0_0) := keep_cell hb (by simp); have q1 : W1.cell? ⟨w.heap.size, 1, none⟩ = some (.int .i64 a0_1) := keep_cell hb (by simp); have q2 : W1.cell? ⟨w.heap.size + 1, 0, none⟩ = some (.int .i64 a1_0) := keep_cell hb (by simp); have q3 : W1.cell? ⟨w.heap.size + 1, 1, none⟩ = some (.int .i64 a1_1) := keep_cell hb (by simp)) | (go_at_call 39; refine (hcd _).mono ?_; clear hcd; rintro e W2 ⟨rfl, hb⟩; have hb2 := hb))
        go_ret
        exact ⟨rfl, ((below_alloc (below_alloc (Below.refl _ w) _) _).trans (hb1.mono (by simp; omega))).trans (hb2.mono (by have := hb1.size; simp at this; omega))⟩
      rw [if_neg c6] at h
      have d6 : decide (65536 < a3) = false := decide_eq_false (by omega)
      by_cases c7 : (l4.length : Int) > 256
      · rw [if_pos c7] at h
        obtain rfl := Option.some.inj h
        have d7 : decide (256 < l4.length) = true := decide_eq_true (by omega)
        have d7' : decide ((256 : Int) < (l4.length : Int)) = true := decide_eq_true c7
        clear c3 c4 c5 c6 c7 h
        go_enter Try.func25, Try.ntmps25
        go_wp2_with (first | (go_at_call 38; refine (hcv _).mono ?_; clear hcv; rintro e W1 ⟨rfl, hb⟩; have hb1 := hb; have q0 : W1.cell? ⟨w.heap.size, 0, none⟩ = some (.int .i64 a0_0) := keep_cell hb (by simp); have q1 : W1.cell? ⟨w.heap.size, 1, none⟩ = some (.int .i64 a0_1) := keep_cell hb (by simp); have q2 : W1.cell? ⟨w.heap.size + 1, 0, none⟩ = some (.int .i64 a1_0) := keep_cell hb (by simp); have q3 : W1.cell? ⟨w.heap.size + 1, 1, none⟩ = some (.int .i64 a1_1) := keep_cell hb (by simp)) | (go_at_call 39; refine (hcd _).mono ?_; clear hcd; rintro e W2 ⟨rfl, hb⟩; have hb2 := hb))
        go_ret
        exact ⟨rfl, ((below_alloc (below_alloc (Below.refl _ w) _) _).trans (hb1.mono (by simp; omega))).trans (hb2.mono (by have := hb1.size; simp at this; omega))⟩
      rw [if_neg c7] at h
      have d7 : decide (256 < l4.length) = false := decide_eq_false (by omega)
      have d7' : decide ((256 : Int) < (l4.length : Int)) = false := decide_eq_false c7
      have hlen : l4.length ≤ 256 := by omega
      clear c3 c4 c5 c6 c7
      go_enter Try.func25, Try.ntmps25
      go_upto_region 3 with (first | (go_at_call 38; refine (hcv _).mono ?_; clear hcv; rintro e W1 ⟨rfl, hb⟩; have hb1 := hb; have q0 : W1.cell? ⟨w.heap.size, 0, none⟩ = some (.int .i64 a0_0) := keep_cell hb (by simp); have q1 : W1.cell? ⟨w.heap.size, 1, none⟩ = some (.int .i64 a0_1) := keep_cell hb (by simp); have q2 : W1.cell? ⟨w.heap.size + 1, 0, none⟩ = some (.int .i64 a1_0) := keep_cell hb (by simp); have q3 : W1.cell? ⟨w.heap.size + 1, 1, none⟩ = some (.int .i64 a1_1) := keep_cell hb (by simp)) | (go_at_call 39; refine (hcd _).mono ?_; clear hcd; rintro e W2 ⟨rfl, hb⟩; have hb2 := hb))
      obtain ⟨S, hS⟩ : ∃ S, S = w.heap.size := ⟨_, rfl⟩
      have hB0 : Below w.heap.size w ((w.alloc (Obj.cells #[.int .i64 a0_0, .int .i64 a0_1] 27 (0, 0))).alloc (Obj.cells #[.int .i64 a1_0, .int .i64 a1_1] 27 (0, 0))) := below_alloc (below_alloc (Below.refl _ w) _) _
      have bS : ((w.alloc (Obj.cells #[.int .i64 a0_0, .int .i64 a0_1] 27 (0, 0))).alloc (Obj.cells #[.int .i64 a1_0, .int .i64 a1_1] 27 (0, 0))).heap[S]? = some (Obj.cells #[.int .i64 a0_0, .int .i64 a0_1] 27 (0, 0)) := by rw [hS]; exact blk_alloc (heap_alloc_new w _) _
      have bT : ((w.alloc (Obj.cells #[.int .i64 a0_0, .int .i64 a0_1] 27 (0, 0))).alloc (Obj.cells #[.int .i64 a1_0, .int .i64 a1_1] 27 (0, 0))).heap[S + 1]? = some (Obj.cells #[.int .i64 a1_0, .int .i64 a1_1] 27 (0, 0)) := by
        rw [hS]
        have := heap_alloc_new (w.alloc (Obj.cells #[.int .i64 a0_0, .int .i64 a0_1] 27 (0, 0))) (Obj.cells #[.int .i64 a1_0, .int .i64 a1_1] 27 (0, 0))
        rwa [World.size_alloc] at this
      have hb12 := hb1.trans (hb2.mono hb1.size)
      replace bS := blk_below bS hb12
      replace bT := blk_below bT hb12
      replace hB0 := hB0.trans (hb12.mono hB0.size)
      rw [← hS]
      have hE : soundserviceref18_Declared.Env w W2 S a0_0 a0_1 a1_0 a1_1 := ⟨bS, bT, hB0⟩
      clear hS hb1 hb2 hb12 q0 q1 q2 q3 hb d1 d2 d3 d4 d5 d6 d7 d7' bS bT hB0
      generalize W2 = W3 at hE ⊢
      have HE := Aside0.mk hE
      have HL := Aside0.mk h
      clear hE h
      go_wp2
      go_loopw [67] (fun i wr => ∃ (j : Nat), i = .int .i64 j ∧ j ≤ l4.length ∧ Aside0 (soundserviceref18_Declared.check l4 = soundserviceref18_Declared.check (l4.drop j)) ∧ Aside0 (soundserviceref18_Declared.Env w wr S a0_0 a0_1 a1_0 a1_1)) (fun i _ => l4.length - (intOf i).toNat)
      case atStart => exact ⟨0, rfl, Nat.zero_le _, ⟨rfl⟩, HE⟩
      case round =>
        clear HE
        obtain ⟨j, rfl, hj, HC, HE⟩ := hrel
        by_cases hlt : j < l4.length
        · obtain ⟨ad, hA, e0, e1⟩ := at_T54 (Kd.C_below HR.out.1 HE.out.below) (j : Int) (by omega) (by omega)
          subst hA
          simp only [Int.toNat_natCast] at e0 e1
          have hdrop : l4.drop j = rd_T54 l4 j :: l4.drop (j + 1) := by
            rw [List.drop_eq_getElem_cons hlt]
            unfold rd_T54
            rw [List.getD_eq_getElem?_getD, Int.toNat_natCast, List.getElem?_eq_getElem hlt]
            rfl
          have h := HC.out
          rw [hdrop] at h
          generalize rd_T54 l4 j = s at e0 e1 h
          obtain ⟨t0, t1⟩ := s
          simp only at e0 e1
          simp only [soundserviceref18_Declared.check] at h
          clear hdrop HC
          go_upto_region 6 with (fail)
          obtain ⟨X, hX⟩ : ∃ X, X = wr.heap.size := ⟨_, rfl⟩
          have bX := heap_alloc_new wr (Obj.cells #[.int .i64 t0, .int .i64 t1] 54 (0, 0))
          have hA : Below wr.heap.size wr (wr.alloc (Obj.cells #[.int .i64 t0, .int .i64 t1] 54 (0, 0))) := below_alloc (Below.refl _ _) _
          have hE := HE.out.grow hA
          rw [← hX] at bX ⊢
          clear hX hA HE e0 e1
          generalize wr.alloc (Obj.cells #[.int .i64 t0, .int .i64 t1] 54 (0, 0)) = Wa at bX hE ⊢
          have p0 : Wa.cell? ⟨X, 0, none⟩ = some (.int .i64 t0) := (blk_cell bX 0).trans rfl
          have p1 : Wa.cell? ⟨X, 1, none⟩ = some (.int .i64 t1) := (blk_cell bX 1).trans rfl
          have HX := Aside0.mk hE
          clear bX hE
          have bad : soundserviceref18_Declared.check l4 = false → false = r := fun e => by
            have := HL.out
            rw [e] at this
            simpa using this
          by_cases c1 : t0 < 0
          · rw [if_pos c1] at h
            have d1 : decide (t0 < 0) = true := decide_eq_true (by omega)
            have hb := Aside0.mk (bad h)
            clear bad h c1
            go_wp2
            go_ret
            obtain rfl := hb.out
            exact ⟨rfl, HX.out.below⟩
          rw [if_neg c1] at h
          have d1 : decide (t0 < 0) = false := decide_eq_false (by omega)
          by_cases c2 : t0 > 65536
          · rw [if_pos c2] at h
            have d2 : decide (65536 < t0) = true := decide_eq_true (by omega)
            have hb := Aside0.mk (bad h)
            clear bad h c2
            go_wp2
            go_ret
            obtain rfl := hb.out
            exact ⟨rfl, HX.out.below⟩
          rw [if_neg c2] at h
          have d2 : decide (65536 < t0) = false := decide_eq_false (by omega)
          by_cases c3 : t1 < 0
          · rw [if_pos c3] at h
            have d3 : decide (t1 < 0) = true := decide_eq_true (by omega)
            have hb := Aside0.mk (bad h)
            clear bad h c3
            go_wp2
            go_ret
            obtain rfl := hb.out
            exact ⟨rfl, HX.out.below⟩
          rw [if_neg c3] at h
          have d3 : decide (t1 < 0) = false := decide_eq_false (by omega)
          by_cases c4 : t1 > 65536
          · rw [if_pos c4] at h
            have d4 : decide (65536 < t1) = true := decide_eq_true (by omega)
            have hb := Aside0.mk (bad h)
            clear bad h c4
            go_wp2
            go_ret
            obtain rfl := hb.out
            exact ⟨rfl, HX.out.below⟩
          rw [if_neg c4] at h
          have d4 : decide (65536 < t1) = false := decide_eq_false (by omega)
          have HC := Aside0.mk h
          clear h bad
          go_wp2
          go_roundw
          case rel => exact ⟨j + 1, by go_num, by omega, HC, HX⟩
          case measure =>
            simp only [intOf]
            omega
        · obtain rfl : j = l4.length := by omega
          have h := HL.out
          rw [HC.out, List.drop_length] at h
          simp only [soundserviceref18_Declared.check, if_true] at h
          have HO := Aside0.mk h
          clear h HC HL
          go_upto_region 9 with (fail)
          have q1 : wr.cell? ⟨S, 1, none⟩ = some (.int .i64 a0_1) := (blk_cell HE.out.base 1).trans rfl
          have q2 : wr.cell? ⟨S + 1, 0, none⟩ = some (.int .i64 a1_0) := (blk_cell HE.out.per 0).trans rfl
          have q3 : wr.cell? ⟨S + 1, 1, none⟩ = some (.int .i64 a1_1) := (blk_cell HE.out.per 1).trans rfl
          go_quiet (fail)
          have hE := HE.out.grow (pw_below_drewN (Below.refl _ wr) nq)
          clear HE q1 q2 q3
          generalize wr.drewN nq = W4 at hE ⊢
          have HE := Aside0.mk hE
          clear hE
          generalize IntKind.u64.wrap a0_1 = bb at HO ⊢
          generalize IntKind.u64.wrap a1_0 = pp at HO ⊢
          generalize IntKind.u64.wrap a1_1 = qq at HO ⊢
          go_wp2
          go_loopw [101] (fun i wr => ∃ (j : Nat), i = .int .i64 j ∧ j ≤ l4.length ∧ Aside0 (soundserviceref18_Declared.outer a0_0 bb pp qq a2 a3 (l4.drop j) = some r) ∧ Aside0 (soundserviceref18_Declared.Env w wr S a0_0 a0_1 a1_0 a1_1)) (fun i _ => l4.length - (intOf i).toNat)
          case atStart => exact ⟨0, rfl, Nat.zero_le _, HO, HE⟩
          case round =>
            clear HO HE
            obtain ⟨j, rfl, hj, HO, HE⟩ := hrel
            by_cases hlt : j < l4.length
            rotate_left
            · obtain rfl : j = l4.length := by omega
              go_wp2
              go_ret
              have h := HO.out
              rw [List.drop_length] at h
              obtain rfl := Option.some.inj h
              exact ⟨rfl, HE.out.below⟩
            · obtain ⟨ad, hA, -, -⟩ := at_T54 (Kd.C_below HR.out.1 HE.out.below) (j : Int) (by omega) (by omega)
              subst hA
              have hdrop : l4.drop j = rd_T54 l4 j :: l4.drop (j + 1) := by
                rw [List.drop_eq_getElem_cons hlt]
                unfold rd_T54
                rw [List.getD_eq_getElem?_getD, Int.toNat_natCast, List.getElem?_eq_getElem hlt]
                rfl
              have h := HO.out
              rw [hdrop] at h
              simp only [soundserviceref18_Declared.outer] at h
              rw [← hdrop] at h
              obtain ⟨r1, hr1, h⟩ := Option.bind_eq_some_iff.1 h
              have HN := Aside0.mk h
              have HI := Aside0.mk hr1
              have hc4 := HR.out.2
              clear h hr1 hdrop HO
              go_upto_region 15 with (fail)
              go_wp2
              go_loopw [17, 18, 108] (fun a b i wr => ∃ (k : Nat) (pull push : Int), i = .int .i64 k ∧ a = .int .u64 pull ∧ b = .int .u64 push ∧ j + k ≤ l4.length ∧ Aside0 (soundserviceref18_Declared.inner a0_0 bb pp qq a2 a3 (l4.drop (j + k)) k pull push = some r1) ∧ Aside0 (soundserviceref18_Declared.Env w wr S a0_0 a0_1 a1_0 a1_1)) (fun _ _ i _ => l4.length - (intOf i).toNat)
              case atStart => exact ⟨0, 0, 0, rfl, rfl, rfl, by omega, HI, HE⟩
              case round =>
                clear HI HE
                obtain ⟨k, pull, push, rfl, rfl, rfl, hjk, HI, HE⟩ := hrel
                by_cases hlt2 : j + k < l4.length
                rotate_left
                · obtain rfl : k = l4.length - j := by omega
                  have hi := HI.out
                  rw [List.drop_eq_nil_of_le (by omega)] at hi
                  simp only [soundserviceref18_Declared.inner, Option.some.injEq] at hi
                  have hn := HN.out
                  rw [← hi, if_pos rfl] at hn
                  have HO := Aside0.mk hn
                  clear hi hn HI HN
                  go_wp2
                  go_roundw
                  case rel => exact ⟨j + 1, by go_num, by omega, HO, HE⟩
                  case measure =>
                    simp only [intOf]
                    omega
                · obtain ⟨ad', hA', e0, e1⟩ := at_T54 (Kd.C_below HR.out.1 HE.out.below) ((j + k : Nat) : Int) (by omega) (by omega)
                  obtain rfl := Option.some.inj hA'
                  clear hA'
                  rw [Int.toNat_natCast, show (j + k) * 2 = j * 2 + k * 2 by omega, ← add_add] at e0 e1
                  have hdrop : l4.drop (j + k) = rd_T54 l4 ((j + k : Nat) : Int) :: l4.drop (j + (k + 1)) := by
                    rw [List.drop_eq_getElem_cons hlt2]
                    unfold rd_T54
                    rw [List.getD_eq_getElem?_getD, Int.toNat_natCast, List.getElem?_eq_getElem hlt2]
                    rfl
                  have h := HI.out
                  rw [hdrop] at h
                  generalize rd_T54 l4 ((j + k : Nat) : Int) = s at e0 e1 h
                  obtain ⟨t0, t1⟩ := s
                  simp only at e0 e1
                  simp only [soundserviceref18_Declared.inner, Option.bind_eq_some_iff] at h
                  clear hdrop HI
                  go_upto_region 17 with (fail)
                  have bX := heap_alloc_new wr (Obj.cells #[.int .i64 t0, .int .i64 t1] 54 (0, 0))
                  have hA : Below wr.heap.size wr (wr.alloc (Obj.cells #[.int .i64 t0, .int .i64 t1] 54 (0, 0))) := below_alloc (Below.refl _ _) _
                  have hE := HE.out.grow hA
                  clear hA HE e0 e1
                  generalize wr.alloc (Obj.cells #[.int .i64 t0, .int .i64 t1] 54 (0, 0)) = Wa at bX hE ⊢
                  generalize wr.heap.size = X at bX ⊢
                  obtain ⟨u, hu, v, hv, n, hn, x1, hx1, x2, hx2, y, hy, z1, hz1, h⟩ := h
                  go_upto_region 18 with (fail)
                  have s0 : Wa.cell? ⟨X, 0, none⟩ = some (.int .i64 t0) := (blk_cell bX 0).trans rfl
                  have s1 : Wa.cell? ⟨X, 1, none⟩ = some (.int .i64 t1) := (blk_cell bX 1).trans rfl
                  have HX := Aside0.mk hE
                  clear bX hE
                  go_quiet (fail)
                  have hE := HX.out.grow (pw_below_drewN (Below.refl _ Wa) nq)
                  clear HX s0 s1
                  generalize Wa.drewN nq = Wb at hE ⊢
                  generalize IntKind.u64.wrap (pull + IntKind.u64.wrap t0) = pull' at h hu ⊢
                  generalize IntKind.u64.wrap (push + IntKind.u64.wrap t1) = push' at h hv ⊢
                  have s0 : Wb.cell? ⟨S, 0, none⟩ = some (.int .i64 a0_0) := (blk_cell hE.base 0).trans rfl
                  have hp : ∀ W : World, Calls Try.prog 40 #[.int .u64 (IntKind.u64.wrap (pull' * IntKind.u64.wrap a0_0)), .int .u64 qq, .int .u64 65536] W fun e w' => e = .returned (.agg #[.int .u64 u.1, .int .u64 u.2]) ∧ Below W.heap.size W w' := fun W => soundserviceref18_times.calls _ _ _ _ _ W hu
                  clear hu
                  go_upto_region 20 with (go_at_call 40; refine (hp _).mono ?_; clear hp s0; rintro e Wp ⟨rfl, hb⟩; have hb5 := hb; clear hb)
                  have hA := below_alloc hb5 (Obj.cells #[.int .u64 u.1, .int .u64 u.2] 76 (0, 0))
                  have bU := heap_alloc_new Wp (Obj.cells #[.int .u64 u.1, .int .u64 u.2] 76 (0, 0))
                  replace hE := hE.grow hA
                  clear hA hb5
                  generalize Wp.alloc (Obj.cells #[.int .u64 u.1, .int .u64 u.2] 76 (0, 0)) = Wc at bU hE ⊢
                  generalize Wp.heap.size = U at bU ⊢
                  have hp : ∀ W : World, Calls Try.prog 40 #[.int .u64 (IntKind.u64.wrap (push' * bb)), .int .u64 qq, .int .u64 65536] W fun e w' => e = .returned (.agg #[.int .u64 v.1, .int .u64 v.2]) ∧ Below W.heap.size W w' := fun W => soundserviceref18_times.calls _ _ _ _ _ W hv
                  clear hv
                  go_upto_region 21 with (go_at_call 40; refine (hp _).mono ?_; clear hp ; rintro e Wp ⟨rfl, hb⟩; have hb5 := hb; clear hb)
                  have hA := below_alloc hb5 (Obj.cells #[.int .u64 v.1, .int .u64 v.2] 76 (0, 0))
                  have bV := heap_alloc_new Wp (Obj.cells #[.int .u64 v.1, .int .u64 v.2] 76 (0, 0))
                  replace hE := hE.grow hA
                  replace bU := blk_below bU hA
                  clear hA hb5
                  generalize Wp.alloc (Obj.cells #[.int .u64 v.1, .int .u64 v.2] 76 (0, 0)) = Wd at bV hE bU ⊢
                  generalize Wp.heap.size = V at bV ⊢
                  have hp : ∀ W : World, Calls Try.prog 40 #[.int .u64 (IntKind.u64.wrap (((k : Int) + 1) * pp)), .int .u64 bb, .int .u64 65536] W fun e w' => e = .returned (.agg #[.int .u64 n.1, .int .u64 n.2]) ∧ Below W.heap.size W w' := fun W => soundserviceref18_times.calls _ _ _ _ _ W hn
                  clear hn
                  go_upto_region 22 with (go_at_call 40; refine (hp _).mono ?_; clear hp ; rintro e Wp ⟨rfl, hb⟩; have hb5 := hb; clear hb)
                  have hA := below_alloc hb5 (Obj.cells #[.int .u64 n.1, .int .u64 n.2] 76 (0, 0))
                  have bN := heap_alloc_new Wp (Obj.cells #[.int .u64 n.1, .int .u64 n.2] 76 (0, 0))
                  replace hE := hE.grow hA
                  replace bU := blk_below bU hA
                  replace bV := blk_below bV hA
                  clear hA hb5
                  generalize Wp.alloc (Obj.cells #[.int .u64 n.1, .int .u64 n.2] 76 (0, 0)) = We at bN hE bU bV ⊢
                  generalize Wp.heap.size = N at bN ⊢
                  have hp1 : ∀ W : World, Calls Try.prog 40 #[.int .u64 (IntKind.u64.wrap (((k : Int) + 1) * pp)), .int .u64 bb, .int .u64 (IntKind.u64.wrap a2)] W fun e w' => e = .returned (.agg #[.int .u64 x1.1, .int .u64 x1.2]) ∧ Below W.heap.size W w' := fun W => soundserviceref18_times.calls _ _ _ _ _ W hx1
                  have hp2 : ∀ W : World, Calls Try.prog 40 #[.int .u64 (IntKind.u64.wrap (IntKind.u64.wrap a3 * bb)), .int .u64 qq, .int .u64 65536] W fun e w' => e = .returned (.agg #[.int .u64 x2.1, .int .u64 x2.2]) ∧ Below W.heap.size W w' := fun W => soundserviceref18_times.calls _ _ _ _ _ W hx2
                  have hp3 : ∀ W : World, Calls Try.prog 41 #[.agg #[.int .u64 x1.1, .int .u64 x1.2], .agg #[.int .u64 x2.1, .int .u64 x2.2]] W fun e w' => e = .returned (.agg #[.int .u64 y.1, .int .u64 y.2]) ∧ Below W.heap.size W w' := fun W => soundserviceref18_plus.calls _ _ _ _ _ _ W hy
                  clear hx1 hx2 hy
                  go_upto_region 23 with (first | (go_at_call 40; refine (hp1 _).mono ?_; clear hp1; rintro e Wp ⟨rfl, hb⟩; have hb5 := hb; clear hb) | (go_at_call 40; refine (hp2 _).mono ?_; clear hp2; rintro e Wq ⟨rfl, hb⟩; have hb6 := hb; clear hb) | (go_at_call 41; refine (hp3 _).mono ?_; clear hp3; rintro e Wr ⟨rfl, hb⟩; have hb7 := hb; clear hb))
                  have hb8 := (hb5.trans (hb6.mono hb5.size)).trans (hb7.mono (hb5.trans (hb6.mono hb5.size)).size)
                  clear hb5 hb6 hb7
                  have hA := below_alloc hb8 (Obj.cells #[.int .u64 y.1, .int .u64 y.2] 76 (0, 0))
                  have bY := heap_alloc_new Wr (Obj.cells #[.int .u64 y.1, .int .u64 y.2] 76 (0, 0))
                  replace hE := hE.grow hA
                  replace bU := blk_below bU hA
                  replace bV := blk_below bV hA
                  replace bN := blk_below bN hA
                  clear hA hb8
                  generalize Wr.alloc (Obj.cells #[.int .u64 y.1, .int .u64 y.2] 76 (0, 0)) = Wf at bY hE bU bV bN ⊢
                  generalize Wr.heap.size = Y at bY ⊢
                  have s0 : Wf.cell? ⟨U, 0, none⟩ = some (.int .u64 u.1) := (blk_cell bU 0).trans rfl
                  have s1 : Wf.cell? ⟨U, 1, none⟩ = some (.int .u64 u.2) := (blk_cell bU 1).trans rfl
                  have s2 : Wf.cell? ⟨V, 0, none⟩ = some (.int .u64 v.1) := (blk_cell bV 0).trans rfl
                  have s3 : Wf.cell? ⟨V, 1, none⟩ = some (.int .u64 v.2) := (blk_cell bV 1).trans rfl
                  have s4 : Wf.cell? ⟨N, 0, none⟩ = some (.int .u64 n.1) := (blk_cell bN 0).trans rfl
                  have s5 : Wf.cell? ⟨N, 1, none⟩ = some (.int .u64 n.2) := (blk_cell bN 1).trans rfl
                  have s6 : Wf.cell? ⟨Y, 0, none⟩ = some (.int .u64 y.1) := (blk_cell bY 0).trans rfl
                  have s7 : Wf.cell? ⟨Y, 1, none⟩ = some (.int .u64 y.2) := (blk_cell bY 1).trans rfl
                  have HX := Aside0.mk hE
                  clear hE bU bV bN bY
                  have no : r1 = false → r = false := fun e => by
                    have := HN.out
                    rw [e] at this
                    simpa using this.symm
                  have hp1 : ∀ W : World, Calls Try.prog 42 #[.agg #[.int .u64 u.1, .int .u64 u.2], .agg #[.int .u64 n.1, .int .u64 n.2], .agg #[.int .u64 y.1, .int .u64 y.2]] W fun e w' => e = .returned (.bool z1) ∧ Below W.heap.size W w' := fun W => soundserviceref18_near.calls _ _ _ _ _ _ _ W hz1
                  clear hz1
                  cases z1 with
                  | false =>
                    rw [if_neg (by decide)] at h
                    have hr := Aside0.mk (no (Option.some.inj h).symm)
                    clear h no HN
                    go_wp2_with ((go_at_call 42; refine (hp1 _).mono ?_; clear hp1; rintro e W1 ⟨rfl, hb⟩; have hb5 := hb; replace s0 := keep_cell hb s0; replace s1 := keep_cell hb s1; replace s2 := keep_cell hb s2; replace s3 := keep_cell hb s3; replace s4 := keep_cell hb s4; replace s5 := keep_cell hb s5; replace s6 := keep_cell hb s6; replace s7 := keep_cell hb s7; clear hb))
                    go_ret
                    rw [hr.out]
                    exact ⟨rfl, (HX.out.grow hb5).below⟩
                  | true =>
                    rw [if_pos rfl] at h
                    obtain ⟨z2, hz2, h⟩ := Option.bind_eq_some_iff.1 h
                    have hp2 : ∀ W : World, Calls Try.prog 42 #[.agg #[.int .u64 v.1, .int .u64 v.2], .agg #[.int .u64 n.1, .int .u64 n.2], .agg #[.int .u64 y.1, .int .u64 y.2]] W fun e w' => e = .returned (.bool z2) ∧ Below W.heap.size W w' := fun W => soundserviceref18_near.calls _ _ _ _ _ _ _ W hz2
                    clear hz2
                    cases z2 with
                    | false =>
                      rw [if_neg (by decide)] at h
                      have hr := Aside0.mk (no (Option.some.inj h).symm)
                      clear h no HN
                      go_wp2_with (first | (go_at_call 42; refine (hp1 _).mono ?_; clear hp1; rintro e W1 ⟨rfl, hb⟩; have hb5 := hb; replace s0 := keep_cell hb s0; replace s1 := keep_cell hb s1; replace s2 := keep_cell hb s2; replace s3 := keep_cell hb s3; replace s4 := keep_cell hb s4; replace s5 := keep_cell hb s5; replace s6 := keep_cell hb s6; replace s7 := keep_cell hb s7; clear hb) | (go_at_call 42; refine (hp2 _).mono ?_; clear hp2; rintro e W2 ⟨rfl, hb⟩; have hb6 := hb; replace s0 := keep_cell hb s0; replace s1 := keep_cell hb s1; replace s2 := keep_cell hb s2; replace s3 := keep_cell hb s3; replace s4 := keep_cell hb s4; replace s5 := keep_cell hb s5; replace s6 := keep_cell hb s6; replace s7 := keep_cell hb s7; clear hb))
                      go_ret
                      rw [hr.out]
                      exact ⟨rfl, ((HX.out.grow hb5).grow hb6).below⟩
                    | true =>
                      rw [if_pos rfl] at h
                      obtain ⟨z3, hz3, h⟩ := Option.bind_eq_some_iff.1 h
                      have hp3 : ∀ W : World, Calls Try.prog 42 #[.agg #[.int .u64 u.1, .int .u64 u.2], .agg #[.int .u64 v.1, .int .u64 v.2], .agg #[.int .u64 y.1, .int .u64 y.2]] W fun e w' => e = .returned (.bool z3) ∧ Below W.heap.size W w' := fun W => soundserviceref18_near.calls _ _ _ _ _ _ _ W hz3
                      clear hz3
                      cases z3 with
                      | false =>
                        rw [if_neg (by decide)] at h
                        have hr := Aside0.mk (no (Option.some.inj h).symm)
                        clear h no HN
                        go_wp2_with (first | (go_at_call 42; refine (hp1 _).mono ?_; clear hp1; rintro e W1 ⟨rfl, hb⟩; have hb5 := hb; replace s0 := keep_cell hb s0; replace s1 := keep_cell hb s1; replace s2 := keep_cell hb s2; replace s3 := keep_cell hb s3; replace s4 := keep_cell hb s4; replace s5 := keep_cell hb s5; replace s6 := keep_cell hb s6; replace s7 := keep_cell hb s7; clear hb) | (go_at_call 42; refine (hp2 _).mono ?_; clear hp2; rintro e W2 ⟨rfl, hb⟩; have hb6 := hb; replace s0 := keep_cell hb s0; replace s1 := keep_cell hb s1; replace s2 := keep_cell hb s2; replace s3 := keep_cell hb s3; replace s4 := keep_cell hb s4; replace s5 := keep_cell hb s5; replace s6 := keep_cell hb s6; replace s7 := keep_cell hb s7; clear hb) | (go_at_call 42; refine (hp3 _).mono ?_; clear hp3; rintro e W3 ⟨rfl, hb⟩; have hb7 := hb; replace s0 := keep_cell hb s0; replace s1 := keep_cell hb s1; replace s2 := keep_cell hb s2; replace s3 := keep_cell hb s3; replace s4 := keep_cell hb s4; replace s5 := keep_cell hb s5; replace s6 := keep_cell hb s6; replace s7 := keep_cell hb s7; clear hb))
                        go_ret
                        rw [hr.out]
                        exact ⟨rfl, (((HX.out.grow hb5).grow hb6).grow hb7).below⟩
                      | true =>
                        rw [if_pos rfl] at h
                        have HI := Aside0.mk h
                        clear h no
                        go_wp2_with (first | (go_at_call 42; refine (hp1 _).mono ?_; clear hp1; rintro e W1 ⟨rfl, hb⟩; have hb5 := hb; replace s0 := keep_cell hb s0; replace s1 := keep_cell hb s1; replace s2 := keep_cell hb s2; replace s3 := keep_cell hb s3; replace s4 := keep_cell hb s4; replace s5 := keep_cell hb s5; replace s6 := keep_cell hb s6; replace s7 := keep_cell hb s7; clear hb) | (go_at_call 42; refine (hp2 _).mono ?_; clear hp2; rintro e W2 ⟨rfl, hb⟩; have hb6 := hb; replace s0 := keep_cell hb s0; replace s1 := keep_cell hb s1; replace s2 := keep_cell hb s2; replace s3 := keep_cell hb s3; replace s4 := keep_cell hb s4; replace s5 := keep_cell hb s5; replace s6 := keep_cell hb s6; replace s7 := keep_cell hb s7; clear hb) | (go_at_call 42; refine (hp3 _).mono ?_; clear hp3; rintro e W3 ⟨rfl, hb⟩; have hb7 := hb; replace s0 := keep_cell hb s0; replace s1 := keep_cell hb s1; replace s2 := keep_cell hb s2; replace s3 := keep_cell hb s3; replace s4 := keep_cell hb s4; replace s5 := keep_cell hb s5; replace s6 := keep_cell hb s6; replace s7 := keep_cell hb s7; clear hb))
                        have HE := Aside0.mk (((HX.out.grow hb5).grow hb6).grow hb7)
                        go_roundw
                        case rel => exact ⟨k + 1, pull', push', by go_num, rfl, rfl, by omega, HI, HE⟩
                        case measure =>
                          simp only [intOf]
                          omega


end Go.Proofs.Ytcnheiemajghiaa.PA
