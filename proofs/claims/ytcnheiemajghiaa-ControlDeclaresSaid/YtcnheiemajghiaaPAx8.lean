/- Walks of functions of the program: each does what its Lean function says. Written by a program of this session (wip/xprint), which runs the printer of the kit with changes. -/
import Derived.Test.YtcnheiemajghiaaPAx0
import Derived.Test.YtcnheiemajghiaaPAx4
import Derived.Test.YtcnheiemajghiaaPAx6
import Derived.Test.YtcnheiemajghiaaPAx7
namespace Go.Proofs.Ytcnheiemajghiaa.PA
open Go.RowKit Go.Proofs.YtcnheiemajghiaaW.PrintWords Go.Proofs.YtcnheiemajghiaaW.PrintLast Go.Proofs.YtcnheiemajghiaaW.PrintMore
attribute [local go_sem] max2_int min2_int max_two min_two max_three min_three max_four min_four   -- for this text's walks alone
set_option linter.unusedVariables false
set_option linter.unusedSimpArgs false


/-! ### control_Declared: function 24 -/
/-- A sum of two words, and its least value so far. -/
structure control_Declared.W2 where
  f0 : Int
  f1 : Int
structure control_Declared.SU where
  f0 : control_Declared.W2
  f1 : control_Declared.W2
/-- Six sums are moved, each by its own difference; false: one has risen by more than the limit. -/
def control_Declared.inner (m0 m1 : Int) : List (Int × Int) → List control_Declared.SU → Option (Bool × List control_Declared.SU)
 | [], ss => some (true, ss)
 | _ :: _, [] => none
 | b :: bs, s :: ss => (control_level_move.f s.f0.f0 s.f0.f1 s.f1.f0 s.f1.f1 b.1 b.2 m0 m1).bind fun x => if x.1 = true then (control_Declared.inner m0 m1 bs ss).bind fun y => some (y.1, ⟨⟨x.2.1.1, x.2.1.2⟩, ⟨x.2.2.1, x.2.2.2⟩⟩ :: y.2) else some (false, [])
/-- The six differences. -/
def control_Declared.moves (u v most least spread : Int × Int) : Option (List (Int × Int)) :=
  (control_less.f u.1 u.2 most.1 most.2).bind fun a => (control_less.f least.1 least.2 u.1 u.2).bind fun b => (control_less.f v.1 v.2 most.1 most.2).bind fun c => (control_less.f least.1 least.2 v.1 v.2).bind fun d =>
  (control_less.f u.1 u.2 v.1 v.2).bind fun p => (control_less.f p.1 p.2 spread.1 spread.2).bind fun e => (control_less.f v.1 v.2 u.1 u.2).bind fun q => (control_less.f q.1 q.2 spread.1 spread.2).bind fun f => some [a, b, c, d, e, f]
def control_Declared.rnd (bn bd part : Int) (most least spread : Int × Int) (s : S54) : Option (Option (List (Int × Int))) :=
  if s.f0 < 0 then some none else if s.f0 > 65536 then some none else if s.f1 < 0 then some none else if s.f1 > 65536 then some none else
  (control_product.f (wrap64 (s.f0 * bn)) part).bind fun u => (control_product.f (wrap64 (s.f1 * bd)) part).bind fun v => (control_Declared.moves u v most least spread).bind fun bs => some (some bs)
def control_Declared.loop (bn bd part : Int) (lim most least spread : Int × Int) : List S54 → List control_Declared.SU → Option Bool
 | [], _ => some true
 | t :: ts, ss => (control_Declared.rnd bn bd part most least spread t).bind fun o => match o with
   | none => some false
   | some bs => (control_Declared.inner lim.1 lim.2 bs ss).bind fun y => if y.1 = true then control_Declared.loop bn bd part lim most least spread ts y.2 else some false
def control_Declared.z : control_Declared.SU := ⟨⟨0, 0⟩, ⟨0, 0⟩⟩
def control_Declared.f (k : Nat) (a0_0 a0_1 a1_0 a1_1 a2 a3 : Int) (l4 : List S54) : Option Bool :=
  (ratio_Valid.f k a0_0 a0_1).bind fun v => if v = true then (if a0_0 > 768000 then some false else if a0_1 > 768000 then some false else (control_declared.f k a1_0 a1_1 a2 a3).bind fun d => if d = true then (if (l4.length : Int) > 256 then some false else
    (control_product.f (wrap64 (a0_1 * wrap64 (a1_1 * 65536))) a3).bind fun lim => (control_product.f (wrap64 (a1_0 * a0_1)) (wrap64 (65536 + a2))).bind fun most => (control_product.f (wrap64 (a1_0 * a0_1)) (wrap64 (65536 - a2))).bind fun least =>
    (control_product.f (wrap64 (a1_0 * a0_1)) a2).bind fun spread => control_Declared.loop a0_0 a0_1 (wrap64 (a1_1 * 65536)) lim most least spread l4 [control_Declared.z, control_Declared.z, control_Declared.z, control_Declared.z, control_Declared.z, control_Declared.z])
    else some false) else some false
theorem control_Declared.mono : ∀ a0 a1 a2 a3 a4 a5 a6 k, LeO (control_Declared.f k a0 a1 a2 a3 a4 a5 a6) (control_Declared.f (k + 1) a0 a1 a2 a3 a4 a5 a6) := fun _ _ _ _ _ _ _ k =>
  LeO.bind (ratio_Valid.mono _ _ k) (fun _ => LeO.ite (LeO.ite (LeO.refl _) (LeO.ite (LeO.refl _) (LeO.bind (control_declared.mono _ _ _ _ k) (fun _ => LeO.refl _)))) (LeO.refl _))
/-- The cells of the six sums. -/
def control_Declared.flat (ss : List control_Declared.SU) : Array Value := (ss.flatMap fun s => [Value.int .u64 s.f0.f0, .int .u64 s.f0.f1, .int .u64 s.f1.f0, .int .u64 s.f1.f1]).toArray
/-- What lies in memory while the transfers are walked: the variables' blocks, and the six sums. -/
structure control_Declared.Env (w W : World) (S L M N P Q : Nat) (bn bd : Int) (lim most least spread : Int × Int) (ss : List control_Declared.SU) : Prop where
  base : W.heap[S]? = some (.cells #[.int .i64 bn, .int .i64 bd] 27 (0, 0))
  lim : W.heap[L]? = some (.cells #[.int .u64 lim.1, .int .u64 lim.2] 67 (0, 0))
  most : W.heap[M]? = some (.cells #[.int .u64 most.1, .int .u64 most.2] 67 (0, 0))
  least : W.heap[N]? = some (.cells #[.int .u64 least.1, .int .u64 least.2] 67 (0, 0))
  spread : W.heap[P]? = some (.cells #[.int .u64 spread.1, .int .u64 spread.2] 67 (0, 0))
  sums : W.heap[Q]? = some (.cells (control_Declared.flat ss) 73 (0, 0))
  below : Below w.heap.size w W
  ge : w.heap.size ≤ Q
  ne : S ≠ Q ∧ L ≠ Q ∧ M ≠ Q ∧ N ≠ Q ∧ P ≠ Q
theorem control_Declared.Env.grow {w W W' : World} {S L M N P Q : Nat} {bn bd : Int} {lim most least spread : Int × Int} {ss : List control_Declared.SU} (h : control_Declared.Env w W S L M N P Q bn bd lim most least spread ss) (hb : Below W.heap.size W W') : control_Declared.Env w W' S L M N P Q bn bd lim most least spread ss :=
  ⟨blk_below h.base hb, blk_below h.lim hb, blk_below h.most hb, blk_below h.least hb, blk_below h.spread hb, blk_below h.sums hb, h.below.trans (hb.mono h.below.size), h.ge, h.ne⟩
theorem control_Declared.Env.moved {w W W' : World} {S L M N P Q : Nat} {bn bd : Int} {lim most least spread : Int × Int} {ss ss' : List control_Declared.SU} (h : control_Declared.Env w W S L M N P Q bn bd lim most least spread ss)
    (hs : W'.heap[Q]? = some (.cells (control_Declared.flat ss') 73 (0, 0))) (hk : KeepBut W W' Q none) (hb : Below Q W W') : control_Declared.Env w W' S L M N P Q bn bd lim most least spread ss' := by
  have k : ∀ {i : Nat} {o : Obj}, W.heap[i]? = some o → i ≠ Q → W'.heap[i]? = some o := fun hi hq => (hk.2 _ (blk_lt hi) hq (by simp)).trans hi
  exact ⟨k h.base h.ne.1, k h.lim h.ne.2.1, k h.most h.ne.2.2.1, k h.least h.ne.2.2.2.1, k h.spread h.ne.2.2.2.2, hs, h.below.trans (hb.mono h.ge), h.ge, h.ne⟩
theorem control_Declared.drop_at {α : Type} {l : List α} {k n : Nat} (hl : l.length = n) (hk : k < n) : ∃ a, l[k]? = some a ∧ l.drop k = a :: l.drop (k + 1) := ⟨l[k]'(by omega), List.getElem?_eq_getElem _, List.drop_eq_getElem_cons _⟩
/-- The cells of the six differences. -/
def control_Declared.mvs (bs : List (Int × Int)) : Array Value := (bs.flatMap fun b => [Value.int .u64 b.1, .int .u64 b.2]).toArray
theorem control_Declared.mvs_at : ∀ {bs : List (Int × Int)} {k : Nat} {b : Int × Int}, bs[k]? = some b → (control_Declared.mvs bs)[k * 2]? = some (.int .u64 b.1) ∧ (control_Declared.mvs bs)[k * 2 + 1]? = some (.int .u64 b.2)
 | [], k, b, h => by simp at h
 | a :: l, 0, b, h => by
   obtain rfl : a = b := by simpa using h
   simp [control_Declared.mvs]
 | a :: l, k + 1, b, h => by
   have ih := control_Declared.mvs_at (bs := l) (k := k) (b := b) (by simpa using h)
   simp only [control_Declared.mvs, List.getElem?_toArray, List.flatMap_cons] at ih ⊢
   rw [show (k + 1) * 2 = k * 2 + 2 by omega]
   exact ih
theorem control_Declared.flat_at : ∀ {ss : List control_Declared.SU} {k : Nat} {s : control_Declared.SU}, ss[k]? = some s → (control_Declared.flat ss)[k * 4]? = some (.int .u64 s.f0.f0) ∧ (control_Declared.flat ss)[k * 4 + 1]? = some (.int .u64 s.f0.f1) ∧ (control_Declared.flat ss)[k * 4 + 2]? = some (.int .u64 s.f1.f0) ∧ (control_Declared.flat ss)[k * 4 + 3]? = some (.int .u64 s.f1.f1)
 | [], k, s, h => by simp at h
 | a :: l, 0, s, h => by
   obtain rfl : a = s := by simpa using h
   simp [control_Declared.flat]
 | a :: l, k + 1, s, h => by
   have ih := control_Declared.flat_at (ss := l) (k := k) (s := s) (by simpa using h)
   simp only [control_Declared.flat, List.getElem?_toArray, List.flatMap_cons] at ih ⊢
   rw [show (k + 1) * 4 = k * 4 + 4 by omega]
   exact ih
theorem control_Declared.flat_set : ∀ {ss : List control_Declared.SU} {k : Nat} (a b c d : Int), k < ss.length →
    ((((control_Declared.flat ss).setIfInBounds (k * 4) (.int .u64 a)).setIfInBounds (k * 4 + 1) (.int .u64 b)).setIfInBounds (k * 4 + 2) (.int .u64 c)).setIfInBounds (k * 4 + 3) (.int .u64 d) = control_Declared.flat (ss.set k ⟨⟨a, b⟩, ⟨c, d⟩⟩)
 | [], k, a, b, c, d, h => absurd h (Nat.not_lt_zero _)
 | s :: l, 0, a, b, c, d, h => by simp [control_Declared.flat]
 | s :: l, k + 1, a, b, c, d, h => by
   have ih := control_Declared.flat_set (ss := l) (k := k) a b c d (by simpa using h)
   simp only [control_Declared.flat, List.setIfInBounds_toArray, List.flatMap_cons, List.set_cons_succ] at ih ⊢
   rw [show (k + 1) * 4 = k * 4 + 4 by omega]
   have ih' := congrArg Array.toList ih
   apply congrArg List.toArray
   exact congrArg (fun z => Value.int .u64 s.f0.f0 :: Value.int .u64 s.f0.f1 :: Value.int .u64 s.f1.f0 :: Value.int .u64 s.f1.f1 :: z) ih'
theorem control_Declared.info73 : (Try.prog.info? 73).map (fun i => (i.zero, i.size, i.bytes)) = some (some (.agg #[.int .u64 0, .int .u64 0, .int .u64 0, .int .u64 0]), 4, 32) := by kernel_rfl
set_option maxHeartbeats 8000000 in
set_option maxRecDepth 100000 in
theorem control_Declared.calls (k : Nat) (a0_0 a0_1 a1_0 a1_1 a2 a3 : Int) (A4 : Option Addr) (c4 : Nat) (l4 : List S54) (r : Bool) (w : World) (hr4 : Kd.C k54 w A4 l4.length l4) (hc4 : l4.length ≤ c4) (h : control_Declared.f k a0_0 a0_1 a1_0 a1_1 a2 a3 l4 = some r) :
    Calls Try.prog 24 #[.agg #[.int .i64 a0_0, .int .i64 a0_1], .agg #[.int .i64 a1_0, .int .i64 a1_1], .int .i64 a2, .int .i64 a3, .slice A4 l4.length c4] w fun e w' => e = .returned (.bool r) ∧ Below w.heap.size w w' := by
  have hu67 := Try.underlying67
  have hu73 := Try.underlying73
  have hu27 := Try.underlying27
  have hu54 := Try.underlying54
  simp only [control_Declared.f, Option.bind_eq_some_iff] at h
  obtain ⟨v, hv, h⟩ := h
  have hcv : ∀ W : World, Calls Try.prog 34 #[.agg #[.int .i64 a0_0, .int .i64 a0_1]] W fun e w' => e = .returned (.bool v) ∧ Below W.heap.size W w' := fun W => ratio_Valid.calls k a0_0 a0_1 v W hv
  clear hv
  have HR := Aside0.mk (And.intro hr4 hc4)
  clear hr4 hc4
  cases v with
  | false =>
    have H := Aside0.mk h
    clear h
    go_enter Try.func24, Try.ntmps24
    go_wp2_with (go_at_call 34; refine (hcv _).mono ?_; clear hcv; rintro e W1 ⟨rfl, hb⟩; have hb1 := hb)
    go_ret
    obtain ⟨rfl⟩ : false = r := by simpa using H.out
    exact ⟨rfl, (below_alloc (below_alloc (Below.refl _ w) _) _).trans (hb1.mono (by simp; omega))⟩
  | true =>
    rw [if_pos rfl] at h
    by_cases c1 : a0_0 > 768000
    · rw [if_pos c1] at h
      obtain rfl := Option.some.inj h
      have d1 : decide (768000 < a0_0) = true := decide_eq_true c1
      clear c1 h
      go_enter Try.func24, Try.ntmps24
      go_wp2_with (go_at_call 34; refine (hcv _).mono ?_; clear hcv; rintro e W1 ⟨rfl, hb⟩; have hb1 := hb; have q0 : W1.cell? ⟨w.heap.size, 0, none⟩ = some (.int .i64 a0_0) := keep_cell hb (by simp))
      go_ret
      exact ⟨rfl, (below_alloc (below_alloc (Below.refl _ w) _) _).trans (hb1.mono (by simp; omega))⟩
    · rw [if_neg c1] at h
      have d1 : decide (768000 < a0_0) = false := decide_eq_false c1
      clear c1
      by_cases c2 : a0_1 > 768000
      · rw [if_pos c2] at h
        obtain rfl := Option.some.inj h
        have d2 : decide (768000 < a0_1) = true := decide_eq_true c2
        clear c2 h
        go_enter Try.func24, Try.ntmps24
        go_wp2_with (go_at_call 34; refine (hcv _).mono ?_; clear hcv; rintro e W1 ⟨rfl, hb⟩; have hb1 := hb; have q0 : W1.cell? ⟨w.heap.size, 0, none⟩ = some (.int .i64 a0_0) := keep_cell hb (by simp); have q1 : W1.cell? ⟨w.heap.size, 1, none⟩ = some (.int .i64 a0_1) := keep_cell hb (by simp))
        go_ret
        exact ⟨rfl, (below_alloc (below_alloc (Below.refl _ w) _) _).trans (hb1.mono (by simp; omega))⟩
      · rw [if_neg c2] at h
        have d2 : decide (768000 < a0_1) = false := decide_eq_false c2
        clear c2
        simp only [Option.bind_eq_some_iff] at h
        obtain ⟨d, hd, h⟩ := h
        have hcd : ∀ W : World, Calls Try.prog 27 #[.agg #[.int .i64 a1_0, .int .i64 a1_1], .int .i64 a2, .int .i64 a3] W fun e w' => e = .returned (.bool d) ∧ Below W.heap.size W w' := fun W => control_declared.calls k a1_0 a1_1 a2 a3 d W hd
        clear hd
        cases d with
        | false =>
          have H := Aside0.mk h
          clear h
          go_enter Try.func24, Try.ntmps24
          go_wp2_with (first | (go_at_call 34; refine (hcv _).mono ?_; clear hcv; rintro e W1 ⟨rfl, hb⟩; have hb1 := hb; have q0 : W1.cell? ⟨w.heap.size, 0, none⟩ = some (.int .i64 a0_0) := keep_cell hb (by simp); have q1 : W1.cell? ⟨w.heap.size, 1, none⟩ = some (.int .i64 a0_1) := keep_cell hb (by simp); have q2 : W1.cell? ⟨w.heap.size + 1, 0, none⟩ = some (.int .i64 a1_0) := keep_cell hb (by simp); have q3 : W1.cell? ⟨w.heap.size + 1, 1, none⟩ = some (.int .i64 a1_1) := keep_cell hb (by simp)) | (go_at_call 27; refine (hcd _).mono ?_; clear hcd; rintro e W2 ⟨rfl, hb⟩; have hb2 := hb))
          go_ret
          obtain ⟨rfl⟩ : false = r := by simpa using H.out
          exact ⟨rfl, ((below_alloc (below_alloc (Below.refl _ w) _) _).trans (hb1.mono (by simp; omega))).trans (hb2.mono (by have := hb1.size; simp at this; omega))⟩
        | true =>
          rw [if_pos rfl] at h
          by_cases c3 : (l4.length : Int) > 256
          · rw [if_pos c3] at h
            obtain rfl := Option.some.inj h
            have d3 : decide (256 < l4.length) = true := decide_eq_true (by omega)
            have d3' : decide ((256 : Int) < (l4.length : Int)) = true := decide_eq_true c3
            clear c3 h
            go_enter Try.func24, Try.ntmps24
            go_wp2_with (first | (go_at_call 34; refine (hcv _).mono ?_; clear hcv; rintro e W1 ⟨rfl, hb⟩; have hb1 := hb; have q0 : W1.cell? ⟨w.heap.size, 0, none⟩ = some (.int .i64 a0_0) := keep_cell hb (by simp); have q1 : W1.cell? ⟨w.heap.size, 1, none⟩ = some (.int .i64 a0_1) := keep_cell hb (by simp); have q2 : W1.cell? ⟨w.heap.size + 1, 0, none⟩ = some (.int .i64 a1_0) := keep_cell hb (by simp); have q3 : W1.cell? ⟨w.heap.size + 1, 1, none⟩ = some (.int .i64 a1_1) := keep_cell hb (by simp)) | (go_at_call 27; refine (hcd _).mono ?_; clear hcd; rintro e W2 ⟨rfl, hb⟩; have hb2 := hb))
            go_ret
            exact ⟨rfl, ((below_alloc (below_alloc (Below.refl _ w) _) _).trans (hb1.mono (by simp; omega))).trans (hb2.mono (by have := hb1.size; simp at this; omega))⟩
          · rw [if_neg c3] at h
            have d3 : decide (256 < l4.length) = false := decide_eq_false (by omega)
            have d3' : decide ((256 : Int) < (l4.length : Int)) = false := decide_eq_false c3
            have hlen : l4.length ≤ 256 := by omega
            clear c3
            simp only [Option.bind_eq_some_iff] at h
            obtain ⟨lim, h1, most, h2, least, h3, spread, h4, h⟩ := h
            go_enter Try.func24, Try.ntmps24
            go_upto_region 3 with (first | (go_at_call 34; refine (hcv _).mono ?_; clear hcv; rintro e W1 ⟨rfl, hb⟩; have hb1 := hb; have q0 : W1.cell? ⟨w.heap.size, 0, none⟩ = some (.int .i64 a0_0) := keep_cell hb (by simp); have q1 : W1.cell? ⟨w.heap.size, 1, none⟩ = some (.int .i64 a0_1) := keep_cell hb (by simp); have q2 : W1.cell? ⟨w.heap.size + 1, 0, none⟩ = some (.int .i64 a1_0) := keep_cell hb (by simp); have q3 : W1.cell? ⟨w.heap.size + 1, 1, none⟩ = some (.int .i64 a1_1) := keep_cell hb (by simp)) | (go_at_call 27; refine (hcd _).mono ?_; clear hcd; rintro e W2 ⟨rfl, hb⟩; have hb2 := hb))
            obtain ⟨S, hS⟩ : ∃ S, S = w.heap.size := ⟨_, rfl⟩
            have hB0 : Below w.heap.size w ((w.alloc (Obj.cells #[.int .i64 a0_0, .int .i64 a0_1] 27 (0, 0))).alloc (Obj.cells #[.int .i64 a1_0, .int .i64 a1_1] 27 (0, 0))) := below_alloc (below_alloc (Below.refl _ w) _) _
            have bS : ((w.alloc (Obj.cells #[.int .i64 a0_0, .int .i64 a0_1] 27 (0, 0))).alloc (Obj.cells #[.int .i64 a1_0, .int .i64 a1_1] 27 (0, 0))).heap[S]? = some (Obj.cells #[.int .i64 a0_0, .int .i64 a0_1] 27 (0, 0)) := by rw [hS]; exact blk_alloc (heap_alloc_new w _) _
            have bT : ((w.alloc (Obj.cells #[.int .i64 a0_0, .int .i64 a0_1] 27 (0, 0))).alloc (Obj.cells #[.int .i64 a1_0, .int .i64 a1_1] 27 (0, 0))).heap[S + 1]? = some (Obj.cells #[.int .i64 a1_0, .int .i64 a1_1] 27 (0, 0)) := by
              rw [hS]
              have := heap_alloc_new (w.alloc (Obj.cells #[.int .i64 a0_0, .int .i64 a0_1] 27 (0, 0))) (Obj.cells #[.int .i64 a1_0, .int .i64 a1_1] 27 (0, 0))
              rwa [World.size_alloc] at this
            have hb12 := hb1.trans (hb2.mono hb1.size)
            replace bS := blk_below bS hb12
            replace bT := blk_below bT hb12
            replace hB0 := hB0.trans (hb12.mono hB0.size)
            rw [← hS]
            have hSx := Aside0.mk hS
            have hSw : w.heap.size ≤ S := Nat.le_of_eq hS.symm
            clear hS hb1 hb2 hb12 q0 q1 q2 q3 hb d1 d2 d3 d3'
            generalize W2 = W3 at bS bT hB0 ⊢
            obtain ⟨part, hpart⟩ : ∃ part, part = wrap64 (a1_1 * 65536) := ⟨_, rfl⟩
            obtain ⟨whole, hwhole⟩ : ∃ whole, whole = wrap64 (a1_0 * a0_1) := ⟨_, rfl⟩
            rw [← hpart] at h1 h
            rw [← hwhole] at h2 h3 h4
            have q1 : W3.cell? ⟨S, 1, none⟩ = some (.int .i64 a0_1) := (blk_cell bS 1).trans rfl
            have q2 : W3.cell? ⟨S + 1, 0, none⟩ = some (.int .i64 a1_0) := (blk_cell bT 0).trans rfl
            have q3 : W3.cell? ⟨S + 1, 1, none⟩ = some (.int .i64 a1_1) := (blk_cell bT 1).trans rfl
            have e1 := Aside0.mk hpart
            have e2 := Aside0.mk hwhole
            have hpW := Aside0.mk (And.intro bS (And.intro bT hB0))
            clear hpart hwhole bS bT hB0
            go_quiet (fail)
            rw [← e1.out, ← e2.out]
            obtain ⟨bS, bT, hBw⟩ := hpW.out
            have hD : Below W3.heap.size W3 (W3.drewN nq) := pw_below_drewN (Below.refl _ _) _
            replace bS := blk_below bS hD
            replace bT := blk_below bT hD
            replace hBw := hBw.trans (hD.mono hBw.size)
            clear hD hpW q1 q2 q3 e1 e2 bT
            generalize W3.drewN nq = W4 at bS hBw ⊢
            have hSlt := blk_lt bS
            have q1 : W4.cell? ⟨S, 1, none⟩ = some (.int .i64 a0_1) := (blk_cell bS 1).trans rfl
            have hp : ∀ W : World, Calls Try.prog 35 #[.int .i64 (wrap64 (a0_1 * part)), .int .i64 a3] W fun e w' => e = .returned (.agg #[.int .u64 lim.1, .int .u64 lim.2]) ∧ Below W.heap.size W w' := fun W => control_product.calls _ _ _ _ W h1
            go_upto_region 5 with (go_at_call 35; refine (hp _).mono ?_; clear hp; rintro e Wp ⟨rfl, hb⟩; have hb5 := hb)
            have hA : Below W4.heap.size W4 (Wp.alloc (Obj.cells #[.int .u64 lim.1, .int .u64 lim.2] 67 (0, 0))) := below_alloc hb5 _
            have bL : (Wp.alloc (Obj.cells #[.int .u64 lim.1, .int .u64 lim.2] 67 (0, 0))).heap[Wp.heap.size]? = some (Obj.cells #[.int .u64 lim.1, .int .u64 lim.2] 67 (0, 0)) := heap_alloc_new Wp _
            replace bS := blk_below bS hA
            replace hBw := hBw.trans (hA.mono hBw.size)
            have hLlt : W4.heap.size ≤ Wp.heap.size := hb5.size
            clear hA hb5 hb q1
            generalize Wp.alloc (Obj.cells #[.int .u64 lim.1, .int .u64 lim.2] 67 (0, 0)) = W5 at bL hBw bS ⊢
            generalize Wp.heap.size = L at bL hLlt ⊢
            have hLl := blk_lt bL
            have hp : ∀ W : World, Calls Try.prog 35 #[.int .i64 whole, .int .i64 (wrap64 (65536 + a2))] W fun e w' => e = .returned (.agg #[.int .u64 most.1, .int .u64 most.2]) ∧ Below W.heap.size W w' := fun W => control_product.calls _ _ _ _ W h2
            go_upto_region 6 with (go_at_call 35; refine (hp _).mono ?_; clear hp; rintro e Wp ⟨rfl, hb⟩; have hb5 := hb)
            have hA : Below W5.heap.size W5 (Wp.alloc (Obj.cells #[.int .u64 most.1, .int .u64 most.2] 67 (0, 0))) := below_alloc hb5 _
            have bM : (Wp.alloc (Obj.cells #[.int .u64 most.1, .int .u64 most.2] 67 (0, 0))).heap[Wp.heap.size]? = some (Obj.cells #[.int .u64 most.1, .int .u64 most.2] 67 (0, 0)) := heap_alloc_new Wp _
            replace bS := blk_below bS hA
            replace bL := blk_below bL hA
            replace hBw := hBw.trans (hA.mono hBw.size)
            have hMlt : W5.heap.size ≤ Wp.heap.size := hb5.size
            clear hA hb5 hb 
            generalize Wp.alloc (Obj.cells #[.int .u64 most.1, .int .u64 most.2] 67 (0, 0)) = W6 at bM hBw bS bL ⊢
            generalize Wp.heap.size = M at bM hMlt ⊢
            have hMl := blk_lt bM
            have hp : ∀ W : World, Calls Try.prog 35 #[.int .i64 whole, .int .i64 (wrap64 (65536 - a2))] W fun e w' => e = .returned (.agg #[.int .u64 least.1, .int .u64 least.2]) ∧ Below W.heap.size W w' := fun W => control_product.calls _ _ _ _ W h3
            go_upto_region 7 with (go_at_call 35; refine (hp _).mono ?_; clear hp; rintro e Wp ⟨rfl, hb⟩; have hb5 := hb)
            have hA : Below W6.heap.size W6 (Wp.alloc (Obj.cells #[.int .u64 least.1, .int .u64 least.2] 67 (0, 0))) := below_alloc hb5 _
            have bN : (Wp.alloc (Obj.cells #[.int .u64 least.1, .int .u64 least.2] 67 (0, 0))).heap[Wp.heap.size]? = some (Obj.cells #[.int .u64 least.1, .int .u64 least.2] 67 (0, 0)) := heap_alloc_new Wp _
            replace bS := blk_below bS hA
            replace bL := blk_below bL hA
            replace bM := blk_below bM hA
            replace hBw := hBw.trans (hA.mono hBw.size)
            have hNlt : W6.heap.size ≤ Wp.heap.size := hb5.size
            clear hA hb5 hb 
            generalize Wp.alloc (Obj.cells #[.int .u64 least.1, .int .u64 least.2] 67 (0, 0)) = W7 at bN hBw bS bL bM ⊢
            generalize Wp.heap.size = N at bN hNlt ⊢
            have hNl := blk_lt bN
            have hp : ∀ W : World, Calls Try.prog 35 #[.int .i64 whole, .int .i64 a2] W fun e w' => e = .returned (.agg #[.int .u64 spread.1, .int .u64 spread.2]) ∧ Below W.heap.size W w' := fun W => control_product.calls _ _ _ _ W h4
            go_upto_region 8 with (go_at_call 35; refine (hp _).mono ?_; clear hp; rintro e Wp ⟨rfl, hb⟩; have hb5 := hb)
            have hA : Below W7.heap.size W7 (Wp.alloc (Obj.cells #[.int .u64 spread.1, .int .u64 spread.2] 67 (0, 0))) := below_alloc hb5 _
            have bP : (Wp.alloc (Obj.cells #[.int .u64 spread.1, .int .u64 spread.2] 67 (0, 0))).heap[Wp.heap.size]? = some (Obj.cells #[.int .u64 spread.1, .int .u64 spread.2] 67 (0, 0)) := heap_alloc_new Wp _
            replace bS := blk_below bS hA
            replace bL := blk_below bL hA
            replace bM := blk_below bM hA
            replace bN := blk_below bN hA
            replace hBw := hBw.trans (hA.mono hBw.size)
            have hPlt : W7.heap.size ≤ Wp.heap.size := hb5.size
            clear hA hb5 hb 
            generalize Wp.alloc (Obj.cells #[.int .u64 spread.1, .int .u64 spread.2] 67 (0, 0)) = W8 at bP hBw bS bL bM bN ⊢
            generalize Wp.heap.size = P at bP hPlt ⊢
            have hPl := blk_lt bP
            have hmk : (Instr.makeSlice 69 (.int .i64 6) (.int .i64 6)).run Try.prog W8 = .ok (.slice (some ⟨W8.heap.size, 0, none⟩) 6 6) (W8.alloc (.cells (control_Declared.flat [control_Declared.z, control_Declared.z, control_Declared.z, control_Declared.z, control_Declared.z, control_Declared.z]) 73 (0, 0))) := by
              obtain ⟨i0, hi, hz0, hz1, hz2⟩ := info_parts control_Declared.info73
              have := run_make (P := Try.prog) W8 69 73 i0 _ Try.underlying69 hi hz0 .i64 .i64 6 6 (by decide) (by decide) (by rw [hz2]; decide) (by decide)
              have em : madeCells (Value.agg #[.int .u64 0, .int .u64 0, .int .u64 0, .int .u64 0]).cells (Int.toNat 6 * 4) = control_Declared.flat [control_Declared.z, control_Declared.z, control_Declared.z, control_Declared.z, control_Declared.z, control_Declared.z] := by kernel_rfl
              rw [hz1, em] at this
              exact this
            have bQ := heap_alloc_new W8 (.cells (control_Declared.flat [control_Declared.z, control_Declared.z, control_Declared.z, control_Declared.z, control_Declared.z, control_Declared.z]) 73 (0, 0))
            have hA : Below W8.heap.size W8 (W8.alloc (.cells (control_Declared.flat [control_Declared.z, control_Declared.z, control_Declared.z, control_Declared.z, control_Declared.z, control_Declared.z]) 73 (0, 0))) := below_alloc (Below.refl _ _) _
            have hE : control_Declared.Env w (W8.alloc (.cells (control_Declared.flat [control_Declared.z, control_Declared.z, control_Declared.z, control_Declared.z, control_Declared.z, control_Declared.z]) 73 (0, 0))) S L M N P W8.heap.size a0_0 a0_1 lim most least spread [control_Declared.z, control_Declared.z, control_Declared.z, control_Declared.z, control_Declared.z, control_Declared.z] :=
              ⟨blk_below bS hA, blk_below bL hA, blk_below bM hA, blk_below bN hA, blk_below bP hA, bQ, hBw.trans (hA.mono hBw.size), hBw.size, Nat.ne_of_lt (blk_lt bS), Nat.ne_of_lt (blk_lt bL), Nat.ne_of_lt (blk_lt bM), Nat.ne_of_lt (blk_lt bN), Nat.ne_of_lt (blk_lt bP)⟩
            have HE := Aside0.mk hE
            have HL := Aside0.mk h
            clear hE hA bQ bS bL bM bN bP hBw h h1 h2 h3 h4 hSlt hLl hMl hNl hPl hLlt hMlt hNlt hPlt
            go_upto_region 9 with (fail)
            clear hmk
            generalize W8.alloc (.cells (control_Declared.flat [control_Declared.z, control_Declared.z, control_Declared.z, control_Declared.z, control_Declared.z, control_Declared.z]) 73 (0, 0)) = W9 at HE ⊢
            generalize W8.heap.size = Q at HE ⊢
            go_wp2
            go_loopw [78] (fun i wr => ∃ (j : Nat) (ss : List control_Declared.SU), i = .int .i64 j ∧ j ≤ l4.length ∧ ss.length = 6 ∧ Aside0 (control_Declared.loop a0_0 a0_1 part lim most least spread (l4.drop j) ss = some r) ∧ Aside0 (control_Declared.Env w wr S L M N P Q a0_0 a0_1 lim most least spread ss)) (fun i _ => l4.length - (intOf i).toNat)
            case atStart => exact ⟨0, _, rfl, Nat.zero_le _, rfl, HL, HE⟩
            case round =>
              clear HL HE
              obtain ⟨j, ss, rfl, hj, hss, HL, HE⟩ := hrel
              by_cases hlt : j < l4.length
              rotate_left
              · obtain rfl : j = l4.length := by omega
                go_wp2
                go_ret
                have h := HL.out
                rw [List.drop_length] at h
                obtain rfl := Option.some.inj h
                exact ⟨rfl, HE.out.below⟩
              · obtain ⟨ad, hA, e0, e1⟩ := at_T54 (Kd.C_below HR.out.1 HE.out.below) (j : Int) (by omega) (by omega)
                subst hA
                simp only [Int.toNat_natCast] at e0 e1
                have hdrop : l4.drop j = rd_T54 l4 j :: l4.drop (j + 1) := by
                  rw [List.drop_eq_getElem_cons hlt]
                  unfold rd_T54
                  rw [List.getD_eq_getElem?_getD, Int.toNat_natCast, List.getElem?_eq_getElem hlt]
                  rfl
                have h := HL.out
                rw [hdrop] at h
                generalize rd_T54 l4 j = s at e0 e1 h
                obtain ⟨t0, t1⟩ := s
                simp only at e0 e1
                simp only [control_Declared.loop, control_Declared.rnd, Option.bind_eq_some_iff] at h
                obtain ⟨o, ho, h⟩ := h
                clear hdrop HL
                go_upto_region 12 with (fail)
                obtain ⟨X, hX⟩ : ∃ X, X = wr.heap.size := ⟨_, rfl⟩
                have bX := heap_alloc_new wr (Obj.cells #[.int .i64 t0, .int .i64 t1] 54 (0, 0))
                have hA : Below wr.heap.size wr (wr.alloc (Obj.cells #[.int .i64 t0, .int .i64 t1] 54 (0, 0))) := below_alloc (Below.refl _ _) _
                have hE := HE.out.grow hA
                rw [← hX] at bX ⊢
                clear hX hA HE e0 e1
                generalize wr.alloc (Obj.cells #[.int .i64 t0, .int .i64 t1] 54 (0, 0)) = Wa at bX hE ⊢
                have p0 : Wa.cell? ⟨X, 0, none⟩ = some (.int .i64 t0) := (blk_cell bX 0).trans rfl
                have p1 : Wa.cell? ⟨X, 1, none⟩ = some (.int .i64 t1) := (blk_cell bX 1).trans rfl
                have HX := Aside0.mk (And.intro bX hE)
                clear bX hE
                have bad : o = none → false = r := fun e => by subst e; simpa using h
                by_cases c1 : t0 < 0
                · rw [if_pos c1] at ho
                  have d1 : decide (t0 < 0) = true := decide_eq_true c1
                  have hb := Aside0.mk (bad (Option.some.inj ho).symm)
                  clear bad h ho c1
                  go_wp2
                  go_ret
                  obtain rfl := hb.out
                  exact ⟨rfl, HX.out.2.below⟩
                rw [if_neg c1] at ho
                have d1 : decide (t0 < 0) = false := decide_eq_false c1
                by_cases c2 : t0 > 65536
                · rw [if_pos c2] at ho
                  have d2 : decide (65536 < t0) = true := decide_eq_true c2
                  have hb := Aside0.mk (bad (Option.some.inj ho).symm)
                  clear bad h ho c1 c2
                  go_wp2
                  go_ret
                  obtain rfl := hb.out
                  exact ⟨rfl, HX.out.2.below⟩
                rw [if_neg c2] at ho
                have d2 : decide (65536 < t0) = false := decide_eq_false c2
                by_cases c3 : t1 < 0
                · rw [if_pos c3] at ho
                  have d3 : decide (t1 < 0) = true := decide_eq_true c3
                  have hb := Aside0.mk (bad (Option.some.inj ho).symm)
                  clear bad h ho c1 c2 c3
                  go_wp2
                  go_ret
                  obtain rfl := hb.out
                  exact ⟨rfl, HX.out.2.below⟩
                rw [if_neg c3] at ho
                have d3 : decide (t1 < 0) = false := decide_eq_false c3
                by_cases c4 : t1 > 65536
                · rw [if_pos c4] at ho
                  have d4 : decide (65536 < t1) = true := decide_eq_true c4
                  have hb := Aside0.mk (bad (Option.some.inj ho).symm)
                  clear bad h ho c1 c2 c3 c4
                  go_wp2
                  go_ret
                  obtain rfl := hb.out
                  exact ⟨rfl, HX.out.2.below⟩
                rw [if_neg c4] at ho
                have d4 : decide (65536 < t1) = false := decide_eq_false c4
                clear c1 c2 c3 c4 bad
                simp only [Option.bind_eq_some_iff, Option.some.injEq] at ho
                obtain ⟨u, hu, v, hv, bs, hbs, rfl⟩ := ho
                simp only [Option.bind_eq_some_iff] at h
                obtain ⟨y, hy, h⟩ := h
                obtain ⟨bX, hE⟩ := HX.out
                clear HX
                go_upto_region 14 with (fail)
                clear p0 p1 d1 d2 d3 d4
                have s0 : Wa.cell? ⟨X, 0, none⟩ = some (.int .i64 t0) := (blk_cell bX 0).trans rfl
                have s1 : Wa.cell? ⟨S, 0, none⟩ = some (.int .i64 a0_0) := (blk_cell hE.base 0).trans rfl
                have hp : ∀ W : World, Calls Try.prog 35 #[.int .i64 (wrap64 (t0 * a0_0)), .int .i64 part] W fun e w' => e = .returned (.agg #[.int .u64 u.1, .int .u64 u.2]) ∧ Below W.heap.size W w' := fun W => control_product.calls _ _ _ _ W hu
                go_upto_region 15 with (go_at_call 35; refine (hp _).mono ?_; clear hp s0 s1; rintro e Wp ⟨rfl, hb⟩; have hb5 := hb)
                have hA := below_alloc hb5 (Obj.cells #[.int .u64 u.1, .int .u64 u.2] 67 (0, 0))
                have bU := heap_alloc_new Wp (Obj.cells #[.int .u64 u.1, .int .u64 u.2] 67 (0, 0))
                replace bX := blk_below bX hA
                replace hE := hE.grow hA
                clear hA hb5 hb
                generalize Wp.alloc (Obj.cells #[.int .u64 u.1, .int .u64 u.2] 67 (0, 0)) = Wb at bU bX hE ⊢
                generalize Wp.heap.size = U at bU ⊢
                have s0 : Wb.cell? ⟨X, 1, none⟩ = some (.int .i64 t1) := (blk_cell bX 1).trans rfl
                have s1 : Wb.cell? ⟨S, 1, none⟩ = some (.int .i64 a0_1) := (blk_cell hE.base 1).trans rfl
                have hp : ∀ W : World, Calls Try.prog 35 #[.int .i64 (wrap64 (t1 * a0_1)), .int .i64 part] W fun e w' => e = .returned (.agg #[.int .u64 v.1, .int .u64 v.2]) ∧ Below W.heap.size W w' := fun W => control_product.calls _ _ _ _ W hv
                go_upto_region 16 with (go_at_call 35; refine (hp _).mono ?_; clear hp s0 s1; rintro e Wp ⟨rfl, hb⟩; have hb5 := hb)
                have hA := below_alloc hb5 (Obj.cells #[.int .u64 v.1, .int .u64 v.2] 67 (0, 0))
                have bV := heap_alloc_new Wp (Obj.cells #[.int .u64 v.1, .int .u64 v.2] 67 (0, 0))
                replace bU := blk_below bU hA
                replace hE := hE.grow hA
                clear hA hb5 hb bX
                generalize Wp.alloc (Obj.cells #[.int .u64 v.1, .int .u64 v.2] 67 (0, 0)) = Wc at bU bV hE ⊢
                generalize Wp.heap.size = V at bV ⊢
                simp only [control_Declared.moves, Option.bind_eq_some_iff, Option.some.injEq] at hbs
                obtain ⟨⟨x0, y0⟩, h1, ⟨x1, y1⟩, h2, ⟨x2, y2⟩, h3, ⟨x3, y3⟩, h4, ⟨xp, yp⟩, h5, ⟨x4, y4⟩, h6, ⟨xq, yq⟩, h7, ⟨x5, y5⟩, h8, hbs⟩ := hbs
                simp only at h6 h8
                replace h1 := Aside0.mk h1
                replace h2 := Aside0.mk h2
                replace h3 := Aside0.mk h3
                replace h4 := Aside0.mk h4
                replace h5 := Aside0.mk h5
                replace h6 := Aside0.mk h6
                replace h7 := Aside0.mk h7
                replace h8 := Aside0.mk h8
                have HB := Aside0.mk hbs
                clear hbs
                have s0 : Wc.cell? ⟨U, 0, none⟩ = some (.int .u64 u.1) := (blk_cell bU 0).trans rfl
                have s1 : Wc.cell? ⟨U, 1, none⟩ = some (.int .u64 u.2) := (blk_cell bU 1).trans rfl
                have s2 : Wc.cell? ⟨V, 0, none⟩ = some (.int .u64 v.1) := (blk_cell bV 0).trans rfl
                have s3 : Wc.cell? ⟨V, 1, none⟩ = some (.int .u64 v.2) := (blk_cell bV 1).trans rfl
                have s4 : Wc.cell? ⟨M, 0, none⟩ = some (.int .u64 most.1) := (blk_cell hE.most 0).trans rfl
                have s5 : Wc.cell? ⟨M, 1, none⟩ = some (.int .u64 most.2) := (blk_cell hE.most 1).trans rfl
                have s6 : Wc.cell? ⟨N, 0, none⟩ = some (.int .u64 least.1) := (blk_cell hE.least 0).trans rfl
                have s7 : Wc.cell? ⟨N, 1, none⟩ = some (.int .u64 least.2) := (blk_cell hE.least 1).trans rfl
                have s8 : Wc.cell? ⟨P, 0, none⟩ = some (.int .u64 spread.1) := (blk_cell hE.spread 0).trans rfl
                have s9 : Wc.cell? ⟨P, 1, none⟩ = some (.int .u64 spread.2) := (blk_cell hE.spread 1).trans rfl
                have HX := Aside0.mk hE
                have hBc : Below Wc.heap.size Wc Wc.drew := (Below.refl _ Wc).drew
                clear hE bU bV
                refine start_ (n := 24) (S := fun w' => w'.cell? ⟨U, 0, none⟩ = some (.int .u64 u.1) ∧ w'.cell? ⟨U, 1, none⟩ = some (.int .u64 u.2) ∧ w'.cell? ⟨V, 0, none⟩ = some (.int .u64 v.1) ∧ w'.cell? ⟨V, 1, none⟩ = some (.int .u64 v.2) ∧ w'.cell? ⟨M, 0, none⟩ = some (.int .u64 most.1) ∧ w'.cell? ⟨M, 1, none⟩ = some (.int .u64 most.2) ∧ w'.cell? ⟨N, 0, none⟩ = some (.int .u64 least.1) ∧ w'.cell? ⟨N, 1, none⟩ = some (.int .u64 least.2) ∧ w'.cell? ⟨P, 0, none⟩ = some (.int .u64 spread.1) ∧ w'.cell? ⟨P, 1, none⟩ = some (.int .u64 spread.2)) (ds := [22]) #[false, false, false, false, false, false, false, false, false, false, false, false, false, false, false, false, false, false, false, false, false, false, false, false] (by kernel_rfl) rfl rfl ⟨s0, s1, s2, s3, s4, s5, s6, s7, s8, s9⟩ (fun hHeld => ?_)
                generalize Wc.drew = Wd at hBc hHeld ⊢
                refine take_ (i := 0) (N := some 114) (v := ?_) (a' := ?_) #[true, false, false, false, false, false, false, false, false, false, false, false, false, false, false, false, false, false, false, false, false, false, false, false] rfl rfl (by kernel_rfl) (fun _ _ _ h => h) (Or.inl ⟨by rfl, ?_⟩) hHeld ?_ ?_
                rotate_left
                · rintro w' ⟨s0, s1, s2, s3, s4, s5, s6, s7, s8, s9⟩
                  go_simp
                  with_reducible rfl
                rotate_left
                · simp only [pL, i64_w, i32_w]
                  rfl
                refine take_ (i := 1) (N := some 115) (v := ?_) (a' := ?_) #[true, true, false, false, false, false, false, false, false, false, false, false, false, false, false, false, false, false, false, false, false, false, false, false] rfl rfl (by kernel_rfl) (fun _ _ _ h => h) (Or.inl ⟨by rfl, ?_⟩) hHeld ?_ ?_
                rotate_left
                · rintro w' ⟨s0, s1, s2, s3, s4, s5, s6, s7, s8, s9⟩
                  go_simp
                  with_reducible rfl
                rotate_left
                · simp only [pL, i64_w, i32_w]
                  rfl
                refine take_ (i := 3) (N := some 117) (v := ?_) (a' := ?_) #[true, true, false, true, false, false, false, false, false, false, false, false, false, false, false, false, false, false, false, false, false, false, false, false] rfl rfl (by kernel_rfl) (fun _ _ _ h => h) (Or.inl ⟨by rfl, ?_⟩) hHeld ?_ ?_
                rotate_left
                · rintro w' ⟨s0, s1, s2, s3, s4, s5, s6, s7, s8, s9⟩
                  go_simp
                  with_reducible rfl
                rotate_left
                · simp only [pL, i64_w, i32_w]
                  rfl
                refine take_ (i := 4) (N := some 118) (v := ?_) (a' := ?_) #[true, true, false, true, true, false, false, false, false, false, false, false, false, false, false, false, false, false, false, false, false, false, false, false] rfl rfl (by kernel_rfl) (fun _ _ _ h => h) (Or.inl ⟨by rfl, ?_⟩) hHeld ?_ ?_
                rotate_left
                · rintro w' ⟨s0, s1, s2, s3, s4, s5, s6, s7, s8, s9⟩
                  go_simp
                  with_reducible rfl
                rotate_left
                · simp only [pL, i64_w, i32_w]
                  rfl
                refine take_ (i := 6) (N := some 120) (v := ?_) (a' := ?_) #[true, true, false, true, true, false, true, false, false, false, false, false, false, false, false, false, false, false, false, false, false, false, false, false] rfl rfl (by kernel_rfl) (fun _ _ _ h => h) (Or.inl ⟨by rfl, ?_⟩) hHeld ?_ ?_
                rotate_left
                · rintro w' ⟨s0, s1, s2, s3, s4, s5, s6, s7, s8, s9⟩
                  go_simp
                  with_reducible rfl
                rotate_left
                · simp only [pL, i64_w, i32_w]
                  rfl
                refine take_ (i := 7) (N := some 121) (v := ?_) (a' := ?_) #[true, true, false, true, true, false, true, true, false, false, false, false, false, false, false, false, false, false, false, false, false, false, false, false] rfl rfl (by kernel_rfl) (fun _ _ _ h => h) (Or.inl ⟨by rfl, ?_⟩) hHeld ?_ ?_
                rotate_left
                · rintro w' ⟨s0, s1, s2, s3, s4, s5, s6, s7, s8, s9⟩
                  go_simp
                  with_reducible rfl
                rotate_left
                · simp only [pL, i64_w, i32_w]
                  rfl
                refine take_ (i := 9) (N := some 123) (v := ?_) (a' := ?_) #[true, true, false, true, true, false, true, true, false, true, false, false, false, false, false, false, false, false, false, false, false, false, false, false] rfl rfl (by kernel_rfl) (fun _ _ _ h => h) (Or.inl ⟨by rfl, ?_⟩) hHeld ?_ ?_
                rotate_left
                · rintro w' ⟨s0, s1, s2, s3, s4, s5, s6, s7, s8, s9⟩
                  go_simp
                  with_reducible rfl
                rotate_left
                · simp only [pL, i64_w, i32_w]
                  rfl
                refine take_ (i := 10) (N := some 124) (v := ?_) (a' := ?_) #[true, true, false, true, true, false, true, true, false, true, true, false, false, false, false, false, false, false, false, false, false, false, false, false] rfl rfl (by kernel_rfl) (fun _ _ _ h => h) (Or.inl ⟨by rfl, ?_⟩) hHeld ?_ ?_
                rotate_left
                · rintro w' ⟨s0, s1, s2, s3, s4, s5, s6, s7, s8, s9⟩
                  go_simp
                  with_reducible rfl
                rotate_left
                · simp only [pL, i64_w, i32_w]
                  rfl
                refine take_ (i := 12) (N := some 126) (v := ?_) (a' := ?_) #[true, true, false, true, true, false, true, true, false, true, true, false, true, false, false, false, false, false, false, false, false, false, false, false] rfl rfl (by kernel_rfl) (fun _ _ _ h => h) (Or.inl ⟨by rfl, ?_⟩) hHeld ?_ ?_
                rotate_left
                · rintro w' ⟨s0, s1, s2, s3, s4, s5, s6, s7, s8, s9⟩
                  go_simp
                  with_reducible rfl
                rotate_left
                · simp only [pL, i64_w, i32_w]
                  rfl
                refine take_ (i := 13) (N := some 127) (v := ?_) (a' := ?_) #[true, true, false, true, true, false, true, true, false, true, true, false, true, true, false, false, false, false, false, false, false, false, false, false] rfl rfl (by kernel_rfl) (fun _ _ _ h => h) (Or.inl ⟨by rfl, ?_⟩) hHeld ?_ ?_
                rotate_left
                · rintro w' ⟨s0, s1, s2, s3, s4, s5, s6, s7, s8, s9⟩
                  go_simp
                  with_reducible rfl
                rotate_left
                · simp only [pL, i64_w, i32_w]
                  rfl
                refine take_ (i := 15) (N := some 129) (v := ?_) (a' := ?_) #[true, true, false, true, true, false, true, true, false, true, true, false, true, true, false, true, false, false, false, false, false, false, false, false] rfl rfl (by kernel_rfl) (fun _ _ _ h => h) (Or.inl ⟨by rfl, ?_⟩) hHeld ?_ ?_
                rotate_left
                · rintro w' ⟨s0, s1, s2, s3, s4, s5, s6, s7, s8, s9⟩
                  go_simp
                  with_reducible rfl
                rotate_left
                · simp only [pL, i64_w, i32_w]
                  rfl
                refine take_ (i := 17) (N := some 131) (v := ?_) (a' := ?_) #[true, true, false, true, true, false, true, true, false, true, true, false, true, true, false, true, false, true, false, false, false, false, false, false] rfl rfl (by kernel_rfl) (fun _ _ _ h => h) (Or.inl ⟨by rfl, ?_⟩) hHeld ?_ ?_
                rotate_left
                · rintro w' ⟨s0, s1, s2, s3, s4, s5, s6, s7, s8, s9⟩
                  go_simp
                  with_reducible rfl
                rotate_left
                · simp only [pL, i64_w, i32_w]
                  rfl
                refine take_ (i := 18) (N := some 132) (v := ?_) (a' := ?_) #[true, true, false, true, true, false, true, true, false, true, true, false, true, true, false, true, false, true, true, false, false, false, false, false] rfl rfl (by kernel_rfl) (fun _ _ _ h => h) (Or.inl ⟨by rfl, ?_⟩) hHeld ?_ ?_
                rotate_left
                · rintro w' ⟨s0, s1, s2, s3, s4, s5, s6, s7, s8, s9⟩
                  go_simp
                  with_reducible rfl
                rotate_left
                · simp only [pL, i64_w, i32_w]
                  rfl
                refine take_ (i := 20) (N := some 134) (v := ?_) (a' := ?_) #[true, true, false, true, true, false, true, true, false, true, true, false, true, true, false, true, false, true, true, false, true, false, false, false] rfl rfl (by kernel_rfl) (fun _ _ _ h => h) (Or.inl ⟨by rfl, ?_⟩) hHeld ?_ ?_
                rotate_left
                · rintro w' ⟨s0, s1, s2, s3, s4, s5, s6, s7, s8, s9⟩
                  go_simp
                  with_reducible rfl
                rotate_left
                · simp only [pL, i64_w, i32_w]
                  rfl
                refine one_ (i := 2) (N := some 116) #[true, true, true, true, true, false, true, true, false, true, true, false, true, true, false, true, false, true, true, false, true, false, false, false] rfl rfl (by kernel_rfl) (by decide) (fun K hK => ?_)
                refine goes_ Try.func36 (by kernel_rfl) rfl #[.agg #[.int .u64 u.1, .int .u64 u.2], .agg #[.int .u64 most.1, .int .u64 most.2]] (by rfl) rfl rfl (by (try simp only [List.map_toArray, List.map_cons, List.map_nil]); first | done | rfl) ?_
                with_reducible refine (control_less.calls u.1 u.2 most.1 most.2 x0 y0 _ h1.out).mono ?_
                rintro e Wn ⟨rfl, hb⟩
                refine ⟨_, rfl, ?_⟩
                obtain ⟨s0, s1, s2, s3, s4, s5, s6, s7, s8, s9⟩ := hHeld
                replace s0 := keep_cell hb s0
                replace s1 := keep_cell hb s1
                replace s2 := keep_cell hb s2
                replace s3 := keep_cell hb s3
                replace s4 := keep_cell hb s4
                replace s5 := keep_cell hb s5
                replace s6 := keep_cell hb s6
                replace s7 := keep_cell hb s7
                replace s8 := keep_cell hb s8
                replace s9 := keep_cell hb s9
                replace hBc := Below.trans hBc (Below.mono hb hBc.size)
                clear hb
                refine hK.out _ _ ⟨s0, s1, s2, s3, s4, s5, s6, s7, s8, s9⟩ (fun hHeld => ?_)
                clear hK K s0 s1 s2 s3 s4 s5 s6 s7 s8 s9
                refine norm_ (a' := ?_) ?_ ?_
                rotate_left
                · show Act.put _ (some 116) _ = _
                  simp only [pL, i64_w, i32_w]
                  rfl
                refine one_ (i := 5) (N := some 119) #[true, true, true, true, true, true, true, true, false, true, true, false, true, true, false, true, false, true, true, false, true, false, false, false] rfl rfl (by kernel_rfl) (by decide) (fun K hK => ?_)
                refine goes_ Try.func36 (by kernel_rfl) rfl #[.agg #[.int .u64 least.1, .int .u64 least.2], .agg #[.int .u64 u.1, .int .u64 u.2]] (by rfl) rfl rfl (by (try simp only [List.map_toArray, List.map_cons, List.map_nil]); first | done | rfl) ?_
                with_reducible refine (control_less.calls least.1 least.2 u.1 u.2 x1 y1 _ h2.out).mono ?_
                rintro e Wn ⟨rfl, hb⟩
                refine ⟨_, rfl, ?_⟩
                obtain ⟨s0, s1, s2, s3, s4, s5, s6, s7, s8, s9⟩ := hHeld
                replace s0 := keep_cell hb s0
                replace s1 := keep_cell hb s1
                replace s2 := keep_cell hb s2
                replace s3 := keep_cell hb s3
                replace s4 := keep_cell hb s4
                replace s5 := keep_cell hb s5
                replace s6 := keep_cell hb s6
                replace s7 := keep_cell hb s7
                replace s8 := keep_cell hb s8
                replace s9 := keep_cell hb s9
                replace hBc := Below.trans hBc (Below.mono hb hBc.size)
                clear hb
                refine hK.out _ _ ⟨s0, s1, s2, s3, s4, s5, s6, s7, s8, s9⟩ (fun hHeld => ?_)
                clear hK K s0 s1 s2 s3 s4 s5 s6 s7 s8 s9
                refine norm_ (a' := ?_) ?_ ?_
                rotate_left
                · show Act.put _ (some 119) _ = _
                  simp only [pL, i64_w, i32_w]
                  rfl
                refine one_ (i := 8) (N := some 122) #[true, true, true, true, true, true, true, true, true, true, true, false, true, true, false, true, false, true, true, false, true, false, false, false] rfl rfl (by kernel_rfl) (by decide) (fun K hK => ?_)
                refine goes_ Try.func36 (by kernel_rfl) rfl #[.agg #[.int .u64 v.1, .int .u64 v.2], .agg #[.int .u64 most.1, .int .u64 most.2]] (by rfl) rfl rfl (by (try simp only [List.map_toArray, List.map_cons, List.map_nil]); first | done | rfl) ?_
                with_reducible refine (control_less.calls v.1 v.2 most.1 most.2 x2 y2 _ h3.out).mono ?_
                rintro e Wn ⟨rfl, hb⟩
                refine ⟨_, rfl, ?_⟩
                obtain ⟨s0, s1, s2, s3, s4, s5, s6, s7, s8, s9⟩ := hHeld
                replace s0 := keep_cell hb s0
                replace s1 := keep_cell hb s1
                replace s2 := keep_cell hb s2
                replace s3 := keep_cell hb s3
                replace s4 := keep_cell hb s4
                replace s5 := keep_cell hb s5
                replace s6 := keep_cell hb s6
                replace s7 := keep_cell hb s7
                replace s8 := keep_cell hb s8
                replace s9 := keep_cell hb s9
                replace hBc := Below.trans hBc (Below.mono hb hBc.size)
                clear hb
                refine hK.out _ _ ⟨s0, s1, s2, s3, s4, s5, s6, s7, s8, s9⟩ (fun hHeld => ?_)
                clear hK K s0 s1 s2 s3 s4 s5 s6 s7 s8 s9
                refine norm_ (a' := ?_) ?_ ?_
                rotate_left
                · show Act.put _ (some 122) _ = _
                  simp only [pL, i64_w, i32_w]
                  rfl
                refine one_ (i := 11) (N := some 125) #[true, true, true, true, true, true, true, true, true, true, true, true, true, true, false, true, false, true, true, false, true, false, false, false] rfl rfl (by kernel_rfl) (by decide) (fun K hK => ?_)
                refine goes_ Try.func36 (by kernel_rfl) rfl #[.agg #[.int .u64 least.1, .int .u64 least.2], .agg #[.int .u64 v.1, .int .u64 v.2]] (by rfl) rfl rfl (by (try simp only [List.map_toArray, List.map_cons, List.map_nil]); first | done | rfl) ?_
                with_reducible refine (control_less.calls least.1 least.2 v.1 v.2 x3 y3 _ h4.out).mono ?_
                rintro e Wn ⟨rfl, hb⟩
                refine ⟨_, rfl, ?_⟩
                obtain ⟨s0, s1, s2, s3, s4, s5, s6, s7, s8, s9⟩ := hHeld
                replace s0 := keep_cell hb s0
                replace s1 := keep_cell hb s1
                replace s2 := keep_cell hb s2
                replace s3 := keep_cell hb s3
                replace s4 := keep_cell hb s4
                replace s5 := keep_cell hb s5
                replace s6 := keep_cell hb s6
                replace s7 := keep_cell hb s7
                replace s8 := keep_cell hb s8
                replace s9 := keep_cell hb s9
                replace hBc := Below.trans hBc (Below.mono hb hBc.size)
                clear hb
                refine hK.out _ _ ⟨s0, s1, s2, s3, s4, s5, s6, s7, s8, s9⟩ (fun hHeld => ?_)
                clear hK K s0 s1 s2 s3 s4 s5 s6 s7 s8 s9
                refine norm_ (a' := ?_) ?_ ?_
                rotate_left
                · show Act.put _ (some 125) _ = _
                  simp only [pL, i64_w, i32_w]
                  rfl
                refine one_ (i := 14) (N := some 128) #[true, true, true, true, true, true, true, true, true, true, true, true, true, true, true, true, false, true, true, false, true, false, false, false] rfl rfl (by kernel_rfl) (by decide) (fun K hK => ?_)
                refine goes_ Try.func36 (by kernel_rfl) rfl #[.agg #[.int .u64 u.1, .int .u64 u.2], .agg #[.int .u64 v.1, .int .u64 v.2]] (by rfl) rfl rfl (by (try simp only [List.map_toArray, List.map_cons, List.map_nil]); first | done | rfl) ?_
                with_reducible refine (control_less.calls u.1 u.2 v.1 v.2 xp yp _ h5.out).mono ?_
                rintro e Wn ⟨rfl, hb⟩
                refine ⟨_, rfl, ?_⟩
                obtain ⟨s0, s1, s2, s3, s4, s5, s6, s7, s8, s9⟩ := hHeld
                replace s0 := keep_cell hb s0
                replace s1 := keep_cell hb s1
                replace s2 := keep_cell hb s2
                replace s3 := keep_cell hb s3
                replace s4 := keep_cell hb s4
                replace s5 := keep_cell hb s5
                replace s6 := keep_cell hb s6
                replace s7 := keep_cell hb s7
                replace s8 := keep_cell hb s8
                replace s9 := keep_cell hb s9
                replace hBc := Below.trans hBc (Below.mono hb hBc.size)
                clear hb
                refine hK.out _ _ ⟨s0, s1, s2, s3, s4, s5, s6, s7, s8, s9⟩ (fun hHeld => ?_)
                clear hK K s0 s1 s2 s3 s4 s5 s6 s7 s8 s9
                refine norm_ (a' := ?_) ?_ ?_
                rotate_left
                · show Act.put _ (some 128) _ = _
                  simp only [pL, i64_w, i32_w]
                  rfl
                refine one_ (i := 16) (N := some 130) #[true, true, true, true, true, true, true, true, true, true, true, true, true, true, true, true, true, true, true, false, true, false, false, false] rfl rfl (by kernel_rfl) (by decide) (fun K hK => ?_)
                refine goes_ Try.func36 (by kernel_rfl) rfl #[.agg #[.int .u64 xp, .int .u64 yp], .agg #[.int .u64 spread.1, .int .u64 spread.2]] (by rfl) rfl rfl (by (try simp only [List.map_toArray, List.map_cons, List.map_nil]); first | done | rfl) ?_
                with_reducible refine (control_less.calls xp yp spread.1 spread.2 x4 y4 _ h6.out).mono ?_
                rintro e Wn ⟨rfl, hb⟩
                refine ⟨_, rfl, ?_⟩
                obtain ⟨s0, s1, s2, s3, s4, s5, s6, s7, s8, s9⟩ := hHeld
                replace s0 := keep_cell hb s0
                replace s1 := keep_cell hb s1
                replace s2 := keep_cell hb s2
                replace s3 := keep_cell hb s3
                replace s4 := keep_cell hb s4
                replace s5 := keep_cell hb s5
                replace s6 := keep_cell hb s6
                replace s7 := keep_cell hb s7
                replace s8 := keep_cell hb s8
                replace s9 := keep_cell hb s9
                replace hBc := Below.trans hBc (Below.mono hb hBc.size)
                clear hb
                refine hK.out _ _ ⟨s0, s1, s2, s3, s4, s5, s6, s7, s8, s9⟩ (fun hHeld => ?_)
                clear hK K s0 s1 s2 s3 s4 s5 s6 s7 s8 s9
                refine norm_ (a' := ?_) ?_ ?_
                rotate_left
                · show Act.put _ (some 130) _ = _
                  simp only [pL, i64_w, i32_w]
                  rfl
                refine one_ (i := 19) (N := some 133) #[true, true, true, true, true, true, true, true, true, true, true, true, true, true, true, true, true, true, true, true, true, false, false, false] rfl rfl (by kernel_rfl) (by decide) (fun K hK => ?_)
                refine goes_ Try.func36 (by kernel_rfl) rfl #[.agg #[.int .u64 v.1, .int .u64 v.2], .agg #[.int .u64 u.1, .int .u64 u.2]] (by rfl) rfl rfl (by (try simp only [List.map_toArray, List.map_cons, List.map_nil]); first | done | rfl) ?_
                with_reducible refine (control_less.calls v.1 v.2 u.1 u.2 xq yq _ h7.out).mono ?_
                rintro e Wn ⟨rfl, hb⟩
                refine ⟨_, rfl, ?_⟩
                obtain ⟨s0, s1, s2, s3, s4, s5, s6, s7, s8, s9⟩ := hHeld
                replace s0 := keep_cell hb s0
                replace s1 := keep_cell hb s1
                replace s2 := keep_cell hb s2
                replace s3 := keep_cell hb s3
                replace s4 := keep_cell hb s4
                replace s5 := keep_cell hb s5
                replace s6 := keep_cell hb s6
                replace s7 := keep_cell hb s7
                replace s8 := keep_cell hb s8
                replace s9 := keep_cell hb s9
                replace hBc := Below.trans hBc (Below.mono hb hBc.size)
                clear hb
                refine hK.out _ _ ⟨s0, s1, s2, s3, s4, s5, s6, s7, s8, s9⟩ (fun hHeld => ?_)
                clear hK K s0 s1 s2 s3 s4 s5 s6 s7 s8 s9
                refine norm_ (a' := ?_) ?_ ?_
                rotate_left
                · show Act.put _ (some 133) _ = _
                  simp only [pL, i64_w, i32_w]
                  rfl
                refine one_ (i := 21) (N := some 135) #[true, true, true, true, true, true, true, true, true, true, true, true, true, true, true, true, true, true, true, true, true, true, false, false] rfl rfl (by kernel_rfl) (by decide) (fun K hK => ?_)
                refine goes_ Try.func36 (by kernel_rfl) rfl #[.agg #[.int .u64 xq, .int .u64 yq], .agg #[.int .u64 spread.1, .int .u64 spread.2]] (by rfl) rfl rfl (by (try simp only [List.map_toArray, List.map_cons, List.map_nil]); first | done | rfl) ?_
                with_reducible refine (control_less.calls xq yq spread.1 spread.2 x5 y5 _ h8.out).mono ?_
                rintro e Wn ⟨rfl, hb⟩
                refine ⟨_, rfl, ?_⟩
                obtain ⟨s0, s1, s2, s3, s4, s5, s6, s7, s8, s9⟩ := hHeld
                replace s0 := keep_cell hb s0
                replace s1 := keep_cell hb s1
                replace s2 := keep_cell hb s2
                replace s3 := keep_cell hb s3
                replace s4 := keep_cell hb s4
                replace s5 := keep_cell hb s5
                replace s6 := keep_cell hb s6
                replace s7 := keep_cell hb s7
                replace s8 := keep_cell hb s8
                replace s9 := keep_cell hb s9
                replace hBc := Below.trans hBc (Below.mono hb hBc.size)
                clear hb
                refine hK.out _ _ ⟨s0, s1, s2, s3, s4, s5, s6, s7, s8, s9⟩ (fun hHeld => ?_)
                clear hK K s0 s1 s2 s3 s4 s5 s6 s7 s8 s9
                refine norm_ (a' := ?_) ?_ ?_
                rotate_left
                · show Act.put _ (some 135) _ = _
                  simp only [pL, i64_w, i32_w]
                  rfl
                refine last_ (i := 22) (N := some 136) #[true, true, true, true, true, true, true, true, true, true, true, true, true, true, true, true, true, true, true, true, true, true, true, false] rfl rfl (by kernel_rfl) (by decide) (fun K hK => ?_)
                obtain ⟨s0, s1, s2, s3, s4, s5, s6, s7, s8, s9⟩ := hHeld
                refine event_step (v := ?_) (w1 := ?_) (by rfl) ?_ ?_
                rotate_left 2
                · go_simp
                  constructor
                  · rfl
                  · rfl
                refine hK.out _ _ ?_
                clear hK K s0 s1 s2 s3 s4 s5 s6 s7 s8 s9
                refine norm_ (a' := ?_) ?_ ?_
                rotate_left
                · show Act.put _ (some 136) _ = _
                  simp only [pL, i64_w, i32_w]
                  rfl
                refine pure_ (i := 23) (N := some 22) (v := ?_) (a' := ?_) #[true, true, true, true, true, true, true, true, true, true, true, true, true, true, true, true, true, true, true, true, true, true, true, true] rfl rfl (by kernel_rfl) (fun _ _ _ h => h) (Or.inl ⟨by rfl, ?_⟩) ?_ ?_
                rotate_left
                · intro w'
                  go_simp
                  with_reducible rfl
                rotate_left
                · simp only [pL, i64_w, i32_w]
                  rfl
                refine done_ (by kernel_rfl) ?_
                have bB := heap_alloc_new Wn (Obj.cells #[.int .u64 x0, .int .u64 y0, .int .u64 x1, .int .u64 y1, .int .u64 x2, .int .u64 y2, .int .u64 x3, .int .u64 y3, .int .u64 x4, .int .u64 y4, .int .u64 x5, .int .u64 y5] 67 (0, 0))
                have hA := below_alloc hBc (Obj.cells #[.int .u64 x0, .int .u64 y0, .int .u64 x1, .int .u64 y1, .int .u64 x2, .int .u64 y2, .int .u64 x3, .int .u64 y3, .int .u64 x4, .int .u64 y4, .int .u64 x5, .int .u64 y5] 67 (0, 0))
                have hQB : Q < Wn.heap.size := Nat.lt_of_lt_of_le (blk_lt HX.out.sums) hBc.size
                have hE := HX.out.grow hA
                have hbl : bs.length = 6 := by rw [← HB.out]; rfl
                clear hA hBc HX h1 h2 h3 h4 h5 h6 h7 h8
                generalize Wn.alloc (Obj.cells #[.int .u64 x0, .int .u64 y0, .int .u64 x1, .int .u64 y1, .int .u64 x2, .int .u64 y2, .int .u64 x3, .int .u64 y3, .int .u64 x4, .int .u64 y4, .int .u64 x5, .int .u64 y5] 67 (0, 0)) = We at bB hE ⊢
                generalize Wn.heap.size = B at bB hQB ⊢
                replace bB : We.heap[B]? = some (.cells (control_Declared.mvs bs) 67 (0, 0)) := by rw [← HB.out]; exact bB
                have HE2 := Aside0.mk (And.intro hE bB)
                have HY := Aside0.mk hy
                have HN := Aside0.mk h
                clear hE bB hy h HB
                go_upto_region 18 with (fail)
                go_wp2
                go_loopw [139] (fun i wr => ∃ (k : Nat) (sk yk : List control_Declared.SU), i = .int .i64 k ∧ k ≤ 6 ∧ sk.length = 6 ∧ Aside0 (control_Declared.inner lim.1 lim.2 (bs.drop k) (sk.drop k) = some (y.1, yk) ∧ (y.1 = true → y.2 = sk.take k ++ yk)) ∧ Aside0 (control_Declared.Env w wr S L M N P Q a0_0 a0_1 lim most least spread sk ∧ wr.heap[B]? = some (.cells (control_Declared.mvs bs) 67 (0, 0)))) (fun i _ => 6 - (intOf i).toNat)
                case atStart => exact ⟨0, ss, y.2, rfl, Nat.zero_le _, hss, ⟨⟨HY.out, fun _ => rfl⟩⟩, HE2⟩
                case round =>
                  clear HE2 HY
                  obtain ⟨k, sk, yk, rfl, hk6, hsk, HI, HE2⟩ := hrel
                  by_cases hlt2 : k < 6
                  rotate_left
                  · obtain rfl : k = 6 := by omega
                    have hi := HI.out.1
                    rw [List.drop_eq_nil_of_le (by omega), List.drop_eq_nil_of_le (by omega)] at hi
                    simp only [control_Declared.inner, Option.some.injEq, Prod.mk.injEq] at hi
                    have hy2 := HI.out.2 hi.1.symm
                    rw [← hi.2, List.append_nil, List.take_of_length_le (by omega)] at hy2
                    have HL2 : Aside0 (control_Declared.loop a0_0 a0_1 part lim most least spread (l4.drop (j + 1)) sk = some r) := ⟨by
                      have := HN.out
                      rw [if_pos hi.1.symm, hy2] at this
                      exact this⟩
                    have HE3 := Aside0.mk HE2.out.1
                    clear hi hy2 HI HE2 HN
                    go_wp2
                    go_roundw
                    case rel => exact ⟨j + 1, sk, by go_num, by omega, hsk, HL2, HE3⟩
                    case measure =>
                      simp only [intOf]
                      omega
                  · obtain ⟨⟨b0, b1⟩, hbk, hbd⟩ := control_Declared.drop_at hbl hlt2
                    obtain ⟨⟨⟨n0, n1⟩, ⟨l0, l1⟩⟩, hsk1, hsd⟩ := control_Declared.drop_at hsk hlt2
                    have hin := HI.out.1
                    rw [hbd, hsd] at hin
                    simp only [control_Declared.inner, Option.bind_eq_some_iff] at hin
                    obtain ⟨⟨x1, ⟨p0, p1⟩, ⟨g0, g1⟩⟩, hmv, hin⟩ := hin
                    simp only at hmv hin
                    obtain ⟨hE, bB⟩ := HE2.out
                    have e0 : wr.cell? ⟨B, k * 2, none⟩ = some (.int .u64 b0) := (blk_cell bB (k * 2)).trans (control_Declared.mvs_at hbk).1
                    have e1 : wr.cell? ⟨B, k * 2 + 1, none⟩ = some (.int .u64 b1) := (blk_cell bB (k * 2 + 1)).trans (control_Declared.mvs_at hbk).2
                    clear HE2
                    go_upto_region 20 with (fail)
                    have hQY : Q < wr.heap.size := blk_lt hE.sums
                    have bY := heap_alloc_new wr (Obj.cells #[.int .u64 b0, .int .u64 b1] 67 (0, 0))
                    have hA : Below wr.heap.size wr (wr.alloc (Obj.cells #[.int .u64 b0, .int .u64 b1] 67 (0, 0))) := below_alloc (Below.refl _ _) _
                    replace hE := hE.grow hA
                    replace bB := blk_below bB hA
                    clear hA e0 e1
                    generalize wr.alloc (Obj.cells #[.int .u64 b0, .int .u64 b1] 67 (0, 0)) = Wy at bY hE bB ⊢
                    generalize wr.heap.size = Y at bY hQY ⊢
                    have s0 : Wy.cell? ⟨Y, 0, none⟩ = some (.int .u64 b0) := (blk_cell bY 0).trans rfl
                    have s1 : Wy.cell? ⟨Y, 1, none⟩ = some (.int .u64 b1) := (blk_cell bY 1).trans rfl
                    have s2 : Wy.cell? ⟨L, 0, none⟩ = some (.int .u64 lim.1) := (blk_cell hE.lim 0).trans rfl
                    have s3 : Wy.cell? ⟨L, 1, none⟩ = some (.int .u64 lim.2) := (blk_cell hE.lim 1).trans rfl
                    have HX := Aside0.mk (And.intro hE (And.intro bB bY))
                    have hBc : Below Wy.heap.size Wy Wy.drew := (Below.refl _ Wy).drew
                    clear hE bB bY
                    refine start_ (n := 7) (S := fun w' => w'.cell? ⟨Y, 0, none⟩ = some (.int .u64 b0) ∧ w'.cell? ⟨Y, 1, none⟩ = some (.int .u64 b1) ∧ w'.cell? ⟨L, 0, none⟩ = some (.int .u64 lim.1) ∧ w'.cell? ⟨L, 1, none⟩ = some (.int .u64 lim.2)) (ds := []) #[false, false, false, false, false, false, false] (by kernel_rfl) rfl rfl ⟨s0, s1, s2, s3⟩ (fun hHeld => ?_)
                    generalize Wy.drew = Wd at hBc hHeld ⊢
                    refine pure_ (i := 0) (N := some 144) (v := ?_) (a' := ?_) #[true, false, false, false, false, false, false] rfl rfl (by kernel_rfl) (fun _ _ _ h => h) (Or.inl ⟨by rfl, ?_⟩) ?_ ?_
                    rotate_left
                    · intro w'
                      go_simp
                      with_reducible rfl
                    rotate_left
                    · simp only [pL, i64_w, i32_w]
                      rfl
                    refine pure_ (i := 1) (N := some 145) (v := ?_) (a' := ?_) #[true, true, false, false, false, false, false] rfl rfl (by kernel_rfl) (fun _ _ _ h => h) (Or.inl ⟨by rfl, ?_⟩) ?_ ?_
                    rotate_left
                    · intro w'
                      go_simp
                      with_reducible rfl
                    rotate_left
                    · simp only [pL, i64_w, i32_w]
                      rfl
                    refine pure_ (i := 2) (N := some 146) (v := ?_) (a' := ?_) #[true, true, true, false, false, false, false] rfl rfl (by kernel_rfl) (fun _ _ _ h => h) (Or.inl ⟨by rfl, ?_⟩) ?_ ?_
                    rotate_left
                    · intro w'
                      go_simp
                      with_reducible rfl
                    rotate_left
                    · simp only [pL, i64_w, i32_w]
                      rfl
                    refine take_ (i := 3) (N := some 147) (v := ?_) (a' := ?_) #[true, true, true, true, false, false, false] rfl rfl (by kernel_rfl) (fun _ _ _ h => h) (Or.inl ⟨by rfl, ?_⟩) hHeld ?_ ?_
                    rotate_left
                    · rintro w' ⟨s0, s1, s2, s3⟩
                      go_simp
                      with_reducible rfl
                    rotate_left
                    · simp only [pL, i64_w, i32_w]
                      rfl
                    refine take_ (i := 4) (N := some 148) (v := ?_) (a' := ?_) #[true, true, true, true, true, false, false] rfl rfl (by kernel_rfl) (fun _ _ _ h => h) (Or.inl ⟨by rfl, ?_⟩) hHeld ?_ ?_
                    rotate_left
                    · rintro w' ⟨s0, s1, s2, s3⟩
                      go_simp
                      with_reducible rfl
                    rotate_left
                    · simp only [pL, i64_w, i32_w]
                      rfl
                    refine one_ (i := 5) (N := some 149) #[true, true, true, true, true, true, false] rfl rfl (by kernel_rfl) (by decide) (fun K hK => ?_)
                    refine goes_ Try.func37 (by kernel_rfl) rfl #[.pointer (some ⟨Q, k * 4, none⟩), .agg #[.int .u64 b0, .int .u64 b1], .agg #[.int .u64 lim.1, .int .u64 lim.2]] (by rfl) rfl rfl (by (try simp only [List.map_toArray, List.map_cons, List.map_nil]); first | done | rfl) ?_
                    with_reducible refine (control_level_move.calls Q (k * 4) 73 (control_Declared.flat sk) n0 n1 l0 l1 b0 b1 lim.1 lim.2 x1 (p0, p1) (g0, g1) _ (HX.out.1.grow hBc).sums (control_Declared.flat_at hsk1).1 (control_Declared.flat_at hsk1).2.1 (control_Declared.flat_at hsk1).2.2.1 (control_Declared.flat_at hsk1).2.2.2 hmv).mono ?_
                    rintro e Wn ⟨rfl, hq, hkb, hbq⟩
                    refine ⟨_, rfl, ?_⟩
                    have kk : ∀ {i : Nat} {o : Obj}, Wd.heap[i]? = some o → i ≠ Q → Wn.heap[i]? = some o := fun hi hn => (hkb.2 _ (blk_lt hi) hn (by simp)).trans hi
                    have hq' : Wn.heap[Q]? = some (.cells (control_Declared.flat (sk.set k ⟨⟨p0, p1⟩, ⟨g0, g1⟩⟩)) 73 (0, 0)) := by
                      rw [← control_Declared.flat_set p0 p1 g0 g1 (by omega)]
                      exact hq
                    have HZ := Aside0.mk (And.intro ((HX.out.1.grow hBc).moved hq' hkb hbq) (And.intro (kk (blk_below HX.out.2.1 hBc) (Nat.ne_of_gt hQB)) (kk (blk_below HX.out.2.2 hBc) (Nat.ne_of_gt hQY))))
                    have s0 : Wn.cell? ⟨Y, 0, none⟩ = some (.int .u64 b0) := (blk_cell HZ.out.2.2 0).trans rfl
                    have s1 : Wn.cell? ⟨Y, 1, none⟩ = some (.int .u64 b1) := (blk_cell HZ.out.2.2 1).trans rfl
                    have s2 : Wn.cell? ⟨L, 0, none⟩ = some (.int .u64 lim.1) := (blk_cell HZ.out.1.lim 0).trans rfl
                    have s3 : Wn.cell? ⟨L, 1, none⟩ = some (.int .u64 lim.2) := (blk_cell HZ.out.1.lim 1).trans rfl
                    clear hHeld kk hq' hq hkb hbq hBc HX
                    refine hK.out _ _ ⟨s0, s1, s2, s3⟩ (fun hHeld => ?_)
                    clear hK K s0 s1 s2 s3
                    refine norm_ (a' := ?_) ?_ ?_
                    rotate_left
                    · show Act.put _ (some 149) _ = _
                      simp only [pL, i64_w, i32_w]
                      rfl
                    refine pure_ (i := 6) (N := some 150) (v := ?_) (a' := ?_) #[true, true, true, true, true, true, true] rfl rfl (by kernel_rfl) (fun _ _ _ h => h) (Or.inl ⟨by rfl, ?_⟩) ?_ ?_
                    rotate_left
                    · intro w'
                      go_simp
                      with_reducible rfl
                    rotate_left
                    · simp only [pL, i64_w, i32_w]
                      rfl
                    refine done_ (by kernel_rfl) ?_
                    obtain ⟨hE4, bB4, -⟩ := HZ.out
                    cases x1 with
                    | false =>
                      go_wp2
                      go_ret
                      have hn : y.1 = false := by
                        rw [if_neg (by decide)] at hin
                        have := Option.some.inj hin
                        rw [← (Prod.mk.inj this).1]
                      have := HN.out
                      rw [hn, if_neg (by decide)] at this
                      obtain rfl := Option.some.inj this
                      exact ⟨rfl, hE4.below⟩
                    | true =>
                      rw [if_pos rfl] at hin
                      obtain ⟨⟨q1, q2⟩, hq1, hq2⟩ := Option.bind_eq_some_iff.1 hin
                      have hq3 := Prod.mk.inj (Option.some.inj hq2)
                      simp only at hq3
                      have HI3 : Aside0 (control_Declared.inner lim.1 lim.2 (bs.drop (k + 1)) ((sk.set k ⟨⟨p0, p1⟩, ⟨g0, g1⟩⟩).drop (k + 1)) = some (y.1, q2) ∧ (y.1 = true → y.2 = (sk.set k ⟨⟨p0, p1⟩, ⟨g0, g1⟩⟩).take (k + 1) ++ q2)) := ⟨by
                        constructor
                        · rw [List.drop_set_of_lt (by omega), hq1, hq3.1]
                        · intro hy1
                          rw [HI.out.2 hy1, ← hq3.2, List.take_succ_eq_append_getElem (by rw [List.length_set]; omega), List.take_set, List.getElem_set_self, List.append_assoc]
                          rw [List.set_eq_of_length_le (by rw [List.length_take]; omega)]
                          rfl⟩
                      have HE4 := Aside0.mk (And.intro hE4 bB4)
                      clear hin hq1 hq2 hq3 HI hE4 bB4 HZ hmv hbd hsd
                      go_wp2
                      go_roundw
                      case rel => exact ⟨k + 1, sk.set k ⟨⟨p0, p1⟩, ⟨g0, g1⟩⟩, q2, by go_num, by omega, by rw [List.length_set]; exact hsk, HI3, HE4⟩
                      case measure =>
                        simp only [intOf]
                        omega


end Go.Proofs.Ytcnheiemajghiaa.PA
