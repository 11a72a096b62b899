/- Walks of functions of the program: each does what its Lean function says. Written by a program of this session (wip/xprint), which runs the printer of the kit with changes. -/
import Derived.Test.YtcnheiemajghiaaPAx0
import Derived.Test.YtcnheiemajghiaaPAx6
namespace Go.Proofs.Ytcnheiemajghiaa.PA
open Go.RowKit Go.Proofs.YtcnheiemajghiaaW.PrintWords Go.Proofs.YtcnheiemajghiaaW.PrintLast Go.Proofs.YtcnheiemajghiaaW.PrintMore
attribute [local go_sem] max2_int min2_int max_two min_two max_three min_three max_four min_four   -- for this text's walks alone
set_option linter.unusedVariables false
set_option linter.unusedSimpArgs false

/-- A state of type 73 at block g of W; what its slices lead to came in by w0. -/
def IsS73 (w0 W : World) (g : Nat) (f0 : Int) (f1 : Int) (f2 : Int) (f3 : Int) : Prop := W.heap[g]? = some (.cells #[.int .u64 f0, .int .u64 f1, .int .u64 f2, .int .u64 f3] 73 (0, 0)) ∧ w0.heap.size ≤ g
theorem IsS73.grown {w0 W : World} {g : Nat} {f0 : Int} {f1 : Int} {f2 : Int} {f3 : Int} {W1 : World} {row : Option Nat} (h : IsS73 w0 W g f0 f1 f2 f3) (hw : W.grownBy W1 row) (hne : some g ≠ row) : IsS73 w0 W1 g f0 f1 f2 f3 := by
  obtain ⟨hb, hg⟩ := h
  exact ⟨blk_grown hb hw hne, hg⟩
theorem IsS73.own_neN {w0 W : World} {g : Nat} {f0 : Int} {f1 : Int} {f2 : Int} {f3 : Int} {α : Type} {d : Kd α} {e : Nat} {base : Nat} {ok : Nat → Prop} {v : Value} {xs : List α} (h : IsS73 w0 W g f0 f1 f2 f3) (ho : Kd.N d e W base ok v xs) (ht : e ≠ 73) : some g ≠ v.ownBlock := by
  obtain ⟨hb, hg⟩ := h
  exact Kd.N_ne ho hb ht
theorem IsS73.fresh {w0 W : World} {g : Nat} {f0 : Int} {f1 : Int} {f2 : Int} {f3 : Int} (h : IsS73 w0 W g f0 f1 f2 f3) : ∀ k, W.heap.size ≤ k → k ≠ g := by
  obtain ⟨hb, hg⟩ := h
  exact Kd.freshB hb
theorem IsS73.kept {w0 W : World} {g : Nat} {f0 : Int} {f1 : Int} {f2 : Int} {f3 : Int} {W1 : World} {S : Nat → Prop} (h : IsS73 w0 W g f0 f1 f2 f3) (hk : Kept W W1 S) (hne : ¬ S g) : IsS73 w0 W1 g f0 f1 f2 f3 := by
  obtain ⟨hb, hg⟩ := h
  exact ⟨blk_kept hb hk hne, hg⟩
theorem IsS73.below {w0 W : World} {g : Nat} {f0 : Int} {f1 : Int} {f2 : Int} {f3 : Int} {W1 : World} (h : IsS73 w0 W g f0 f1 f2 f3) (hw : Below W.heap.size W W1) : IsS73 w0 W1 g f0 f1 f2 f3 := h.grown (grown_of_below hw none) (by simp)
theorem IsS73.alloc {w0 W : World} {g : Nat} {f0 : Int} {f1 : Int} {f2 : Int} {f3 : Int} (h : IsS73 w0 W g f0 f1 f2 f3) (o : Obj) : IsS73 w0 (W.alloc o) g f0 f1 f2 f3 := h.below (below_alloc (Below.refl _ _) o)
theorem IsS73.drewN {w0 W : World} {g : Nat} {f0 : Int} {f1 : Int} {f2 : Int} {f3 : Int} (h : IsS73 w0 W g f0 f1 f2 f3) (m : Nat) : IsS73 w0 (W.drewN m) g f0 f1 f2 f3 := h
theorem IsS73.drew {w0 W : World} {g : Nat} {f0 : Int} {f1 : Int} {f2 : Int} {f3 : Int} (h : IsS73 w0 W g f0 f1 f2 f3) : IsS73 w0 W.drew g f0 f1 f2 f3 := h
theorem IsS73.at_ {w0 W : World} {g : Nat} {f0 : Int} {f1 : Int} {f2 : Int} {f3 : Int} {w' : World} {m : Nat} (hq : W.drewN m = w') (h : IsS73 w0 W g f0 f1 f2 f3) : IsS73 w0 w' g f0 f1 f2 f3 := by subst hq; exact IsS73.drewN h m
theorem IsS73.apart {w0 W : World} {g : Nat} {f0 : Int} {f1 : Int} {f2 : Int} {f3 : Int} {α : Type} {d : Kd α} {e : Nat} {base : Nat} {ok : Nat → Prop} {v : Value} {xs : List α} (h : IsS73 w0 W g f0 f1 f2 f3) (ho : d.R e W base ok v xs) (ht : ∀ q, q ∈ e :: d.E → q ≠ 73) : d.R e W base (fun k => ok k ∧ k ≠ g) v xs := by
  obtain ⟨hb, hg⟩ := h
  exact Kd.R_types ho hb ht
theorem IsS73.own_ne {w0 W : World} {g : Nat} {f0 : Int} {f1 : Int} {f2 : Int} {f3 : Int} {α : Type} {d : Kd α} {e : Nat} {base : Nat} {ok : Nat → Prop} {v : Value} {xs : List α} (h : IsS73 w0 W g f0 f1 f2 f3) (ho : d.R e W base ok v xs) (ht : e ≠ 73) : some g ≠ v.ownBlock := by
  obtain ⟨hb, hg⟩ := h
  exact Kd.R_ne ho hb ht
theorem IsS73.apartQ {w0 W : World} {g : Nat} {f0 : Int} {f1 : Int} {f2 : Int} {f3 : Int} {α : Type} {d : Kd α} {e : Nat} {base : Nat} {ok : Nat → Prop} {v : Value} {xs : List α} (h : IsS73 w0 W g f0 f1 f2 f3) (ho : d.Q e W base ok v xs) (ht : ∀ q, q ∈ e :: d.E → q ≠ 73) : d.Q e W base (fun k => ok k ∧ k ≠ g) v xs := by
  obtain ⟨hb, hg⟩ := h
  exact Kd.Q_types ho hb ht
theorem IsS73.own_neQ {w0 W : World} {g : Nat} {f0 : Int} {f1 : Int} {f2 : Int} {f3 : Int} {α : Type} {d : Kd α} {e : Nat} {base : Nat} {ok : Nat → Prop} {v : Value} {xs : List α} (h : IsS73 w0 W g f0 f1 f2 f3) (ho : d.Q e W base ok v xs) (ht : e ≠ 73) : some g ≠ v.ownBlock := by
  obtain ⟨hb, hg⟩ := h
  exact Kd.Q_ne ho hb ht
theorem IsS73.apartS {w0 W : World} {g : Nat} {f0 : Int} {f1 : Int} {f2 : Int} {f3 : Int} {α : Type} {d : Kd α} {e : Nat} {base : Nat} {ok : Nat → Prop} {v : Value} {xs : List α} (h : IsS73 w0 W g f0 f1 f2 f3) (ho : d.S e W base ok v xs) (ht : ∀ q, q ∈ e :: d.E → q ≠ 73) : d.S e W base (fun k => ok k ∧ k ≠ g) v xs := by
  obtain ⟨hb, hg⟩ := h
  exact Kd.S_types ho hb ht
theorem IsS73.own_neS {w0 W : World} {g : Nat} {f0 : Int} {f1 : Int} {f2 : Int} {f3 : Int} {α : Type} {d : Kd α} {e : Nat} {base : Nat} {ok : Nat → Prop} {v : Value} {xs : List α} (h : IsS73 w0 W g f0 f1 f2 f3) (ho : d.S e W base ok v xs) (ht : e ≠ 73) : some g ≠ v.ownBlock := by
  obtain ⟨hb, hg⟩ := h
  exact Kd.S_ne ho hb ht
theorem IsS73.lt {w0 W : World} {g : Nat} {f0 : Int} {f1 : Int} {f2 : Int} {f3 : Int} (h : IsS73 w0 W g f0 f1 f2 f3) : g < W.heap.size := by
  obtain ⟨hb, hg⟩ := h
  exact blk_lt hb
theorem IsS73.ge {w0 W : World} {g : Nat} {f0 : Int} {f1 : Int} {f2 : Int} {f3 : Int} (h : IsS73 w0 W g f0 f1 f2 f3) : w0.heap.size ≤ g := by
  obtain ⟨hb, hg⟩ := h
  exact hg
theorem IsS73.ne_blk {w0 W : World} {g : Nat} {f0 : Int} {f1 : Int} {f2 : Int} {f3 : Int} {a : Nat} {cs : Array Value} {t : TypeId} {fr : Nat × Nat} (h : IsS73 w0 W g f0 f1 f2 f3) (hb2 : W.heap[a]? = some (.cells cs t fr)) (ht : t ≠ 73) : g ≠ a := by
  obtain ⟨hb, hg⟩ := h
  rintro rfl
  rw [hb] at hb2
  injection hb2 with hb2
  injection hb2 with _ ht2
  exact ht ht2.symm
theorem IsS73.far {w0 W : World} {g : Nat} {f0 : Int} {f1 : Int} {f2 : Int} {f3 : Int} {p : Addr} (h : IsS73 w0 W g f0 f1 f2 f3) (hne : g ≠ p.block) (u : Value) : IsS73 w0 (W.setCell p u) g f0 f1 f2 f3 := by
  obtain ⟨hb, hg⟩ := h
  exact ⟨blk_far hb hne u, hg⟩
theorem cellS73_0 {W : World} {g : Nat} {f0 : Int} {f1 : Int} {f2 : Int} {f3 : Int} (h : W.heap[g]? = some (.cells #[.int .u64 f0, .int .u64 f1, .int .u64 f2, .int .u64 f3] 73 (0, 0))) : W.cell? ⟨g, 0, none⟩ = some (.int .u64 f0) := (blk_cell h 0).trans rfl
theorem IsS73.set_0 {w0 W : World} {g : Nat} {f0 : Int} {f1 : Int} {f2 : Int} {f3 : Int} (h : IsS73 w0 W g f0 f1 f2 f3) (x : Int) : IsS73 w0 (W.setCell ⟨g, 0, none⟩ (.int .u64 x)) g x f1 f2 f3 := by
  obtain ⟨hb, hg⟩ := h
  exact ⟨by simpa using blk_set hb 0 (.int .u64 x), hg⟩
theorem cellS73_1 {W : World} {g : Nat} {f0 : Int} {f1 : Int} {f2 : Int} {f3 : Int} (h : W.heap[g]? = some (.cells #[.int .u64 f0, .int .u64 f1, .int .u64 f2, .int .u64 f3] 73 (0, 0))) : W.cell? ⟨g, 1, none⟩ = some (.int .u64 f1) := (blk_cell h 1).trans rfl
theorem IsS73.set_1 {w0 W : World} {g : Nat} {f0 : Int} {f1 : Int} {f2 : Int} {f3 : Int} (h : IsS73 w0 W g f0 f1 f2 f3) (x : Int) : IsS73 w0 (W.setCell ⟨g, 1, none⟩ (.int .u64 x)) g f0 x f2 f3 := by
  obtain ⟨hb, hg⟩ := h
  exact ⟨by simpa using blk_set hb 1 (.int .u64 x), hg⟩
theorem cellS73_2 {W : World} {g : Nat} {f0 : Int} {f1 : Int} {f2 : Int} {f3 : Int} (h : W.heap[g]? = some (.cells #[.int .u64 f0, .int .u64 f1, .int .u64 f2, .int .u64 f3] 73 (0, 0))) : W.cell? ⟨g, 2, none⟩ = some (.int .u64 f2) := (blk_cell h 2).trans rfl
theorem IsS73.set_2 {w0 W : World} {g : Nat} {f0 : Int} {f1 : Int} {f2 : Int} {f3 : Int} (h : IsS73 w0 W g f0 f1 f2 f3) (x : Int) : IsS73 w0 (W.setCell ⟨g, 2, none⟩ (.int .u64 x)) g f0 f1 x f3 := by
  obtain ⟨hb, hg⟩ := h
  exact ⟨by simpa using blk_set hb 2 (.int .u64 x), hg⟩
theorem cellS73_3 {W : World} {g : Nat} {f0 : Int} {f1 : Int} {f2 : Int} {f3 : Int} (h : W.heap[g]? = some (.cells #[.int .u64 f0, .int .u64 f1, .int .u64 f2, .int .u64 f3] 73 (0, 0))) : W.cell? ⟨g, 3, none⟩ = some (.int .u64 f3) := (blk_cell h 3).trans rfl
theorem IsS73.set_3 {w0 W : World} {g : Nat} {f0 : Int} {f1 : Int} {f2 : Int} {f3 : Int} (h : IsS73 w0 W g f0 f1 f2 f3) (x : Int) : IsS73 w0 (W.setCell ⟨g, 3, none⟩ (.int .u64 x)) g f0 f1 f2 x := by
  obtain ⟨hb, hg⟩ := h
  exact ⟨by simpa using blk_set hb 3 (.int .u64 x), hg⟩
theorem IsS73.new (w0 W : World) (f0 : Int) (f1 : Int) (f2 : Int) (f3 : Int) (hB : Below w0.heap.size w0 W) : IsS73 w0 (W.alloc (.cells #[.int .u64 f0, .int .u64 f1, .int .u64 f2, .int .u64 f3] 73)) W.heap.size f0 f1 f2 f3 := ⟨by simpa using heap_alloc_new W _, hB.size⟩

/-! ### control_level_move: function 37 -/
/-- A sum and its least value so far, moved by a difference: has the sum risen by at most the limit? -/
def control_level_move.f (n0 n1 l0 l1 b0 b1 m0 m1 : Int) : Option (Bool × (Int × Int) × (Int × Int)) :=
  (control_less.f 0 0 b0 b1).bind fun x => (control_less.f n0 n1 x.1 x.2).bind fun p => (control_below.f p.1 p.2 l0 l1).bind fun c =>
  (control_less.f p.1 p.2 (if c = true then p.1 else l0) (if c = true then p.2 else l1)).bind fun y => (control_below.f m0 m1 y.1 y.2).bind fun z =>
  some (!z, p, (if c = true then p.1 else l0, if c = true then p.2 else l1))
theorem keep_cell {W W' : World} (h : Below W.heap.size W W') {a : Addr} {v : Value} (hc : W.cell? a = some v) : W'.cell? a = some v := (h.cell (World.block_lt_of_cell? W _ hc)).trans hc
/-- Two cells of a block, stored one after the other. -/
theorem blk_two {w : World} {g : Nat} {t : TypeId} {cs : Array Value} (h : w.heap[g]? = some (.cells cs t (0, 0))) (i j : Nat) (u v : Value) : ((w.setCell ⟨g, i, none⟩ u).setCell ⟨g, j, none⟩ v).heap[g]? = some (.cells ((cs.setIfInBounds i u).setIfInBounds j v) t (0, 0)) := blk_set (blk_set h i u) j v
theorem other_two {w : World} {g k : Nat} (hk : k ≠ g) (i j : Nat) (u v : Value) : ((w.setCell ⟨g, i, none⟩ u).setCell ⟨g, j, none⟩ v).heap[k]? = w.heap[k]? := (Below.heap_setCell _ ⟨g, j, none⟩ v k hk).trans (Below.heap_setCell _ ⟨g, i, none⟩ u k hk)
set_option maxHeartbeats 8000000 in
set_option maxRecDepth 100000 in
theorem control_level_move.calls (g o : Nat) (T : TypeId) (cs : Array Value) (n0 n1 l0 l1 b0 b1 m0 m1 : Int) (r : Bool) (p e : Int × Int) (w : World) (hG : w.heap[g]? = some (.cells cs T (0, 0)))
    (k0 : cs[o]? = some (.int .u64 n0)) (k1 : cs[o + 1]? = some (.int .u64 n1)) (k2 : cs[o + 2]? = some (.int .u64 l0)) (k3 : cs[o + 3]? = some (.int .u64 l1)) (h : control_level_move.f n0 n1 l0 l1 b0 b1 m0 m1 = some (r, p, e)) :
    Calls Try.prog 37 #[.pointer (some ⟨g, o, none⟩), .agg #[.int .u64 b0, .int .u64 b1], .agg #[.int .u64 m0, .int .u64 m1]] w fun en w' => en = .returned (.bool r) ∧
      w'.heap[g]? = some (.cells ((((cs.setIfInBounds o (.int .u64 p.1)).setIfInBounds (o + 1) (.int .u64 p.2)).setIfInBounds (o + 2) (.int .u64 e.1)).setIfInBounds (o + 3) (.int .u64 e.2)) T (0, 0)) ∧ KeepBut w w' g none ∧ Below g w w' := by
  have hu67 := Try.underlying67
  have hu73 := Try.underlying73
  simp only [control_level_move.f, Option.bind_eq_some_iff, Option.some.injEq, Prod.mk.injEq] at h
  obtain ⟨⟨x0, x1⟩, h1, ⟨p0, p1⟩, h2, c, h3, ⟨y0, y1⟩, h4, z, h5, hr, hp, he⟩ := h
  simp only at h1 h2 h3 h4 h5 hp he
  obtain ⟨e0, he0⟩ : ∃ e0, e0 = (if c = true then p0 else l0) := ⟨_, rfl⟩
  obtain ⟨e1, he1⟩ : ∃ e1, e1 = (if c = true then p1 else l1) := ⟨_, rfl⟩
  rw [← he0, ← he1] at h4
  have H := Aside0.mk (And.intro hr (And.intro hp (And.intro he (And.intro he0 he1))))
  replace h1 := Aside0.mk h1
  replace h2 := Aside0.mk h2
  replace h3 := Aside0.mk h3
  replace h4 := Aside0.mk h4
  replace h5 := Aside0.mk h5
  have K' := Aside0.mk (And.intro k0 (And.intro k1 (And.intro k2 k3)))
  clear hr hp he he0 he1 k0 k1 k2 k3
  go_enter Try.func37, Try.ntmps37
  go_upto_region 1 with (fail)
  obtain ⟨S, hS⟩ : ∃ S, S = w.heap.size := ⟨_, rfl⟩
  have hgS : g < S := by rw [hS]; exact blk_lt hG
  obtain ⟨W1, hW1⟩ : ∃ W1, W1 = (w.alloc (Obj.cells #[.int .u64 b0, .int .u64 b1] 67 (0, 0))).alloc (Obj.cells #[.int .u64 m0, .int .u64 m1] 67 (0, 0)) := ⟨_, rfl⟩
  have hB1 : Below w.heap.size w W1 := by rw [hW1]; exact below_alloc (below_alloc (Below.refl _ w) _) _
  have bB : W1.heap[S]? = some (Obj.cells #[.int .u64 b0, .int .u64 b1] 67 (0, 0)) := by rw [hW1, hS]; exact blk_alloc (heap_alloc_new w _) _
  have bM : W1.heap[S + 1]? = some (Obj.cells #[.int .u64 m0, .int .u64 m1] 67 (0, 0)) := by
    rw [hW1, hS]
    have := heap_alloc_new (w.alloc (Obj.cells #[.int .u64 b0, .int .u64 b1] 67 (0, 0))) (Obj.cells #[.int .u64 m0, .int .u64 m1] 67 (0, 0))
    rwa [World.size_alloc] at this
  rw [← hW1, ← hS]
  have bG := (hB1.block g (blk_lt hG)).trans hG
  have hSx := Aside0.mk hS
  have hG0 := Aside0.mk (And.intro hG hB1)
  clear hW1 hS hG hB1
  -- the first statement
  have s0 : W1.cell? ⟨g, o, none⟩ = some (.int .u64 n0) := (blk_cell bG o).trans K'.out.1
  have s1 : W1.cell? ⟨g, o + 1, none⟩ = some (.int .u64 n1) := (blk_cell bG (o + 1)).trans K'.out.2.1
  have s2 : W1.cell? ⟨g, o + 2, none⟩ = some (.int .u64 l0) := (blk_cell bG (o + 2)).trans K'.out.2.2.1
  have s3 : W1.cell? ⟨g, o + 3, none⟩ = some (.int .u64 l1) := (blk_cell bG (o + 3)).trans K'.out.2.2.2
  have s4 : W1.cell? ⟨S, 0, none⟩ = some (.int .u64 b0) := (blk_cell bB 0).trans rfl
  have s5 : W1.cell? ⟨S, 1, none⟩ = some (.int .u64 b1) := (blk_cell bB 1).trans rfl
  have hB1 := Aside0.mk (And.intro bG (And.intro bB bM))
  have hBc : Below W1.heap.size W1 W1.drew := (Below.refl _ W1).drew
  clear bG bB bM
  refine start_ (n := 12) (S := fun w' => w'.cell? ⟨g, o, none⟩ = some (.int .u64 n0) ∧ w'.cell? ⟨g, o + 1, none⟩ = some (.int .u64 n1) ∧ w'.cell? ⟨g, o + 2, none⟩ = some (.int .u64 l0) ∧ w'.cell? ⟨g, o + 3, none⟩ = some (.int .u64 l1) ∧ w'.cell? ⟨S, 0, none⟩ = some (.int .u64 b0) ∧ w'.cell? ⟨S, 1, none⟩ = some (.int .u64 b1)) (ds := [11]) #[false, false, false, false, false, false, false, false, false, false, false, false] (by kernel_rfl) rfl rfl ⟨s0, s1, s2, s3, s4, s5⟩ (fun hHeld => ?_)
  generalize W1.drew = Wc at hBc hHeld ⊢
  refine pure_ (i := 0) (N := some 7) (v := ?_) (a' := ?_) #[true, false, false, false, false, false, false, false, false, false, false, false] rfl rfl (by kernel_rfl) (fun _ _ _ h => h) (Or.inl ⟨by rfl, ?_⟩) ?_ ?_
  rotate_left
  · intro w'
    go_simp
    with_reducible rfl
  rotate_left
  · simp only [pL, i64_w, i32_w]
    rfl
  refine pure_ (i := 1) (N := some 8) (v := ?_) (a' := ?_) #[true, true, false, false, false, false, false, false, false, false, false, false] rfl rfl (by kernel_rfl) (fun _ _ _ h => h) (Or.inl ⟨by rfl, ?_⟩) ?_ ?_
  rotate_left
  · intro w'
    go_simp
    with_reducible rfl
  rotate_left
  · simp only [pL, i64_w, i32_w]
    rfl
  refine pure_ (i := 2) (N := some 9) (v := ?_) (a' := ?_) #[true, true, true, false, false, false, false, false, false, false, false, false] rfl rfl (by kernel_rfl) (fun _ _ _ h => h) (Or.inl ⟨by rfl, ?_⟩) ?_ ?_
  rotate_left
  · intro w'
    go_simp
    with_reducible rfl
  rotate_left
  · simp only [pL, i64_w, i32_w]
    rfl
  refine pure_ (i := 3) (N := some 10) (v := ?_) (a' := ?_) #[true, true, true, true, false, false, false, false, false, false, false, false] rfl rfl (by kernel_rfl) (fun _ _ _ h => h) (Or.inl ⟨by rfl, ?_⟩) ?_ ?_
  rotate_left
  · intro w'
    go_simp
    with_reducible rfl
  rotate_left
  · simp only [pL, i64_w, i32_w]
    rfl
  refine take_ (i := 4) (N := some 11) (v := ?_) (a' := ?_) #[true, true, true, true, true, false, false, false, false, false, false, false] rfl rfl (by kernel_rfl) (fun _ _ _ h => h) (Or.inl ⟨by rfl, ?_⟩) hHeld ?_ ?_
  rotate_left
  · rintro w' ⟨s0, s1, s2, s3, s4, s5⟩
    go_simp
    with_reducible rfl
  rotate_left
  · simp only [pL, i64_w, i32_w]
    rfl
  refine pure_ (i := 5) (N := some 12) (v := ?_) (a' := ?_) #[true, true, true, true, true, true, false, false, false, false, false, false] rfl rfl (by kernel_rfl) (fun _ _ _ h => h) (Or.inl ⟨by rfl, ?_⟩) ?_ ?_
  rotate_left
  · intro w'
    go_simp
    with_reducible rfl
  rotate_left
  · simp only [pL, i64_w, i32_w]
    rfl
  refine take_ (i := 6) (N := some 13) (v := ?_) (a' := ?_) #[true, true, true, true, true, true, true, false, false, false, false, false] rfl rfl (by kernel_rfl) (fun _ _ _ h => h) (Or.inl ⟨by rfl, ?_⟩) hHeld ?_ ?_
  rotate_left
  · rintro w' ⟨s0, s1, s2, s3, s4, s5⟩
    go_simp
    with_reducible rfl
  rotate_left
  · simp only [pL, i64_w, i32_w]
    rfl
  refine one_ (i := 7) (N := some 14) #[true, true, true, true, true, true, true, true, false, false, false, false] rfl rfl (by kernel_rfl) (by decide) (fun K hK => ?_)
  refine goes_ Try.func36 (by kernel_rfl) rfl #[.agg #[.int .u64 0, .int .u64 0], .agg #[.int .u64 b0, .int .u64 b1]] (by rfl) rfl rfl (by (try simp only [List.map_toArray, List.map_cons, List.map_nil]); first | done | rfl) ?_
  with_reducible refine (control_less.calls 0 0 b0 b1 x0 x1 _ h1.out).mono ?_
  rintro e Wn ⟨rfl, hb⟩
  refine ⟨_, rfl, ?_⟩
  obtain ⟨s0, s1, s2, s3, s4, s5⟩ := hHeld
  replace s0 := keep_cell hb s0
  replace s1 := keep_cell hb s1
  replace s2 := keep_cell hb s2
  replace s3 := keep_cell hb s3
  replace s4 := keep_cell hb s4
  replace s5 := keep_cell hb s5
  replace hBc := Below.trans hBc (Below.mono hb hBc.size)
  clear hb
  refine hK.out _ _ ⟨s0, s1, s2, s3, s4, s5⟩ (fun hHeld => ?_)
  clear hK K s0 s1 s2 s3 s4 s5
  refine norm_ (a' := ?_) ?_ ?_
  rotate_left
  · show Act.put _ (some 14) _ = _
    simp only [pL, i64_w, i32_w]
    rfl
  refine one_ (i := 8) (N := some 15) #[true, true, true, true, true, true, true, true, true, false, false, false] rfl rfl (by kernel_rfl) (by decide) (fun K hK => ?_)
  refine goes_ Try.func36 (by kernel_rfl) rfl #[.agg #[.int .u64 n0, .int .u64 n1], .agg #[.int .u64 x0, .int .u64 x1]] (by rfl) rfl rfl (by (try simp only [List.map_toArray, List.map_cons, List.map_nil]); first | done | rfl) ?_
  with_reducible refine (control_less.calls n0 n1 x0 x1 p0 p1 _ h2.out).mono ?_
  rintro e Wn ⟨rfl, hb⟩
  refine ⟨_, rfl, ?_⟩
  obtain ⟨s0, s1, s2, s3, s4, s5⟩ := hHeld
  replace s0 := keep_cell hb s0
  replace s1 := keep_cell hb s1
  replace s2 := keep_cell hb s2
  replace s3 := keep_cell hb s3
  replace s4 := keep_cell hb s4
  replace s5 := keep_cell hb s5
  replace hBc := Below.trans hBc (Below.mono hb hBc.size)
  clear hb
  refine hK.out _ _ ⟨s0, s1, s2, s3, s4, s5⟩ (fun hHeld => ?_)
  clear hK K s0 s1 s2 s3 s4 s5
  refine norm_ (a' := ?_) ?_ ?_
  rotate_left
  · show Act.put _ (some 15) _ = _
    simp only [pL, i64_w, i32_w]
    rfl
  refine pure_ (i := 9) (N := some 16) (v := ?_) (a' := ?_) #[true, true, true, true, true, true, true, true, true, true, false, false] rfl rfl (by kernel_rfl) (fun _ _ _ h => h) (Or.inl ⟨by rfl, ?_⟩) ?_ ?_
  rotate_left
  · intro w'
    go_simp
    with_reducible rfl
  rotate_left
  · simp only [pL, i64_w, i32_w]
    rfl
  refine pure_ (i := 10) (N := some 17) (v := ?_) (a' := ?_) #[true, true, true, true, true, true, true, true, true, true, true, false] rfl rfl (by kernel_rfl) (fun _ _ _ h => h) (Or.inl ⟨by rfl, ?_⟩) ?_ ?_
  rotate_left
  · intro w'
    go_simp
    with_reducible rfl
  rotate_left
  · simp only [pL, i64_w, i32_w]
    rfl
  refine last_ (i := 11) (N := none) #[true, true, true, true, true, true, true, true, true, true, true, true] rfl rfl (by kernel_rfl) (by decide) (fun K hK => ?_)
  obtain ⟨s0, s1, s2, s3, s4, s5⟩ := hHeld
  clear s4 s5
  obtain ⟨bG, bB, bM⟩ := hB1.out
  replace bG := blk_below bG hBc
  replace bM := blk_below bM hBc
  have f0 := blk_frozen bG o
  have f1 := blk_frozen bG (o + 1)
  refine skip_ (w1 := ?_) (by rfl) rfl ?_ ?_
  rotate_left
  · go_simp
    rfl
  refine hK.out _ _ ?_
  clear hK K s0 s1 s2 s3 f0 f1
  refine done_ (by kernel_rfl) ?_
  obtain ⟨hG0, hB0⟩ := hG0.out
  have hS := hSx.out
  have hgw := blk_lt hG0
  have hBw : Below w.heap.size w Wn := hB0.trans (hBc.mono hB0.size)
  have hK2 := ((KeepBut.of_below hBw g none).set_ o (.int .u64 p0)).set_ (o + 1) (.int .u64 p1)
  have hg2 : Below g w ((Wn.setCell ⟨g, o, none⟩ (.int .u64 p0)).setCell ⟨g, o + 1, none⟩ (.int .u64 p1)) := ((hBw.mono (Nat.le_of_lt hgw)).setCell (p := ⟨g, o, none⟩) (Nat.le_refl g) _).setCell (p := ⟨g, o + 1, none⟩) (Nat.le_refl g) _
  replace bM := (other_two (k := S + 1) (show S + 1 ≠ g by omega) o (o + 1) (.int .u64 p0) (.int .u64 p1)).trans bM
  have bG2 := blk_two bG o (o + 1) (.int .u64 p0) (.int .u64 p1)
  clear bG bB hBc hBw hG0 hB0 hS hB1 h1 h2
  generalize (Wn.setCell ⟨g, o, none⟩ (.int .u64 p0)).setCell ⟨g, o + 1, none⟩ (.int .u64 p1) = W2 at bG2 bM hK2 hg2 ⊢
  obtain ⟨j0, j1, j2, j3⟩ : ((cs.setIfInBounds o (Value.int .u64 p0)).setIfInBounds (o + 1) (.int .u64 p1))[o]? = some (.int .u64 p0) ∧ ((cs.setIfInBounds o (Value.int .u64 p0)).setIfInBounds (o + 1) (.int .u64 p1))[o + 1]? = some (.int .u64 p1) ∧ ((cs.setIfInBounds o (Value.int .u64 p0)).setIfInBounds (o + 1) (.int .u64 p1))[o + 2]? = some (.int .u64 l0) ∧ ((cs.setIfInBounds o (Value.int .u64 p0)).setIfInBounds (o + 1) (.int .u64 p1))[o + 3]? = some (.int .u64 l1) := by
    obtain ⟨k0, k1, k2, k3⟩ := K'.out
    have z0 := (Array.getElem?_eq_some_iff.1 k0).1
    have z1 := (Array.getElem?_eq_some_iff.1 k1).1
    simp [Array.getElem?_setIfInBounds, k0, k1, k2, k3, z0, z1]
  obtain ⟨cs2, hcs2⟩ : ∃ cs2, cs2 = (cs.setIfInBounds o (Value.int .u64 p0)).setIfInBounds (o + 1) (.int .u64 p1) := ⟨_, rfl⟩
  rw [← hcs2] at bG2 j0 j1 j2 j3
  have HC := Aside0.mk hcs2
  clear hcs2
  go_upto_region 2 with (fail)
  have s0 : W2.cell? ⟨g, o, none⟩ = some (.int .u64 p0) := (blk_cell bG2 o).trans j0
  have s1 : W2.cell? ⟨g, o + 1, none⟩ = some (.int .u64 p1) := (blk_cell bG2 (o + 1)).trans j1
  have s2 : W2.cell? ⟨g, o + 2, none⟩ = some (.int .u64 l0) := (blk_cell bG2 (o + 2)).trans j2
  have s3 : W2.cell? ⟨g, o + 3, none⟩ = some (.int .u64 l1) := (blk_cell bG2 (o + 3)).trans j3
  have H2 := Aside0.mk (And.intro bG2 (And.intro bM (And.intro hK2 (And.intro hg2 (And.intro hgw (And.intro j0 (And.intro j1 (And.intro j2 j3))))))))
  have hBc : Below W2.heap.size W2 W2.drew := (Below.refl _ W2).drew
  clear bG2 bM hK2 hg2 j0 j1 j2 j3 hgw
  refine start_ (n := 9) (S := fun w' => w'.cell? ⟨g, o, none⟩ = some (.int .u64 p0) ∧ w'.cell? ⟨g, o + 1, none⟩ = some (.int .u64 p1) ∧ w'.cell? ⟨g, o + 2, none⟩ = some (.int .u64 l0) ∧ w'.cell? ⟨g, o + 3, none⟩ = some (.int .u64 l1)) (ds := []) #[false, false, false, false, false, false, false, false, false] (by kernel_rfl) rfl rfl ⟨s0, s1, s2, s3⟩ (fun hHeld => ?_)
  generalize W2.drew = Wc at hBc hHeld ⊢
  refine pure_ (i := 0) (N := some 18) (v := ?_) (a' := ?_) #[true, false, false, false, false, false, false, false, false] rfl rfl (by kernel_rfl) (fun _ _ _ h => h) (Or.inl ⟨by rfl, ?_⟩) ?_ ?_
  rotate_left
  · intro w'
    go_simp
    with_reducible rfl
  rotate_left
  · simp only [pL, i64_w, i32_w]
    rfl
  refine pure_ (i := 1) (N := some 19) (v := ?_) (a' := ?_) #[true, true, false, false, false, false, false, false, false] rfl rfl (by kernel_rfl) (fun _ _ _ h => h) (Or.inl ⟨by rfl, ?_⟩) ?_ ?_
  rotate_left
  · intro w'
    go_simp
    with_reducible rfl
  rotate_left
  · simp only [pL, i64_w, i32_w]
    rfl
  refine pure_ (i := 2) (N := some 20) (v := ?_) (a' := ?_) #[true, true, true, false, false, false, false, false, false] rfl rfl (by kernel_rfl) (fun _ _ _ h => h) (Or.inl ⟨by rfl, ?_⟩) ?_ ?_
  rotate_left
  · intro w'
    go_simp
    with_reducible rfl
  rotate_left
  · simp only [pL, i64_w, i32_w]
    rfl
  refine take_ (i := 3) (N := some 21) (v := ?_) (a' := ?_) #[true, true, true, true, false, false, false, false, false] rfl rfl (by kernel_rfl) (fun _ _ _ h => h) (Or.inl ⟨by rfl, ?_⟩) hHeld ?_ ?_
  rotate_left
  · rintro w' ⟨s0, s1, s2, s3⟩
    go_simp
    with_reducible rfl
  rotate_left
  · simp only [pL, i64_w, i32_w]
    rfl
  refine pure_ (i := 4) (N := some 22) (v := ?_) (a' := ?_) #[true, true, true, true, true, false, false, false, false] rfl rfl (by kernel_rfl) (fun _ _ _ h => h) (Or.inl ⟨by rfl, ?_⟩) ?_ ?_
  rotate_left
  · intro w'
    go_simp
    with_reducible rfl
  rotate_left
  · simp only [pL, i64_w, i32_w]
    rfl
  refine pure_ (i := 5) (N := some 23) (v := ?_) (a' := ?_) #[true, true, true, true, true, true, false, false, false] rfl rfl (by kernel_rfl) (fun _ _ _ h => h) (Or.inl ⟨by rfl, ?_⟩) ?_ ?_
  rotate_left
  · intro w'
    go_simp
    with_reducible rfl
  rotate_left
  · simp only [pL, i64_w, i32_w]
    rfl
  refine pure_ (i := 6) (N := some 24) (v := ?_) (a' := ?_) #[true, true, true, true, true, true, true, false, false] rfl rfl (by kernel_rfl) (fun _ _ _ h => h) (Or.inl ⟨by rfl, ?_⟩) ?_ ?_
  rotate_left
  · intro w'
    go_simp
    with_reducible rfl
  rotate_left
  · simp only [pL, i64_w, i32_w]
    rfl
  refine take_ (i := 7) (N := some 25) (v := ?_) (a' := ?_) #[true, true, true, true, true, true, true, true, false] rfl rfl (by kernel_rfl) (fun _ _ _ h => h) (Or.inl ⟨by rfl, ?_⟩) hHeld ?_ ?_
  rotate_left
  · rintro w' ⟨s0, s1, s2, s3⟩
    go_simp
    with_reducible rfl
  rotate_left
  · simp only [pL, i64_w, i32_w]
    rfl
  refine one_ (i := 8) (N := some 26) #[true, true, true, true, true, true, true, true, true] rfl rfl (by kernel_rfl) (by decide) (fun K hK => ?_)
  refine goes_ Try.func47 (by kernel_rfl) rfl #[.agg #[.int .u64 p0, .int .u64 p1], .agg #[.int .u64 l0, .int .u64 l1]] (by rfl) rfl rfl (by (try simp only [List.map_toArray, List.map_cons, List.map_nil]); first | done | rfl) ?_
  with_reducible refine (control_below.calls p0 p1 l0 l1 c _ h3.out).mono ?_
  rintro e Wn ⟨rfl, hb⟩
  refine ⟨_, rfl, ?_⟩
  obtain ⟨s0, s1, s2, s3⟩ := hHeld
  replace s0 := keep_cell hb s0
  replace s1 := keep_cell hb s1
  replace s2 := keep_cell hb s2
  replace s3 := keep_cell hb s3
  replace hBc := Below.trans hBc (Below.mono hb hBc.size)
  clear hb
  refine hK.out _ _ ⟨s0, s1, s2, s3⟩ (fun hHeld => ?_)
  clear hK K s0 s1 s2 s3
  refine norm_ (a' := ?_) ?_ ?_
  rotate_left
  · show Act.put _ (some 26) _ = _
    simp only [pL, i64_w, i32_w]
    rfl
  refine done_ (by kernel_rfl) ?_
  obtain ⟨bG2, bM, hK2, hg2, hgw, j0, j1, j2, j3⟩ := H2.out
  clear H2 h3
  obtain ⟨s0, s1, s2, s3⟩ := hHeld
  have bG := blk_below bG2 hBc
  replace bM := blk_below bM hBc
  replace hK2 := KeepBut.trans hK2 (KeepBut.of_below hBc g none) (.inl rfl)
  replace hg2 := hg2.trans (hBc.mono (Nat.le_of_lt (blk_lt bG2)))
  clear bG2 hBc
  have same : ∀ (i : Nat) (v : Value), cs2[i]? = some v → cs2.setIfInBounds i v = cs2 := fun i v h => by
    apply Array.ext_getElem?
    intro q
    rw [Array.getElem?_setIfInBounds]
    split
    · rename_i e
      subst e
      rw [if_pos (Array.getElem?_eq_some_iff.1 h).1, h]
    · rfl
  cases c with
  | false =>
    obtain ⟨hr, hp, he, he0, he1⟩ := H.out
    rw [if_neg (by decide)] at he0 he1
    rw [← he0] at j2 s2
    rw [← he1] at j3 s3
    have he' := Aside0.mk he
    clear he0 he1 hr hp he
    go_upto_region 4 with (fail)
    have eF : (cs2.setIfInBounds (o + 2) (Value.int .u64 e0)).setIfInBounds (o + 3) (.int .u64 e1) = cs2 := by rw [same _ _ j2, same _ _ j3]
    rw [← eF] at bG
    clear eF s0 s1 s2 s3
    generalize Wn = W4 at bG bM hK2 hg2 ⊢
    obtain ⟨csF, hF⟩ : ∃ csF, csF = (cs2.setIfInBounds (o + 2) (Value.int .u64 e0)).setIfInBounds (o + 3) (.int .u64 e1) := ⟨_, rfl⟩
    rw [← hF] at bG
    obtain ⟨i0, i1, i2, i3⟩ : csF[o]? = some (.int .u64 p0) ∧ csF[o + 1]? = some (.int .u64 p1) ∧ csF[o + 2]? = some (.int .u64 e0) ∧ csF[o + 3]? = some (.int .u64 e1) := by
      have z0 := (Array.getElem?_eq_some_iff.1 j2).1
      have z1 := (Array.getElem?_eq_some_iff.1 j3).1
      rw [hF]
      simp [Array.getElem?_setIfInBounds, j0, j1, z0, z1]
    have s0 : W4.cell? ⟨g, o, none⟩ = some (.int .u64 p0) := (blk_cell bG o).trans i0
    have s1 : W4.cell? ⟨g, o + 1, none⟩ = some (.int .u64 p1) := (blk_cell bG (o + 1)).trans i1
    have s2 : W4.cell? ⟨g, o + 2, none⟩ = some (.int .u64 e0) := (blk_cell bG (o + 2)).trans i2
    have s3 : W4.cell? ⟨g, o + 3, none⟩ = some (.int .u64 e1) := (blk_cell bG (o + 3)).trans i3
    have s4 : W4.cell? ⟨S + 1, 0, none⟩ = some (.int .u64 m0) := (blk_cell bM 0).trans rfl
    have s5 : W4.cell? ⟨S + 1, 1, none⟩ = some (.int .u64 m1) := (blk_cell bM 1).trans rfl
    have HT := Aside0.mk (And.intro bG (And.intro hK2 (And.intro hg2 hF)))
    have hBc : Below W4.heap.size W4 W4.drew := (Below.refl _ W4).drew
    clear bG bM hK2 hg2 hF i0 i1 i2 i3 j0 j1 j2 j3 same
    refine start_ (n := 13) (S := fun w' => w'.cell? ⟨g, o, none⟩ = some (.int .u64 p0) ∧ w'.cell? ⟨g, o + 1, none⟩ = some (.int .u64 p1) ∧ w'.cell? ⟨g, o + 2, none⟩ = some (.int .u64 e0) ∧ w'.cell? ⟨g, o + 3, none⟩ = some (.int .u64 e1) ∧ w'.cell? ⟨S + 1, 0, none⟩ = some (.int .u64 m0) ∧ w'.cell? ⟨S + 1, 1, none⟩ = some (.int .u64 m1)) (ds := []) #[false, false, false, false, false, false, false, false, false, false, false, false, false] (by kernel_rfl) rfl rfl ⟨s0, s1, s2, s3, s4, s5⟩ (fun hHeld => ?_)
    generalize W4.drew = Wc at hBc hHeld ⊢
    refine take_ (i := 0) (N := some 34) (v := ?_) (a' := ?_) #[true, false, false, false, false, false, false, false, false, false, false, false, false] rfl rfl (by kernel_rfl) (fun _ _ _ h => h) (Or.inl ⟨by rfl, ?_⟩) hHeld ?_ ?_
    rotate_left
    · rintro w' ⟨s0, s1, s2, s3, s4, s5⟩
      go_simp
      with_reducible rfl
    rotate_left
    · simp only [pL, i64_w, i32_w]
      rfl
    refine pure_ (i := 1) (N := some 35) (v := ?_) (a' := ?_) #[true, true, false, false, false, false, false, false, false, false, false, false, false] rfl rfl (by kernel_rfl) (fun _ _ _ h => h) (Or.inl ⟨by rfl, ?_⟩) ?_ ?_
    rotate_left
    · intro w'
      go_simp
      with_reducible rfl
    rotate_left
    · simp only [pL, i64_w, i32_w]
      rfl
    refine pure_ (i := 2) (N := some 36) (v := ?_) (a' := ?_) #[true, true, true, false, false, false, false, false, false, false, false, false, false] rfl rfl (by kernel_rfl) (fun _ _ _ h => h) (Or.inl ⟨by rfl, ?_⟩) ?_ ?_
    rotate_left
    · intro w'
      go_simp
      with_reducible rfl
    rotate_left
    · simp only [pL, i64_w, i32_w]
      rfl
    refine pure_ (i := 3) (N := some 37) (v := ?_) (a' := ?_) #[true, true, true, true, false, false, false, false, false, false, false, false, false] rfl rfl (by kernel_rfl) (fun _ _ _ h => h) (Or.inl ⟨by rfl, ?_⟩) ?_ ?_
    rotate_left
    · intro w'
      go_simp
      with_reducible rfl
    rotate_left
    · simp only [pL, i64_w, i32_w]
      rfl
    refine take_ (i := 4) (N := some 38) (v := ?_) (a' := ?_) #[true, true, true, true, true, false, false, false, false, false, false, false, false] rfl rfl (by kernel_rfl) (fun _ _ _ h => h) (Or.inl ⟨by rfl, ?_⟩) hHeld ?_ ?_
    rotate_left
    · rintro w' ⟨s0, s1, s2, s3, s4, s5⟩
      go_simp
      with_reducible rfl
    rotate_left
    · simp only [pL, i64_w, i32_w]
      rfl
    refine pure_ (i := 5) (N := some 39) (v := ?_) (a' := ?_) #[true, true, true, true, true, true, false, false, false, false, false, false, false] rfl rfl (by kernel_rfl) (fun _ _ _ h => h) (Or.inl ⟨by rfl, ?_⟩) ?_ ?_
    rotate_left
    · intro w'
      go_simp
      with_reducible rfl
    rotate_left
    · simp only [pL, i64_w, i32_w]
      rfl
    refine pure_ (i := 6) (N := some 40) (v := ?_) (a' := ?_) #[true, true, true, true, true, true, true, false, false, false, false, false, false] rfl rfl (by kernel_rfl) (fun _ _ _ h => h) (Or.inl ⟨by rfl, ?_⟩) ?_ ?_
    rotate_left
    · intro w'
      go_simp
      with_reducible rfl
    rotate_left
    · simp only [pL, i64_w, i32_w]
      rfl
    refine pure_ (i := 7) (N := some 41) (v := ?_) (a' := ?_) #[true, true, true, true, true, true, true, true, false, false, false, false, false] rfl rfl (by kernel_rfl) (fun _ _ _ h => h) (Or.inl ⟨by rfl, ?_⟩) ?_ ?_
    rotate_left
    · intro w'
      go_simp
      with_reducible rfl
    rotate_left
    · simp only [pL, i64_w, i32_w]
      rfl
    refine take_ (i := 8) (N := some 42) (v := ?_) (a' := ?_) #[true, true, true, true, true, true, true, true, true, false, false, false, false] rfl rfl (by kernel_rfl) (fun _ _ _ h => h) (Or.inl ⟨by rfl, ?_⟩) hHeld ?_ ?_
    rotate_left
    · rintro w' ⟨s0, s1, s2, s3, s4, s5⟩
      go_simp
      with_reducible rfl
    rotate_left
    · simp only [pL, i64_w, i32_w]
      rfl
    refine one_ (i := 9) (N := some 43) #[true, true, true, true, true, true, true, true, true, true, false, false, false] rfl rfl (by kernel_rfl) (by decide) (fun K hK => ?_)
    refine goes_ Try.func36 (by kernel_rfl) rfl #[.agg #[.int .u64 p0, .int .u64 p1], .agg #[.int .u64 e0, .int .u64 e1]] (by rfl) rfl rfl (by (try simp only [List.map_toArray, List.map_cons, List.map_nil]); first | done | rfl) ?_
    with_reducible refine (control_less.calls p0 p1 e0 e1 y0 y1 _ h4.out).mono ?_
    rintro e Wn ⟨rfl, hb⟩
    refine ⟨_, rfl, ?_⟩
    obtain ⟨s0, s1, s2, s3, s4, s5⟩ := hHeld
    replace s0 := keep_cell hb s0
    replace s1 := keep_cell hb s1
    replace s2 := keep_cell hb s2
    replace s3 := keep_cell hb s3
    replace s4 := keep_cell hb s4
    replace s5 := keep_cell hb s5
    replace hBc := Below.trans hBc (Below.mono hb hBc.size)
    clear hb
    refine hK.out _ _ ⟨s0, s1, s2, s3, s4, s5⟩ (fun hHeld => ?_)
    clear hK K s0 s1 s2 s3 s4 s5
    refine norm_ (a' := ?_) ?_ ?_
    rotate_left
    · show Act.put _ (some 43) _ = _
      simp only [pL, i64_w, i32_w]
      rfl
    refine one_ (i := 10) (N := some 44) #[true, true, true, true, true, true, true, true, true, true, true, false, false] rfl rfl (by kernel_rfl) (by decide) (fun K hK => ?_)
    refine goes_ Try.func47 (by kernel_rfl) rfl #[.agg #[.int .u64 m0, .int .u64 m1], .agg #[.int .u64 y0, .int .u64 y1]] (by rfl) rfl rfl (by (try simp only [List.map_toArray, List.map_cons, List.map_nil]); first | done | rfl) ?_
    with_reducible refine (control_below.calls m0 m1 y0 y1 z _ h5.out).mono ?_
    rintro e Wn ⟨rfl, hb⟩
    refine ⟨_, rfl, ?_⟩
    obtain ⟨s0, s1, s2, s3, s4, s5⟩ := hHeld
    replace s0 := keep_cell hb s0
    replace s1 := keep_cell hb s1
    replace s2 := keep_cell hb s2
    replace s3 := keep_cell hb s3
    replace s4 := keep_cell hb s4
    replace s5 := keep_cell hb s5
    replace hBc := Below.trans hBc (Below.mono hb hBc.size)
    clear hb
    refine hK.out _ _ ⟨s0, s1, s2, s3, s4, s5⟩ (fun hHeld => ?_)
    clear hK K s0 s1 s2 s3 s4 s5
    refine norm_ (a' := ?_) ?_ ?_
    rotate_left
    · show Act.put _ (some 44) _ = _
      simp only [pL, i64_w, i32_w]
      rfl
    refine pure_ (i := 11) (N := some 45) (v := ?_) (a' := ?_) #[true, true, true, true, true, true, true, true, true, true, true, true, false] rfl rfl (by kernel_rfl) (fun _ _ _ h => h) (Or.inl ⟨by rfl, ?_⟩) ?_ ?_
    rotate_left
    · intro w'
      go_simp
      with_reducible rfl
    rotate_left
    · simp only [pL, i64_w, i32_w]
      rfl
    refine pure_ (i := 12) (N := some 6) (v := ?_) (a' := ?_) #[true, true, true, true, true, true, true, true, true, true, true, true, true] rfl rfl (by kernel_rfl) (fun _ _ _ h => h) (Or.inl ⟨by rfl, ?_⟩) ?_ ?_
    rotate_left
    · intro w'
      go_simp
      with_reducible rfl
    rotate_left
    · simp only [pL, i64_w, i32_w]
      rfl
    refine done_ (by kernel_rfl) ?_
    obtain ⟨bG, hK2, hg2, hF⟩ := HT.out
    go_wp2
    go_ret
    obtain ⟨hr, hp, he, g0, g1⟩ := H.out
    subst hr hp he
    refine ⟨rfl, ?_, hK2.trans (KeepBut.of_below hBc g none) (.inl rfl), hg2.trans (hBc.mono (Nat.le_of_lt (blk_lt bG)))⟩
    rw [blk_below bG hBc, hF, HC.out, g0, g1]
  | true =>
    obtain ⟨hr, hp, he, he0, he1⟩ := H.out
    rw [if_pos rfl] at he0 he1
    have he' := Aside0.mk (And.intro he0 he1)
    have f2 := blk_frozen bG (o + 2)
    have f3 := blk_frozen bG (o + 3)
    clear he0 he1 hr hp he
    go_upto_region 4 with (fail)
    have bG4 := blk_two bG (o + 2) (o + 3) (.int .u64 p0) (.int .u64 p1)
    replace bM := (other_two (k := S + 1) (show S + 1 ≠ g by omega) (o + 2) (o + 3) (.int .u64 p0) (.int .u64 p1)).trans bM
    replace hK2 := (hK2.set_ (o + 2) (.int .u64 p0)).set_ (o + 3) (.int .u64 p1)
    replace hg2 := (hg2.setCell (p := ⟨g, o + 2, none⟩) (Nat.le_refl g) (.int .u64 p0)).setCell (p := ⟨g, o + 3, none⟩) (Nat.le_refl g) (.int .u64 p1)
    clear bG s0 s1 s2 s3 f2 f3
    have bG := bG4
    clear bG4
    generalize (Wn.setCell ⟨g, o + 2, none⟩ (.int .u64 p0)).setCell ⟨g, o + 3, none⟩ (.int .u64 p1) = W4 at bG bM hK2 hg2 ⊢
    rw [← he'.out.1, ← he'.out.2] at bG
    obtain ⟨csF, hF⟩ : ∃ csF, csF = (cs2.setIfInBounds (o + 2) (Value.int .u64 e0)).setIfInBounds (o + 3) (.int .u64 e1) := ⟨_, rfl⟩
    rw [← hF] at bG
    obtain ⟨i0, i1, i2, i3⟩ : csF[o]? = some (.int .u64 p0) ∧ csF[o + 1]? = some (.int .u64 p1) ∧ csF[o + 2]? = some (.int .u64 e0) ∧ csF[o + 3]? = some (.int .u64 e1) := by
      have z0 := (Array.getElem?_eq_some_iff.1 j2).1
      have z1 := (Array.getElem?_eq_some_iff.1 j3).1
      rw [hF]
      simp [Array.getElem?_setIfInBounds, j0, j1, z0, z1]
    have s0 : W4.cell? ⟨g, o, none⟩ = some (.int .u64 p0) := (blk_cell bG o).trans i0
    have s1 : W4.cell? ⟨g, o + 1, none⟩ = some (.int .u64 p1) := (blk_cell bG (o + 1)).trans i1
    have s2 : W4.cell? ⟨g, o + 2, none⟩ = some (.int .u64 e0) := (blk_cell bG (o + 2)).trans i2
    have s3 : W4.cell? ⟨g, o + 3, none⟩ = some (.int .u64 e1) := (blk_cell bG (o + 3)).trans i3
    have s4 : W4.cell? ⟨S + 1, 0, none⟩ = some (.int .u64 m0) := (blk_cell bM 0).trans rfl
    have s5 : W4.cell? ⟨S + 1, 1, none⟩ = some (.int .u64 m1) := (blk_cell bM 1).trans rfl
    have HT := Aside0.mk (And.intro bG (And.intro hK2 (And.intro hg2 hF)))
    have hBc : Below W4.heap.size W4 W4.drew := (Below.refl _ W4).drew
    clear bG bM hK2 hg2 hF i0 i1 i2 i3 j0 j1 j2 j3 same
    refine start_ (n := 13) (S := fun w' => w'.cell? ⟨g, o, none⟩ = some (.int .u64 p0) ∧ w'.cell? ⟨g, o + 1, none⟩ = some (.int .u64 p1) ∧ w'.cell? ⟨g, o + 2, none⟩ = some (.int .u64 e0) ∧ w'.cell? ⟨g, o + 3, none⟩ = some (.int .u64 e1) ∧ w'.cell? ⟨S + 1, 0, none⟩ = some (.int .u64 m0) ∧ w'.cell? ⟨S + 1, 1, none⟩ = some (.int .u64 m1)) (ds := []) #[false, false, false, false, false, false, false, false, false, false, false, false, false] (by kernel_rfl) rfl rfl ⟨s0, s1, s2, s3, s4, s5⟩ (fun hHeld => ?_)
    generalize W4.drew = Wc at hBc hHeld ⊢
    refine take_ (i := 0) (N := some 34) (v := ?_) (a' := ?_) #[true, false, false, false, false, false, false, false, false, false, false, false, false] rfl rfl (by kernel_rfl) (fun _ _ _ h => h) (Or.inl ⟨by rfl, ?_⟩) hHeld ?_ ?_
    rotate_left
    · rintro w' ⟨s0, s1, s2, s3, s4, s5⟩
      go_simp
      with_reducible rfl
    rotate_left
    · simp only [pL, i64_w, i32_w]
      rfl
    refine pure_ (i := 1) (N := some 35) (v := ?_) (a' := ?_) #[true, true, false, false, false, false, false, false, false, false, false, false, false] rfl rfl (by kernel_rfl) (fun _ _ _ h => h) (Or.inl ⟨by rfl, ?_⟩) ?_ ?_
    rotate_left
    · intro w'
      go_simp
      with_reducible rfl
    rotate_left
    · simp only [pL, i64_w, i32_w]
      rfl
    refine pure_ (i := 2) (N := some 36) (v := ?_) (a' := ?_) #[true, true, true, false, false, false, false, false, false, false, false, false, false] rfl rfl (by kernel_rfl) (fun _ _ _ h => h) (Or.inl ⟨by rfl, ?_⟩) ?_ ?_
    rotate_left
    · intro w'
      go_simp
      with_reducible rfl
    rotate_left
    · simp only [pL, i64_w, i32_w]
      rfl
    refine pure_ (i := 3) (N := some 37) (v := ?_) (a' := ?_) #[true, true, true, true, false, false, false, false, false, false, false, false, false] rfl rfl (by kernel_rfl) (fun _ _ _ h => h) (Or.inl ⟨by rfl, ?_⟩) ?_ ?_
    rotate_left
    · intro w'
      go_simp
      with_reducible rfl
    rotate_left
    · simp only [pL, i64_w, i32_w]
      rfl
    refine take_ (i := 4) (N := some 38) (v := ?_) (a' := ?_) #[true, true, true, true, true, false, false, false, false, false, false, false, false] rfl rfl (by kernel_rfl) (fun _ _ _ h => h) (Or.inl ⟨by rfl, ?_⟩) hHeld ?_ ?_
    rotate_left
    · rintro w' ⟨s0, s1, s2, s3, s4, s5⟩
      go_simp
      with_reducible rfl
    rotate_left
    · simp only [pL, i64_w, i32_w]
      rfl
    refine pure_ (i := 5) (N := some 39) (v := ?_) (a' := ?_) #[true, true, true, true, true, true, false, false, false, false, false, false, false] rfl rfl (by kernel_rfl) (fun _ _ _ h => h) (Or.inl ⟨by rfl, ?_⟩) ?_ ?_
    rotate_left
    · intro w'
      go_simp
      with_reducible rfl
    rotate_left
    · simp only [pL, i64_w, i32_w]
      rfl
    refine pure_ (i := 6) (N := some 40) (v := ?_) (a' := ?_) #[true, true, true, true, true, true, true, false, false, false, false, false, false] rfl rfl (by kernel_rfl) (fun _ _ _ h => h) (Or.inl ⟨by rfl, ?_⟩) ?_ ?_
    rotate_left
    · intro w'
      go_simp
      with_reducible rfl
    rotate_left
    · simp only [pL, i64_w, i32_w]
      rfl
    refine pure_ (i := 7) (N := some 41) (v := ?_) (a' := ?_) #[true, true, true, true, true, true, true, true, false, false, false, false, false] rfl rfl (by kernel_rfl) (fun _ _ _ h => h) (Or.inl ⟨by rfl, ?_⟩) ?_ ?_
    rotate_left
    · intro w'
      go_simp
      with_reducible rfl
    rotate_left
    · simp only [pL, i64_w, i32_w]
      rfl
    refine take_ (i := 8) (N := some 42) (v := ?_) (a' := ?_) #[true, true, true, true, true, true, true, true, true, false, false, false, false] rfl rfl (by kernel_rfl) (fun _ _ _ h => h) (Or.inl ⟨by rfl, ?_⟩) hHeld ?_ ?_
    rotate_left
    · rintro w' ⟨s0, s1, s2, s3, s4, s5⟩
      go_simp
      with_reducible rfl
    rotate_left
    · simp only [pL, i64_w, i32_w]
      rfl
    refine one_ (i := 9) (N := some 43) #[true, true, true, true, true, true, true, true, true, true, false, false, false] rfl rfl (by kernel_rfl) (by decide) (fun K hK => ?_)
    refine goes_ Try.func36 (by kernel_rfl) rfl #[.agg #[.int .u64 p0, .int .u64 p1], .agg #[.int .u64 e0, .int .u64 e1]] (by rfl) rfl rfl (by (try simp only [List.map_toArray, List.map_cons, List.map_nil]); first | done | rfl) ?_
    with_reducible refine (control_less.calls p0 p1 e0 e1 y0 y1 _ h4.out).mono ?_
    rintro e Wn ⟨rfl, hb⟩
    refine ⟨_, rfl, ?_⟩
    obtain ⟨s0, s1, s2, s3, s4, s5⟩ := hHeld
    replace s0 := keep_cell hb s0
    replace s1 := keep_cell hb s1
    replace s2 := keep_cell hb s2
    replace s3 := keep_cell hb s3
    replace s4 := keep_cell hb s4
    replace s5 := keep_cell hb s5
    replace hBc := Below.trans hBc (Below.mono hb hBc.size)
    clear hb
    refine hK.out _ _ ⟨s0, s1, s2, s3, s4, s5⟩ (fun hHeld => ?_)
    clear hK K s0 s1 s2 s3 s4 s5
    refine norm_ (a' := ?_) ?_ ?_
    rotate_left
    · show Act.put _ (some 43) _ = _
      simp only [pL, i64_w, i32_w]
      rfl
    refine one_ (i := 10) (N := some 44) #[true, true, true, true, true, true, true, true, true, true, true, false, false] rfl rfl (by kernel_rfl) (by decide) (fun K hK => ?_)
    refine goes_ Try.func47 (by kernel_rfl) rfl #[.agg #[.int .u64 m0, .int .u64 m1], .agg #[.int .u64 y0, .int .u64 y1]] (by rfl) rfl rfl (by (try simp only [List.map_toArray, List.map_cons, List.map_nil]); first | done | rfl) ?_
    with_reducible refine (control_below.calls m0 m1 y0 y1 z _ h5.out).mono ?_
    rintro e Wn ⟨rfl, hb⟩
    refine ⟨_, rfl, ?_⟩
    obtain ⟨s0, s1, s2, s3, s4, s5⟩ := hHeld
    replace s0 := keep_cell hb s0
    replace s1 := keep_cell hb s1
    replace s2 := keep_cell hb s2
    replace s3 := keep_cell hb s3
    replace s4 := keep_cell hb s4
    replace s5 := keep_cell hb s5
    replace hBc := Below.trans hBc (Below.mono hb hBc.size)
    clear hb
    refine hK.out _ _ ⟨s0, s1, s2, s3, s4, s5⟩ (fun hHeld => ?_)
    clear hK K s0 s1 s2 s3 s4 s5
    refine norm_ (a' := ?_) ?_ ?_
    rotate_left
    · show Act.put _ (some 44) _ = _
      simp only [pL, i64_w, i32_w]
      rfl
    refine pure_ (i := 11) (N := some 45) (v := ?_) (a' := ?_) #[true, true, true, true, true, true, true, true, true, true, true, true, false] rfl rfl (by kernel_rfl) (fun _ _ _ h => h) (Or.inl ⟨by rfl, ?_⟩) ?_ ?_
    rotate_left
    · intro w'
      go_simp
      with_reducible rfl
    rotate_left
    · simp only [pL, i64_w, i32_w]
      rfl
    refine pure_ (i := 12) (N := some 6) (v := ?_) (a' := ?_) #[true, true, true, true, true, true, true, true, true, true, true, true, true] rfl rfl (by kernel_rfl) (fun _ _ _ h => h) (Or.inl ⟨by rfl, ?_⟩) ?_ ?_
    rotate_left
    · intro w'
      go_simp
      with_reducible rfl
    rotate_left
    · simp only [pL, i64_w, i32_w]
      rfl
    refine done_ (by kernel_rfl) ?_
    obtain ⟨bG, hK2, hg2, hF⟩ := HT.out
    go_wp2
    go_ret
    obtain ⟨hr, hp, he, g0, g1⟩ := H.out
    subst hr hp he
    refine ⟨rfl, ?_, hK2.trans (KeepBut.of_below hBc g none) (.inl rfl), hg2.trans (hBc.mono (Nat.le_of_lt (blk_lt bG)))⟩
    rw [blk_below bG hBc, hF, HC.out, g0, g1]


end Go.Proofs.Ytcnheiemajghiaa.PA
