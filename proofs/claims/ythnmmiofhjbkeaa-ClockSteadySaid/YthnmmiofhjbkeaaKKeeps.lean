/-
  Whether a clock keeps to a declaration: what the printed function computes, in whole numbers.
-/
import Derived.Test.YthnmmiofhjbkeaaPAx26
import Derived.Test.YthnmmiofhjbkeaaPAx27
import Derived.Test.YthnmmiofhjbkeaaPAx4
import Derived.Test.YthnmmiofhjbkeaaKPos
namespace Go.Proofs.YthnmmiofhjbkeaaX
open Go.RowKit Go.Proofs.Ythnmmiofhjbkeaa.PA Go.Proofs.YthnmmiofhjbkeaaW.PrintWords Go.Proofs.YthnmmiofhjbkeaaW.PrintLast Go.Proofs.YthnmmiofhjbkeaaW.PrintMore

/-- A whole number as two words, in two's complement. -/
def encW (v : Int) : S78 := ⟨v / 18446744073709551616 % 18446744073709551616, v % 18446744073709551616⟩
theorem product_eq {a b : Int} (ha : 0 ≤ a) (ha' : a ≤ 9223372036854775807) (hb : 0 ≤ b) (hb' : b ≤ 9223372036854775807) :
    clock_product.f a b = some ((encW (a * b)).f0, (encW (a * b)).f1) := by
  unfold clock_product.f
  rw [u64 (n := a) ha (by omega), u64 (n := b) hb (by omega), mul64 ha (by omega) hb (by omega)]
  simp only [Option.bind_some, encW]
  have h0 := Int.mul_nonneg ha hb
  have h1 : a * b ≤ 9223372036854775807 * 9223372036854775807 := Int.mul_le_mul ha' hb' hb (by omega)
  generalize a * b = p at *
  have : p / 18446744073709551616 % 18446744073709551616 = p / 18446744073709551616 := by omega
  rw [this]
theorem less_eq (u v : Int) : clock_less.f (encW u).f0 (encW u).f1 (encW v).f0 (encW v).f1 = some ((encW (u - v)).f0, (encW (u - v)).f1) := by
  unfold clock_less.f clock_less.carry encW
  simp only
  rw [if_pos (by omega)]
  simp only [Option.some.injEq, Prod.mk.injEq]
  constructor
  · split <;> omega
  · omega
theorem below_eq {u v : Int} (hu : -85070591730234615865843651857942052864 ≤ u) (hu' : u < 85070591730234615865843651857942052864) (hv : -85070591730234615865843651857942052864 ≤ v) (hv' : v < 85070591730234615865843651857942052864) :
    clock_below.f (encW u).f0 (encW u).f1 (encW v).f0 (encW v).f1 = some (decide (u < v)) := by
  unfold clock_below.f encW wrap64
  simp only
  split
  · rw [decide_eq_true (by omega)]
  · split
    · congr 1
      rw [decide_eq_decide]
      omega
    · rw [decide_eq_false (by omega)]
/-- Does an element exceed an earlier one by more than a limit? -/
def risesS (lim : Int) : Int → List Int → Bool
 | _, [] => false
 | m, x :: xs => if lim < x - m then true else risesS lim (if x < m then x else m) xs
/-- A bound on numbers. -/
def Small (v : Int) : Prop := -10000000000000000000000000000000000 ≤ v ∧ v ≤ 10000000000000000000000000000000000
theorem rd_map (l : List Int) {j : Nat} (h : j < l.length) : rd_T78 (l.map encW) j = encW (l[j]) := by
  unfold rd_T78
  rw [List.getD_eq_getElem?_getD, Int.toNat_natCast, List.getElem?_eq_getElem (by simpa using h)]
  simp
theorem rises_l0 (l : List Int) (hl : (l.length : Int) ≤ 9000) (lim : Int) (hs : ∀ x ∈ l, Small x) (hlim : Small lim) : ∀ (d j : Nat) (m : Int), d = l.length - j → j ≤ l.length → Small m →
    Ev (fun k => clock_rises.l0 k (l.map encW) (l.length : Int) j (encW lim).f0 (encW lim).f1 (encW m).f0 (encW m).f1) (risesS lim m (l.drop j)) := by
  unfold Small at *
  intro d
  induction d with
  | zero =>
    intro j m hd hj _
    obtain rfl : j = l.length := by omega
    refine Ev.step (f := fun _ => some false) (fun k => ?_) ?_
    · simp only [clock_rises.l0]
      rw [if_neg (by omega)]
    · rw [List.drop_length]
      exact Ev.now _
  | succ d ih =>
    intro j m hd hj hm
    have hlt : j < l.length := by omega
    have hx := hs l[j] (List.getElem_mem hlt)
    rw [List.drop_eq_getElem_cons hlt]
    have e1 : wrap64 ((j : Int) + 1) = ((j + 1 : Nat) : Int) := by rw [w64 (by omega) (by omega)]; omega
    refine Ev.step (f := ?f) (fun k => ?h) ?g
    case h =>
      simp only [clock_rises.l0]
      rw [if_pos (show (j : Int) < (l.length : Int) by omega), if_pos (show (0 : Int) ≤ j by omega), if_pos (show (j : Int) < ((l.map encW).length : Int) by rw [List.length_map]; omega), rd_map l hlt, less_eq, Option.bind_some, below_eq (by omega) (by omega) (by omega) (by omega), Option.bind_some, below_eq (by omega) (by omega) (by omega) (by omega), e1]
    case g =>
      simp only [risesS]
      by_cases c : lim < l[j] - m
      · simp only [if_pos c, decide_eq_true c, if_true]
        exact Ev.now _
      · simp only [if_neg c, decide_eq_false c, Bool.false_eq_true, if_false, Option.bind_some]
        by_cases c2 : l[j] < m
        · simp only [if_pos c2, decide_eq_true c2, if_true]
          exact ih (j + 1) _ (by omega) (by omega) hx
        · simp only [if_neg c2, decide_eq_false c2, Bool.false_eq_true, if_false]
          exact ih (j + 1) _ (by omega) (by omega) hm
theorem rises_ev (x : Int) (xs : List Int) (hl : (xs.length : Int) ≤ 8000) (lim : Int) (hs : ∀ y ∈ x :: xs, Small y) (hlim : Small lim) :
    Ev (fun k => clock_rises.f k ((x :: xs).map encW) (encW lim).f0 (encW lim).f1) (risesS lim x (x :: xs)) := by
  unfold clock_rises.f
  simp only [List.length_map, if_pos (show 0 < ((x :: xs).length : Int) by simp only [List.length_cons]; omega)]
  have e : rd_T78 ((x :: xs).map encW) 0 = encW x := rfl
  rw [e]
  have := rises_l0 (x :: xs) (by simp only [List.length_cons]; omega) lim hs hlim (x :: xs).length 0 x (by omega) (by omega) (hs x List.mem_cons_self)
  exact this
theorem risesS_false (lim : Int) : ∀ (m : Int) (xs : List Int), risesS lim m xs = false ↔ (∀ x ∈ xs, x - m ≤ lim) ∧ xs.Pairwise (fun a b => b - a ≤ lim)
 | _, [] => by simp [risesS]
 | m, x :: xs => by
  simp only [risesS]
  by_cases c : lim < x - m
  · rw [if_pos c]
    constructor
    · intro h; cases h
    · intro h
      have := h.1 x List.mem_cons_self
      omega
  · rw [if_neg c, risesS_false lim _ xs, List.pairwise_cons]
    constructor
    · rintro ⟨h1, h2⟩
      refine ⟨?_, ?_, h2⟩
      · intro y hy
        rcases List.mem_cons.1 hy with rfl | hy
        · omega
        · have := h1 y hy
          split at this <;> omega
      · intro y hy
        have := h1 y hy
        split at this <;> omega
    · rintro ⟨h1, h2, h3⟩
      refine ⟨fun y hy => ?_, h3⟩
      have a1 := h1 y (List.mem_cons_of_mem _ hy)
      have a2 := h2 y hy
      split <;> omega
/-- No element exceeds an earlier one by more than the limit. -/
def steady (lim : Int) (f : Nat → Int) (n : Nat) : Prop := ∀ i j : Nat, i < j → j ≤ n → f j - f i ≤ lim
theorem risesS_range {lim : Int} (h0 : 0 ≤ lim) (f : Nat → Int) (n : Nat) : risesS lim (f 0) ((List.range (n + 1)).map f) = false ↔ steady lim f n := by
  rw [risesS_false, List.pairwise_map]
  constructor
  · rintro ⟨_, h⟩ i j hij hj
    have := List.pairwise_iff_getElem.1 h i j (by simp; omega) (by simp; omega) hij
    simpa using this
  · intro h
    constructor
    · intro x hx
      obtain ⟨k, hk, rfl⟩ := List.mem_map.1 hx
      have hk := List.mem_range.1 hk
      by_cases c : k = 0
      · subst c; omega
      · exact h 0 k (by omega) (by omega)
    · rw [List.pairwise_iff_getElem]
      intro i j hi hj hij
      simp only [List.length_range] at hi hj
      simpa using h i j hij (by omega)
/-- How far frames and periods are from one another, at most and at least. -/
def highS (l : List S61) (a b drift p from_ : Int) (k : Nat) : Int := (posS l (from_ + k * p) - posS l from_) * (b * 65536) - k * p * (a * (65536 + drift))
def lowS (l : List S61) (a b drift p from_ : Int) (k : Nat) : Int := k * p * (a * (65536 - drift)) - (posS l (from_ + k * p) - posS l from_) * (b * 65536)
theorem mul_le3 {x y M N : Int} (hx : 0 ≤ x) (hx' : x ≤ M) (hy : 0 ≤ y) (hy' : y ≤ N) : 0 ≤ x * y ∧ x * y ≤ M * N :=
  ⟨Int.mul_nonneg hx hy, Int.mul_le_mul hx' hy' hy (by omega)⟩
theorem w64p {n : Int} (h0 : 0 ≤ n) (h1 : n ≤ 9223372036854775807) : wrap64 n = n := w64 (by omega) h1
theorem rate_prod {a x : Int} (ha : 1 ≤ a) (ha' : a ≤ 68719476736) (hx : 0 ≤ x) (hx' : x ≤ 69632) : 0 ≤ a * x ∧ a * x ≤ 4785074604081152 := by
  have := mul_le3 (x := a) (y := x) (M := 68719476736) (N := 69632) (by omega) ha' hx hx'
  exact ⟨this.1, by omega⟩
theorem time_prod {y z : Int} (hy : 0 ≤ y) (hy' : y ≤ 1099511627776) (hz : 0 ≤ z) (hz' : z ≤ 4785074604081152) : 0 ≤ y * z ∧ y * z ≤ 5261245166962866168321277952 := by
  have := mul_le3 (x := y) (y := z) (M := 1099511627776) (N := 4785074604081152) hy hy' hz hz'
  exact ⟨this.1, by omega⟩
theorem pos_prod {y b : Int} (hy : 0 ≤ y) (hy' : y ≤ 1125899906842624) (hb : 1 ≤ b) (hb' : b ≤ 68719476736) : 0 ≤ y * (b * 65536) ∧ y * (b * 65536) ≤ 5070602400912917605986812821504 := by
  have := mul_le3 (x := y) (y := b * 65536) (M := 1125899906842624) (N := 4503599627370496) hy hy' (by omega) (by omega)
  exact ⟨this.1, by omega⟩
theorem lim_prod {j b : Int} (hy : 0 ≤ j) (hy' : j ≤ 65536) (hb : 1 ≤ b) (hb' : b ≤ 68719476736) : 0 ≤ j * (b * 65536) ∧ j * (b * 65536) ≤ 295147905179352825856 := by
  have := mul_le3 (x := j) (y := b * 65536) (M := 65536) (N := 4503599627370496) hy hy' (by omega) (by omega)
  exact ⟨this.1, by omega⟩
theorem small_diff {x y : Int} (hx : 0 ≤ x ∧ x ≤ 5070602400912917605986812821504) (hy : 0 ≤ y ∧ y ≤ 5261245166962866168321277952) : Small (x - y) ∧ Small (y - x) := by
  unfold Small
  omega
/-- What the round of number k uses. -/
structure KFacts (l : List S61) (p from_ to_ : Int) (k : Nat) : Prop where
  kp0 : 0 ≤ (k : Int) * p
  kp1 : (k : Int) * p ≤ 1099511627776
  at0 : 0 ≤ from_ + k * p
  at1 : from_ + k * p ≤ 1099511627776
  df0 : 0 ≤ posS l (from_ + k * p) - posS l from_
  df1 : posS l (from_ + k * p) - posS l from_ ≤ 1125899906842624
theorem kfacts {l : List S61} (hv : vclockS l = true) {p from_ to_ : Int} (hp : 1 ≤ p) (hf : 0 ≤ from_) (ht : to_ ≤ 1099511627776) {k : Nat} (hk : (k : Int) ≤ (to_ - from_) / p) : KFacts l p from_ to_ k := by
  have h1 : (k : Int) * p ≤ to_ - from_ := (Int.le_ediv_iff_mul_le (by omega)).1 hk
  have h0 : 0 ≤ (k : Int) * p := Int.mul_nonneg (by omega) (by omega)
  have m1 := posS_mono hv (t := from_) (u := from_ + k * p) hf (by omega)
  have m2 := posS_bound hv (t := from_ + k * p) (by omega)
  have m3 := posS_bound hv (t := from_) hf
  exact ⟨h0, by omega, by omega, by omega, by omega, by omega⟩
theorem kfacts_small {l : List S61} {a b drift p from_ to_ : Int} (hr : validS a b = true) (hd : 0 ≤ drift) (hd' : drift ≤ 4096) {k : Nat} (h : KFacts l p from_ to_ k) : Small (highS l a b drift p from_ k) ∧ Small (lowS l a b drift p from_ k) := by
  obtain ⟨v1, v2, v3, v4, _⟩ := validS_iff.1 hr
  have a1 := rate_prod (x := 65536 + drift) v1 v3 (by omega) (by omega)
  have a2 := rate_prod (x := 65536 - drift) v1 v3 (by omega) (by omega)
  have g1 := pos_prod h.df0 h.df1 v2 v4
  exact ⟨(small_diff g1 (time_prod h.kp0 h.kp1 a1.1 a1.2)).1, (small_diff g1 (time_prod h.kp0 h.kp1 a2.1 a2.2)).2⟩
/-- One round's step. -/
theorem keeps_round {l : List S61} {a b drift p from_ to_ : Int} (hr : validS a b = true) (hd : 0 ≤ drift) (hd' : drift ≤ 4096) {k : Nat} (h : KFacts l p from_ to_ k) :
    wrap64 ((k : Int) * p) = k * p ∧ wrap64 (from_ + k * p) = from_ + k * p ∧ wrap64 (a * wrap64 (65536 + drift)) = a * (65536 + drift) ∧ wrap64 (a * wrap64 (65536 - drift)) = a * (65536 - drift) ∧ wrap64 (posS l (from_ + k * p) - posS l from_) = posS l (from_ + k * p) - posS l from_ ∧
    clock_product.f (k * p) (a * (65536 + drift)) = some ((encW (k * p * (a * (65536 + drift)))).f0, (encW (k * p * (a * (65536 + drift)))).f1) ∧
    clock_product.f (k * p) (a * (65536 - drift)) = some ((encW (k * p * (a * (65536 - drift)))).f0, (encW (k * p * (a * (65536 - drift)))).f1) ∧
    clock_product.f (posS l (from_ + k * p) - posS l from_) (b * 65536) = some ((encW ((posS l (from_ + k * p) - posS l from_) * (b * 65536))).f0, (encW ((posS l (from_ + k * p) - posS l from_) * (b * 65536))).f1) := by
  obtain ⟨v1, v2, v3, v4, _⟩ := validS_iff.1 hr
  have a1 := rate_prod (x := 65536 + drift) v1 v3 (by omega) (by omega)
  have a2 := rate_prod (x := 65536 - drift) v1 v3 (by omega) (by omega)
  have b1 : 0 ≤ b * 65536 ∧ b * 65536 ≤ 9223372036854775807 := by omega
  have w1 : wrap64 (65536 + drift) = 65536 + drift := w64p (by omega) (by omega)
  have w2 : wrap64 (65536 - drift) = 65536 - drift := w64p (by omega) (by omega)
  rw [w1, w2]
  exact ⟨w64p h.kp0 (Int.le_trans h.kp1 (by decide)), w64p h.at0 (Int.le_trans h.at1 (by decide)), w64p a1.1 (Int.le_trans a1.2 (by decide)), w64p a2.1 (Int.le_trans a2.2 (by decide)), w64p h.df0 (Int.le_trans h.df1 (by decide)),
    product_eq h.kp0 (Int.le_trans h.kp1 (by decide)) a1.1 (Int.le_trans a1.2 (by decide)), product_eq h.kp0 (Int.le_trans h.kp1 (by decide)) a2.1 (Int.le_trans a2.2 (by decide)), product_eq h.df0 (Int.le_trans h.df1 (by decide)) b1.1 b1.2⟩
theorem rises_all {lim : Int} (hlim : Small lim) (n : Nat) (hn : n < 4096) (g : Nat → Int) (hg : ∀ k : Nat, k ≤ n → Small (g k)) : Ev (fun f => clock_rises.f f (((List.range (n + 1)).map g).map encW) (encW lim).f0 (encW lim).f1) (risesS lim (g 0) ((List.range (n + 1)).map g)) := by
  rw [List.range_succ_eq_map, List.map_cons]
  refine rises_ev _ _ (by simp; omega) _ ?_ hlim
  intro y hy
  rw [← List.map_cons, ← List.range_succ_eq_map] at hy
  obtain ⟨k, hk, rfl⟩ := List.mem_map.1 hy
  have hk := List.mem_range.1 hk
  exact hg k (by omega)
theorem keeps_l0 {l : List S61} (hv : vclockS l = true) {a b drift p from_ to_ jit : Int} (hr : validS a b = true) (hd : 0 ≤ drift) (hd' : drift ≤ 4096) (hj : 0 ≤ jit) (hj' : jit ≤ 65536) (n : Nat) (hn' : n < 4096)
    (hF : ∀ k : Nat, k ≤ n → KFacts l p from_ to_ k) : ∀ (d k : Nat), d = n + 1 - k → k ≤ n + 1 →
    Ev (fun f => clock_Keeps.l0 f drift jit p from_ (((List.range k).map (highS l a b drift p from_)).map encW) (((List.range k).map (lowS l a b drift p from_)).map encW) (posS l from_) (b * 65536) ((n : Int) + 1) k l a b)
      (!risesS (jit * (b * 65536)) (highS l a b drift p from_ 0) ((List.range (n + 1)).map (highS l a b drift p from_)) && !risesS (jit * (b * 65536)) (lowS l a b drift p from_ 0) ((List.range (n + 1)).map (lowS l a b drift p from_))) := by
  obtain ⟨v1, v2, v3, v4, _⟩ := validS_iff.1 hr
  have hS := fun k hk => kfacts_small hr hd hd' (hF k hk)
  have hlim := lim_prod hj hj' v2 v4
  have hls : Small (jit * (b * 65536)) := ⟨Int.le_trans (by decide) hlim.1, Int.le_trans hlim.2 (by decide)⟩
  have hpl : clock_product.f jit (b * 65536) = some ((encW (jit * (b * 65536))).f0, (encW (jit * (b * 65536))).f1) := product_eq hj (by omega) (by omega) (by omega)
  intro d
  induction d with
  | zero =>
    intro k hd hk
    obtain rfl : k = n + 1 := by omega
    have c1 : ¬ (((n + 1 : Nat) : Int) < (n : Int) + 1) := by omega
    clear hlim v1 v2 v3 v4 hj hj' hd hk
    refine Ev.step (f := ?f) (fun f => ?h) ?g
    case h =>
      simp only [clock_Keeps.l0]
      rw [if_neg c1, hpl, Option.bind_some]
    case g =>
      refine Ev.bind (rises_all hls n hn' _ fun k hk => (hS k hk).1) ?_
      cases risesS (jit * (b * 65536)) (highS l a b drift p from_ 0) ((List.range (n + 1)).map (highS l a b drift p from_)) with
      | true => exact Ev.now _
      | false =>
        refine Ev.bind (rises_all hls n hn' _ fun k hk => (hS k hk).2) ?_
        exact Ev.now _
  | succ d ih =>
    intro k hd hk
    have hkn : k ≤ n := by omega
    have hnext := ih (k + 1) (by omega) (by omega)
    have c1 : (k : Int) < (n : Int) + 1 := by omega
    have c2 : k < 8796093022208 := by omega
    have e1 : wrap64 ((k : Int) + 1) = ((k + 1 : Nat) : Int) := by rw [w64 (by omega) (by omega)]; omega
    have hk0 := hF k hkn
    clear ih hlim v1 v2 v3 v4 hj hj' hS
    obtain ⟨q1, q2, q3, q4, q5, q6, q7, q8⟩ := keeps_round (b := b) hr (by assumption) (by assumption) hk0
    rw [List.range_succ, List.map_append, List.map_append, List.map_append, List.map_append] at hnext
    simp only [List.map_cons, List.map_nil] at hnext
    refine Ev.step (f := ?f2) (fun f => ?h2) ?g2
    case h2 =>
      simp only [clock_Keeps.l0]
      rw [if_pos c1, q1, q2, e1, q3, q4, q6, q7]
    case g2 =>
      refine Ev.bind (position_ev hv hk0.at0 hk0.at1) ?_
      rw [q5, q8]
      simp only [Option.bind_some, less_eq, List.length_map, List.length_range, if_pos c2]
      exact hnext
theorem keeps_ev {l : List S61} (hv : vclockS l = true) {a b drift p from_ to_ jit : Int} (hr : validS a b = true) (hd : 0 ≤ drift) (hd' : drift ≤ 4096) (hp : 1 ≤ p) (hf : 0 ≤ from_) (ht : to_ ≤ 1099511627776) (hft : from_ ≤ to_) (hj : 0 ≤ jit) (hj' : jit ≤ 65536) (n : Nat) (hn : (to_ - from_) / p = n) (hn' : n < 4096) :
    ∃ r, Ev (fun k => clock_Keeps.f k l a b drift jit p from_ to_) r ∧ (r = true ↔ steady (jit * (b * 65536)) (highS l a b drift p from_) n ∧ steady (jit * (b * 65536)) (lowS l a b drift p from_) n) := by
  obtain ⟨v1, v2, v3, v4, _⟩ := validS_iff.1 hr
  have hlim := lim_prod hj hj' v2 v4
  refine ⟨!risesS (jit * (b * 65536)) (highS l a b drift p from_ 0) ((List.range (n + 1)).map (highS l a b drift p from_)) && !risesS (jit * (b * 65536)) (lowS l a b drift p from_ 0) ((List.range (n + 1)).map (lowS l a b drift p from_)), ?_, ?g⟩
  case g =>
    rw [Bool.and_eq_true, Bool.not_eq_true', Bool.not_eq_true', risesS_range hlim.1, risesS_range hlim.1]
  · unfold clock_Keeps.f
    have hl := (vclockS_iff.1 hv).2.2
    refine Ev.bind (valid_clock l (by omega)) ?_
    simp only [if_pos hv]
    refine Ev.bind (valid_ev a b) ?_
    simp only [if_pos hr, decide_eq_false (show ¬ drift < 0 by omega)]
    refine Ev.step (f := ?ff) (fun k => ?hh) ?gg
    case hh =>
      rw [clock_Keeps.j0, if_neg (by decide), if_neg (show ¬ drift > 4096 by omega), if_neg (show ¬ jit < 0 by omega), if_neg (show ¬ jit > 65536 by omega), if_neg (show ¬ p < 1 by omega), if_neg (show ¬ from_ < 0 by omega), if_neg (show ¬ to_ > 1099511627776 by omega), if_neg (show ¬ to_ < from_ by omega), if_neg (show ¬ p = 0 by omega),
        w64 (n := to_ - from_) (by omega) (by omega), tdiv_pos (by omega), hn, w64 (n := (n : Int)) (by omega) (by omega), if_neg (show ¬ (n : Int) ≥ 4096 by omega), w64 (n := (n : Int) + 1) (by omega) (by omega), w64 (n := b * 65536) (by omega) (by omega)]
    case gg =>
    refine Ev.bind (position_ev hv hf (by omega)) ?_
    exact keeps_l0 hv hr hd hd' hj hj' n hn' (fun k hk => kfacts hv hp hf ht (by omega)) (n + 1) 0 (by omega) (by omega)
end Go.Proofs.YthnmmiofhjbkeaaX
