/-
  What the printed Bound, Demand and Plan of control compute.
-/
import Derived.Test.YtcnheiemajghiaaPAx4
import Derived.Test.YtcnheiemajghiaaPAx5
import Derived.Test.YtcnheiemajghiaaPAx6
import Derived.Test.YtcnheiemajghiaaYAdjust
import Derived.Test.YtcnheiemajghiaaXGcd
namespace Go.Proofs.YtcnheiemajghiaaX
open Go.RowKit Go.Proofs.Ytcnheiemajghiaa.PA Go.Proofs.YtcnheiemajghiaaW.PrintWords Go.Proofs.YtcnheiemajghiaaW.PrintLast Go.Proofs.YtcnheiemajghiaaW.PrintMore
/-- Possible periods. -/
def possS (p q : Int) : Bool := decide (validS p q = true ∧ q ≤ 768000 ∧ q ≤ p * 64 ∧ p ≤ q * 64 * 8192)
def declS (p q k j : Int) : Bool := decide (possS p q = true ∧ 0 ≤ k ∧ k ≤ 4096 ∧ 0 ≤ j ∧ j ≤ 65536)
theorem possS_iff {p q : Int} : possS p q = true ↔ validS p q = true ∧ q ≤ 768000 ∧ q ≤ p * 64 ∧ p ≤ q * 64 * 8192 := by unfold possS; exact decide_eq_true_iff
theorem declS_iff {p q k j : Int} : declS p q k j = true ↔ possS p q = true ∧ 0 ≤ k ∧ k ≤ 4096 ∧ 0 ≤ j ∧ j ≤ 65536 := by unfold declS; exact decide_eq_true_iff
theorem poss_ev (p q : Int) : Ev (fun k => control_possible.f k p q) (possS p q) := by
  unfold control_possible.f possS
  refine Ev.bind (valid_ev p q) ?_
  by_cases hv : validS p q = true
  · obtain ⟨p1, q1, p2, q2, _⟩ := validS_iff.1 hv
    simp only [hv, if_true, true_and]
    by_cases c : q ≤ 768000
    · rw [if_pos c, w64 (n := p * 64) (by omega) (by omega), w64 (n := q * 64) (by omega) (by omega), w64 (n := q * 64 * 8192) (by omega) (by omega)]
      by_cases c2 : p * 64 ≥ q
      · rw [if_pos c2]
        have : decide (p ≤ q * 64 * 8192) = decide (q ≤ 768000 ∧ q ≤ p * 64 ∧ p ≤ q * 64 * 8192) := by rw [decide_eq_decide]; omega
        rw [this]; exact Ev.now _
      · rw [if_neg c2, decide_eq_false (by omega)]; exact Ev.now _
    · rw [if_neg c, decide_eq_false (by omega)]; exact Ev.now _
  · simp only [if_neg hv]
    rw [decide_eq_false (fun h => hv h.1)]; exact Ev.now _
theorem decl_ev (p q k j : Int) : Ev (fun n => control_declared.f n p q k j) (declS p q k j) := by
  unfold control_declared.f declS
  refine Ev.bind (poss_ev p q) ?_
  by_cases hv : possS p q = true
  · simp only [hv, if_true, true_and]
    by_cases c1 : k ≥ 0
    · by_cases c2 : k ≤ 4096
      · by_cases c3 : j ≥ 0
        · rw [if_pos c1, if_pos c2, if_pos c3]
          have : decide (j ≤ 65536) = decide (0 ≤ k ∧ k ≤ 4096 ∧ 0 ≤ j ∧ j ≤ 65536) := by rw [decide_eq_decide]; omega
          rw [this]; exact Ev.now _
        · rw [if_pos c1, if_pos c2, if_neg c3, decide_eq_false (by omega)]; exact Ev.now _
      · rw [if_pos c1, if_neg c2, decide_eq_false (by omega)]; exact Ev.now _
    · rw [if_neg c1, decide_eq_false (by omega)]; exact Ev.now _
  · simp only [if_neg hv]
    rw [decide_eq_false (fun h => hv h.1)]; exact Ev.now _
/-- A quotient, rounded upwards. -/
def upS (a b : Int) : Int := (a + b - 1) / b
theorem upS_nonneg {a b : Int} (ha : 0 ≤ a) (hb : 1 ≤ b) : 0 ≤ upS a b := Int.ediv_nonneg (by omega) (by omega)
theorem upS_le {a b r : Int} (hb : 1 ≤ b) : upS a b ≤ r ↔ a ≤ r * b := by
  unfold upS
  have := Int.ediv_lt_iff_lt_mul (a := a + b - 1) (b := r + 1) (show 0 < b by omega)
  have e : (r + 1) * b = r * b + b := by rw [Int.add_mul, Int.one_mul]
  omega
theorem upS_ge {a b : Int} (hb : 1 ≤ b) : a ≤ upS a b * b := (upS_le hb).1 (Int.le_refl _)
theorem upS_self {a b : Int} (ha : 0 ≤ a) (hb : 1 ≤ b) : upS a b ≤ a := by
  rw [upS_le hb]
  have := Int.mul_le_mul_of_nonneg_left hb ha
  omega
theorem upS_mono {a b a' b' : Int} (ha : 0 ≤ a') (hb : 1 ≤ b') (h : a ≤ a') (h' : b' ≤ b) : upS a b ≤ upS a' b' := by
  rw [upS_le (by omega)]
  have h1 := upS_ge (a := a') hb
  have h2 := Int.mul_le_mul_of_nonneg_left h' (upS_nonneg ha hb)
  omega
theorem up_some {a b : Int} (ha : 0 ≤ a) (ha' : a ≤ 1152921504606846976) (hb : 1 ≤ b) (hb' : b ≤ 1152921504606846976) : control_up.f a b = some (upS a b) := by
  unfold control_up.f
  rw [if_neg (by omega), w64 (n := a + b) (by omega) (by omega), w64 (n := a + b - 1) (by omega) (by omega), tdiv_pos (by omega)]
  have h0 := upS_nonneg ha hb
  have h1 := upS_self ha hb
  unfold upS at h0 h1 ⊢
  rw [w64 (by omega) (by omega)]
/-- How far a fill wobbles. -/
def wobS (p q n : Int) : Int := upS (2 * n * p) (65536 * q)
theorem wob_some {p q n : Int} (hp : 1 ≤ p) (hp' : p ≤ 68719476736) (hq : 1 ≤ q) (hq' : q ≤ 768000) (hn : 0 ≤ n) (hn' : n ≤ 8192) : control_wobble.f p q n = some (wobS p q n) ∧ 0 ≤ wobS p q n ∧ wobS p q n ≤ 17179869184 := by
  unfold control_wobble.f wobS
  have p0 : 0 ≤ 2 * n * p := Int.mul_nonneg (by omega) (by omega)
  have p1 : 2 * n * p ≤ 16384 * 68719476736 := Int.mul_le_mul (by omega) hp' (by omega) (by omega)
  rw [w64 (n := 2 * n) (by omega) (by omega), w64 (n := 2 * n * p) (by omega) (by omega), w64 (n := 65536 * q) (by omega) (by omega), up_some p0 (by omega) (by omega) (by omega)]
  refine ⟨rfl, upS_nonneg p0 (by omega), ?_⟩
  rw [upS_le (by omega)]
  omega
theorem wobS_mono {p q n n' : Int} (hp : 1 ≤ p) (hq : 1 ≤ q) (hn : 0 ≤ n) (h : n ≤ n') : wobS p q n ≤ wobS p q n' := by
  unfold wobS
  have := Int.mul_le_mul_of_nonneg_right (show 2 * n ≤ 2 * n' by omega) (show 0 ≤ p by omega)
  exact upS_mono (Int.mul_nonneg (by omega) (by omega)) (by omega) this (Int.le_refl _)
def boundS (t d g m p q k j s : Int) : Int × Int :=
  if validC t d g m = true ∧ declS p q k j = true ∧ 0 ≤ s ∧ s ≤ 65536 then
    (if m * (65536 - k) < 65536 * k then (0, 11) else (mx s (d + upS m g) + wobS p q (k + m) + 2 * j + 2, 0))
  else (0, 1)
/-- What is known of all the numbers where nothing is invalid. -/
theorem nums {t d g m p q k j : Int} (hv : validC t d g m = true) (hd : declS p q k j = true) :
    (0 ≤ t ∧ t ≤ 65536 ∧ 0 ≤ d ∧ d ≤ 65536 ∧ 1 ≤ g ∧ g ≤ 4096 ∧ 0 ≤ m ∧ m ≤ 4096) ∧ (1 ≤ p ∧ p ≤ 68719476736 ∧ 1 ≤ q ∧ q ≤ 768000) ∧ 0 ≤ k ∧ k ≤ 4096 ∧ 0 ≤ j ∧ j ≤ 65536 ∧
      control_up.f m g = some (upS m g) ∧ 0 ≤ upS m g ∧ upS m g ≤ 4096 ∧ control_wobble.f p q (k + m) = some (wobS p q (k + m)) ∧ 0 ≤ wobS p q (k + m) ∧ wobS p q (k + m) ≤ 17179869184 := by
  have a := validC_iff.1 hv
  obtain ⟨hp, k0, k1, j0, j1⟩ := declS_iff.1 hd
  obtain ⟨hp, q3, _, _⟩ := possS_iff.1 hp
  obtain ⟨p1, q1, p2, q2, _⟩ := validS_iff.1 hp
  obtain ⟨w1, w2, w3⟩ := wob_some (p := p) (q := q) (n := k + m) p1 p2 q1 q3 (by omega) (by omega)
  have u := upS_self (a := m) (b := g) (by omega) (by omega)
  exact ⟨a, ⟨p1, p2, q1, q3⟩, k0, k1, j0, j1, up_some (by omega) (by omega) (by omega) (by omega), upS_nonneg (by omega) (by omega), by omega, w1, w2, w3⟩
theorem bound_ev (t d g m p q k j s : Int) : Ev (fun n => control_Bound.f n t d g m p q k j s) (boundS t d g m p q k j s) := by
  have no : ¬ (validC t d g m = true ∧ declS p q k j = true ∧ 0 ≤ s ∧ s ≤ 65536) → Ev (fun n => control_Bound.j0 n k j s true t d g m p q) (boundS t d g m p q k j s) := by
    intro h
    unfold boundS; rw [if_neg h]
    refine Ev.step (f := fun _ => some (0, 1)) (fun n => ?_) (Ev.now _)
    simp only [control_Bound.j0]; rw [if_pos trivial]
  unfold control_Bound.f
  rw [cvalid]
  simp only [Option.bind_some]
  by_cases hv : validC t d g m = true
  · simp only [if_pos hv]
    refine Ev.bind (decl_ev p q k j) ?_
    by_cases hd : declS p q k j = true
    · simp only [if_pos hd]
      by_cases c1 : s < 0
      · simp only [if_pos c1, decide_eq_true c1]; exact no (by omega)
      · simp only [if_neg c1]
        by_cases c2 : s > 65536
        · rw [decide_eq_true c2]; exact no (by omega)
        · rw [decide_eq_false c2]
          obtain ⟨⟨t0, t1, d0, d1, g0, g1, m0, m1⟩, ⟨p0, p1, q0, q1⟩, k0, k1, j0, j1, eu, u0, u1, ew, w0, w1⟩ := nums hv hd
          unfold boundS; rw [if_pos ⟨hv, hd, by omega, by omega⟩]
          refine Ev.step (f := fun n => _) (fun n => by simp only [control_Bound.j0]; rw [if_neg (by decide)]) ?_
          have pm0 : 0 ≤ m * (65536 - k) := Int.mul_nonneg m0 (by omega)
          have pm1 : m * (65536 - k) ≤ 4096 * 65536 := Int.mul_le_mul m1 (by omega) (by omega) (by omega)
          rw [w64 (n := 65536 - k) (by omega) (by omega), w64 (n := m * (65536 - k)) (by omega) (by omega), w64 (n := 65536 * k) (by omega) (by omega), w64 (n := k + m) (by omega) (by omega)]
          by_cases c3 : m * (65536 - k) < 65536 * k
          · rw [if_pos c3, if_pos c3]; exact Ev.now _
          · rw [if_neg c3, if_neg c3, eu, ew]
            simp only [Option.bind_some]
            rw [w64 (n := d + upS m g) (by omega) (by omega)]
            have x0 : 0 ≤ mx s (d + upS m g) ∧ mx s (d + upS m g) ≤ 131072 := by unfold mx; split <;> omega
            rw [w64 (n := 2 * j) (by omega) (by omega), w64 (n := mx s (d + upS m g) + wobS p q (k + m)) (by omega) (by omega), w64 (n := mx s (d + upS m g) + wobS p q (k + m) + 2 * j) (by omega) (by omega), w64 (by omega) (by omega)]
            exact Ev.now _
    · simp only [Bool.not_eq_true] at hd
      simp only [hd]
      exact no (fun h => by rw [hd] at h; exact absurd h.2.1 (by decide))
  · simp only [Bool.not_eq_true] at hv
    simp only [hv]
    exact no (fun h => by rw [hv] at h; exact absurd h.1 (by decide))
def demandS (t d g m p q k j : Int) : Int × Int :=
  if (boundS t d g m p q k j 0).2 = 0 then (upS p q + wobS p q (k + m) + 2 * j + 3, 0) else (0, (boundS t d g m p q k j 0).2)
theorem boundS_ok {t d g m p q k j s : Int} (h : (boundS t d g m p q k j s).2 = 0) : validC t d g m = true ∧ declS p q k j = true ∧ (0 ≤ s ∧ s ≤ 65536) ∧ 65536 * k ≤ m * (65536 - k) ∧ (boundS t d g m p q k j s).1 = mx s (d + upS m g) + wobS p q (k + m) + 2 * j + 2 := by
  unfold boundS at h ⊢
  by_cases c : validC t d g m = true ∧ declS p q k j = true ∧ 0 ≤ s ∧ s ≤ 65536
  · rw [if_pos c] at h ⊢
    by_cases c2 : m * (65536 - k) < 65536 * k
    · rw [if_pos c2] at h; exact absurd h (by decide)
    · rw [if_neg c2]; exact ⟨c.1, c.2.1, c.2.2, by omega, rfl⟩
  · rw [if_neg c] at h; exact absurd h (by decide)
theorem demand_ev (t d g m p q k j : Int) : Ev (fun n => control_Demand.f n t d g m p q k j) (demandS t d g m p q k j) := by
  unfold control_Demand.f demandS
  refine Ev.bind (bound_ev t d g m p q k j 0) ?_
  by_cases c : (boundS t d g m p q k j 0).2 = 0
  · obtain ⟨hv, hd, _, _, _⟩ := boundS_ok c
    obtain ⟨⟨t0, t1, d0, d1, g0, g1, m0, m1⟩, ⟨p0, p1, q0, q1⟩, k0, k1, j0, j1, eu, u0, u1, ew, w0, w1⟩ := nums hv hd
    have u := upS_self (a := p) (b := q) (by omega) (by omega)
    have u' := upS_nonneg (a := p) (b := q) (by omega) (by omega)
    rw [if_pos c, if_pos c, up_some (by omega) (by omega) (by omega) (by omega), w64 (n := k + m) (by omega) (by omega), ew]
    simp only [Option.bind_some]
    rw [w64 (n := 2 * j) (by omega) (by omega), w64 (n := upS p q + wobS p q (k + m)) (by omega) (by omega), w64 (n := upS p q + wobS p q (k + m) + 2 * j) (by omega) (by omega), w64 (by omega) (by omega)]
    exact Ev.now _
  · rw [if_neg c, if_neg c]; exact Ev.now _
/-- The adjustment that a drift needs. -/
def mostS (k : Int) : Int := upS (65536 * k) (65536 - k)
def planS (p q k j d g : Int) : Int × Int × Int × Int × Int × Int :=
  if declS p q k j = true ∧ 0 ≤ d ∧ d ≤ 65536 ∧ 1 ≤ g ∧ g ≤ 4096 then
    (if mostS k > 4096 then (0, 0, 0, 0, 0, 2) else
      if (boundS 0 d g (mostS k) p q k j (wobS p q k + j + 1)).2 = 0 ∧ (demandS 0 d g (mostS k) p q k j).2 = 0 ∧
          (demandS 0 d g (mostS k) p q k j).1 + (boundS 0 d g (mostS k) p q k j (wobS p q k + j + 1)).1 + (boundS 0 d g (mostS k) p q k j (wobS p q k + j + 1)).1 ≤ 65536 then
        ((demandS 0 d g (mostS k) p q k j).1 + (boundS 0 d g (mostS k) p q k j (wobS p q k + j + 1)).1, d, g, mostS k,
          (demandS 0 d g (mostS k) p q k j).1 + (boundS 0 d g (mostS k) p q k j (wobS p q k + j + 1)).1 + (boundS 0 d g (mostS k) p q k j (wobS p q k + j + 1)).1, 0)
      else (0, 0, 0, 0, 0, 3))
  else (0, 0, 0, 0, 0, 1)
/-- Bounds and demands are small. -/
theorem boundS_in (t d g m p q k j s : Int) : 0 ≤ (boundS t d g m p q k j s).1 ∧ (boundS t d g m p q k j s).1 ≤ 34359738368 := by
  unfold boundS
  split
  · rename_i h
    obtain ⟨hv, hd, s0, s1⟩ := h
    obtain ⟨⟨t0, t1, d0, d1, g0, g1, m0, m1⟩, ⟨p0, p1, q0, q1⟩, k0, k1, j0, j1, eu, u0, u1, ew, w0, w1⟩ := nums hv hd
    split
    · exact ⟨Int.le_refl _, by decide⟩
    · have x0 : 0 ≤ mx s (d + upS m g) ∧ mx s (d + upS m g) ≤ 131072 := by unfold mx; split <;> omega
      dsimp only
      omega
  · exact ⟨Int.le_refl _, by decide⟩
theorem demandS_in (t d g m p q k j : Int) : 0 ≤ (demandS t d g m p q k j).1 ∧ (demandS t d g m p q k j).1 ≤ 137438953472 := by
  unfold demandS
  split
  · rename_i c
    obtain ⟨hv, hd, _, _, _⟩ := boundS_ok c
    obtain ⟨⟨t0, t1, d0, d1, g0, g1, m0, m1⟩, ⟨p0, p1, q0, q1⟩, k0, k1, j0, j1, eu, u0, u1, ew, w0, w1⟩ := nums hv hd
    have u := upS_self (a := p) (b := q) (by omega) (by omega)
    have u' := upS_nonneg (a := p) (b := q) (by omega) (by omega)
    dsimp only
    omega
  · exact ⟨Int.le_refl _, show (0 : Int) ≤ 137438953472 by decide⟩
theorem plan_ev (p q k j d g : Int) : Ev (fun n => control_Plan.f n p q k j d g) (planS p q k j d g) := by
  have no : ¬ (declS p q k j = true ∧ 0 ≤ d ∧ d ≤ 65536 ∧ 1 ≤ g ∧ g ≤ 4096) → Ev (fun n => control_Plan.j0 n k j d g true p q) (planS p q k j d g) := by
    intro h
    unfold planS; rw [if_neg h]
    refine Ev.step (f := fun _ => some (0, 0, 0, 0, 0, 1)) (fun n => ?_) (Ev.now _)
    simp only [control_Plan.j0]; rw [if_pos trivial]
  unfold control_Plan.f
  refine Ev.bind (decl_ev p q k j) ?_
  by_cases hd : declS p q k j = true
  · simp only [if_pos hd]
    by_cases c1 : d < 0
    · simp only [if_pos c1]; exact no (by omega)
    · simp only [if_neg c1]
      by_cases c2 : d > 65536
      · simp only [if_pos c2]; exact no (by omega)
      · simp only [if_neg c2]
        by_cases c3 : g < 1
        · simp only [if_pos c3]; exact no (by omega)
        · simp only [if_neg c3]
          by_cases c4 : g > 4096
          · rw [decide_eq_true c4]; exact no (by omega)
          · rw [decide_eq_false c4]
            obtain ⟨hp, k0, k1, j0, j1⟩ := declS_iff.1 hd
            obtain ⟨hp, q3, _, _⟩ := possS_iff.1 hp
            obtain ⟨p1, q1, p2, q2, _⟩ := validS_iff.1 hp
            unfold planS; rw [if_pos ⟨hd, by omega, by omega, by omega, by omega⟩]
            refine Ev.step (f := fun n => _) (fun n => by simp only [control_Plan.j0]; rw [if_neg (by decide)]) ?_
            rw [w64 (n := 65536 * k) (by omega) (by omega), w64 (n := 65536 - k) (by omega) (by omega), up_some (by omega) (by omega) (by omega) (by omega)]
            simp only [Option.bind_some]
            change Ev (fun n => if mostS k > 4096 then _ else _) _
            by_cases c5 : mostS k > 4096
            · simp only [if_pos c5]; exact Ev.now _
            · obtain ⟨w1, w2, w3⟩ := wob_some (p := p) (q := q) (n := k) p1 p2 q1 q3 (by omega) (by omega)
              simp only [if_neg c5]
              rw [w1]
              simp only [Option.bind_some]
              rw [w64 (n := wobS p q k + j) (by omega) (by omega), w64 (n := wobS p q k + j + 1) (by omega) (by omega)]
              refine Ev.bind (bound_ev 0 d g (mostS k) p q k j (wobS p q k + j + 1)) (Ev.bind (demand_ev 0 d g (mostS k) p q k j) ?_)
              obtain ⟨b0, b1⟩ := boundS_in 0 d g (mostS k) p q k j (wobS p q k + j + 1)
              obtain ⟨e0, e1⟩ := demandS_in 0 d g (mostS k) p q k j
              generalize boundS 0 d g (mostS k) p q k j (wobS p q k + j + 1) = B at *
              generalize demandS 0 d g (mostS k) p q k j = D at *
              rw [w64 (n := D.1 + B.1) (by omega) (by omega), w64 (n := D.1 + B.1 + B.1) (by omega) (by omega)]
              by_cases c6 : B.2 = 0
              · by_cases c7 : D.2 = 0
                · by_cases c8 : D.1 + B.1 + B.1 > 65536
                  · rw [if_pos c6, if_pos c7, if_pos c8, if_neg (by omega)]; exact Ev.now _
                  · rw [if_pos c6, if_pos c7, if_neg c8, if_pos ⟨c6, c7, by omega⟩]; exact Ev.now _
                · rw [if_pos c6, if_neg c7, if_neg (fun h => c7 h.2.1)]; exact Ev.now _
              · rw [if_neg c6, if_neg (fun h => c6 h.1)]; exact Ev.now _
  · simp only [if_neg hd]
    exact no (fun h => hd h.1)
end Go.Proofs.YtcnheiemajghiaaX
