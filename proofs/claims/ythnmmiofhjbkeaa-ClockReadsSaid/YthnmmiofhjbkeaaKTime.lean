/-
  The time of a frame: what the printed function computes; it is the first time at which so many frames have been counted.
-/
import Derived.Test.YthnmmiofhjbkeaaPAx10
import Derived.Test.YthnmmiofhjbkeaaPAx8
import Derived.Test.YthnmmiofhjbkeaaPAx9
import Derived.Test.YthnmmiofhjbkeaaKPos
namespace Go.Proofs.YthnmmiofhjbkeaaX
open Go.RowKit Go.Proofs.Ythnmmiofhjbkeaa.PA Go.Proofs.YthnmmiofhjbkeaaW.PrintWords Go.Proofs.YthnmmiofhjbkeaaW.PrintLast Go.Proofs.YthnmmiofhjbkeaaW.PrintMore

/-- A quotient rounded upwards. -/
theorem up_ge {p y : Int} (hy : 1 ≤ y) : p ≤ -(-p / y) * y := by
  have h1 := Int.ediv_mul_add_emod (-p) y
  have h2 := Int.emod_nonneg (-p) (show y ≠ 0 by omega)
  rw [Int.neg_mul]
  omega
theorem up_lt {p y : Int} (hy : 1 ≤ y) : (-(-p / y) - 1) * y < p := by
  have h1 := Int.ediv_mul_add_emod (-p) y
  have h3 := Int.emod_lt_of_pos (-p) (show 0 < y by omega)
  rw [Int.sub_mul, Int.neg_mul, Int.one_mul]
  omega
theorem up_le {p y n : Int} (hy : 1 ≤ y) : -(-p / y) ≤ n ↔ p ≤ n * y := by
  have := Int.le_ediv_iff_mul_le (a := -n) (b := -p) (show 0 < y by omega)
  have e : -n * y = -(n * y) := Int.neg_mul _ _
  omega
def timeS (f : Int) (p : Pc) : Option Int := if atS p p.un < f then none else some (p.fr + mx 0 (-(-(f - p.be) * p.de / p.nu)))
theorem usualS_swap {a b : Int} (h : usualS a b = true) : usualS b a = true := by
  obtain ⟨h1, h2, h3⟩ := usualS_iff.1 h
  exact usualS_iff.2 ⟨by rw [validS_swap]; exact h1, h3, h2⟩
theorem timeone_ev {p : Pc} (h : PcOk p) {f : Int} (h0 : 0 ≤ f) : Ev (fun k => clock_TimeOf.one k f p) (timeS f p) := by
  have hu := h.un
  have hu1 := h.un1
  have h2 := h.fr0
  have hb0 := h.be0
  have hb1 := h.be1
  unfold clock_TimeOf.one timeS
  refine Ev.bind (at_ok h (by omega) h.un1) ?_
  by_cases c : atS p p.un < f
  · simp only [if_pos c]
    exact Ev.now _
  · simp only [if_neg c]
    have hq := usual_quot h.rate (show 0 ≤ p.un - p.fr by omega)
    have hf : f ≤ 1125899906842624 := by unfold atS at c; omega
    refine Ev.bind (inv_ev _ _) ?_
    have hi : invS p.nu p.de = (p.de, p.nu, 0) := by unfold invS; rw [if_pos (usualS_iff.1 h.rate).1]
    rw [hi]
    simp only
    rw [w64 (n := f - p.be) (by omega) (by omega)]
    refine Ev.bind (ceil_ev _ _ _) ?_
    have hs := usualS_swap h.rate
    have hr : -1152921504606846976 ≤ -(-(f - p.be) * p.de / p.nu) ∧ -(-(f - p.be) * p.de / p.nu) ≤ 1152921504606846976 := by
      by_cases c : 0 ≤ -(f - p.be)
      · have := usual_quot hs c; omega
      · have := usual_quot_neg hs (show -(f - p.be) ≤ 0 by omega); omega
    rw [ceilS_ok (usualS_iff.1 hs).1 (by omega) (by omega) ⟨by omega, by omega⟩]
    simp only
    have hm : 0 ≤ mx 0 (-(-(f - p.be) * p.de / p.nu)) ∧ mx 0 (-(-(f - p.be) * p.de / p.nu)) ≤ 1152921504606846976 := by unfold mx; split <;> omega
    rw [w64 (by omega) (by omega)]
    exact Ev.now _
def timeofS (l : List S61) (f : Int) : Int × Int := clock_TimeOf.first ((cutS l 0).map (timeS f))
theorem timeof_ev {l : List S61} (h : vclockS l = true) (f : Int) : Ev (fun k => clock_TimeOf.f k l f) (if f < 0 then (0, 2) else timeofS l f) := by
  obtain ⟨hg, n1, n2⟩ := vclockS_iff.1 h
  unfold clock_TimeOf.f timeofS
  refine Ev.bind (valid_clock l (by omega)) ?_
  simp only [if_pos h]
  by_cases c : f < 0
  · simp only [if_pos c]
    exact Ev.now _
  · simp only [if_neg c, if_pos (show l.length ≤ 9223372036854775806 by omega)]
    refine Ev.bind (cut_clock hg) (Ev.bind (evs_ev (fun p hp => timeone_ev (clock_ok hg p hp) (by omega))) ?_)
    exact Ev.now _
/-- At its first time it is what it began with. -/
theorem posR_begin {l : List S61} {q b : Int} (hg : goodS (some q) l = true) : posR l b (clock_position.till l) = b := by
  cases l with
  | nil => rfl
  | cons s r =>
    obtain ⟨h1, h2, _, h4, h5⟩ := goodS_cons.1 hg
    obtain ⟨t1, t2⟩ := till_good h5 h2
    show posR (s :: r) b s.f0 = b
    simp only [posR]
    have hlt : s.f0 < clock_position.till r ∨ r = [] := by
      cases r with
      | nil => exact .inr rfl
      | cons s' r' =>
        obtain ⟨_, _, _, h4', _⟩ := goodS_cons.1 h5
        exact .inl (h4' _ rfl)
    rw [if_pos hlt]
    have : mn s.f0 (clock_position.till r) = s.f0 := by unfold mn; split <;> omega
    rw [this]
    simp
theorem first_spec (f : Int) : ∀ (l : List S61) (q b : Int), l ≠ [] → goodS (some q) l = true → -1 ≤ q → 0 ≤ b → b ≤ clock_position.till l * 1024 →
    (clock_TimeOf.first ((cutS l b).map (timeS f)) = (0, 13) ∧ posR l b 1099511627776 < f) ∨
    (∃ v, clock_TimeOf.first ((cutS l b).map (timeS f)) = (v, 0) ∧ clock_position.till l ≤ v ∧ v ≤ 1099511627776 ∧ f ≤ posR l b v ∧ (clock_position.till l < v → posR l b (v - 1) < f))
 | [], _, _, h, _, _, _, _ => absurd rfl h
 | s :: r, q, b, _, hg, hq, hb, hb' => by
  obtain ⟨h1, h2, _, h4, h5⟩ := goodS_cons.1 hg
  obtain ⟨t1, t2⟩ := till_good h5 h2
  obtain ⟨v1, v2, _⟩ := usual_bounds h1
  have hqs := h4 q rfl
  simp only [clock_position.till] at hb' ⊢
  simp only [cutS, List.map_cons]
  generalize hb2 : b + (clock_position.till r - s.f0) * s.f1.f0 / s.f1.f1 = b2
  have hat : atS ⟨s.f0, s.f1.f0, s.f1.f1, clock_position.till r, b⟩ (clock_position.till r) = b2 := hb2
  have hn := usual_quot h1 (show 0 ≤ clock_position.till r - s.f0 by omega)
  unfold timeS
  simp only [hat]
  by_cases c : b2 < f
  · rw [if_pos c]
    simp only [clock_TimeOf.first]
    cases r with
    | nil =>
      refine .inl ⟨rfl, ?_⟩
      simp only [posR, clock_position.till] at hb2 ⊢
      rw [if_pos (Or.inr trivial)]
      have : mn (1099511627776 : Int) 1099511627776 = 1099511627776 := rfl
      rw [this, hb2]
      exact c
    | cons s' r' =>
      have hstep : ∀ t, clock_position.till (s' :: r') ≤ t → posR (s :: s' :: r') b t = posR (s' :: r') b2 t := fun t ht => by
        conv => lhs; unfold posR
        rw [if_neg (by rintro (h | h); omega; cases h), hb2]
      rcases first_spec f (s' :: r') s.f0 b2 (by simp) h5 (by omega) (by omega) (by omega) with ⟨e, hp⟩ | ⟨v, e, w1, w2, w3, w4⟩
      · refine .inl ⟨e, ?_⟩
        rw [hstep _ t2]
        exact hp
      · have hv : clock_position.till (s' :: r') < v := by
          rcases Int.lt_or_eq_of_le w1 with h | h
          · exact h
          · rw [← h, posR_begin h5] at w3
            omega
        refine .inr ⟨v, e, by omega, w2, by rw [hstep _ w1]; exact w3, fun _ => ?_⟩
        rw [hstep _ (by omega)]
        exact w4 hv
  · rw [if_neg c]
    simp only [clock_TimeOf.first]
    generalize hcc : -(-(f - b) * s.f1.f1 / s.f1.f0) = cc
    have hp : -(f - b) * s.f1.f1 = -((f - b) * s.f1.f1) := Int.neg_mul _ _
    have g1 : (f - b) * s.f1.f1 ≤ cc * s.f1.f0 := by rw [← hcc, hp]; exact up_ge v1
    have g2 : (cc - 1) * s.f1.f0 < (f - b) * s.f1.f1 := by rw [← hcc, hp]; exact up_lt v1
    have g3 : cc ≤ clock_position.till r - s.f0 := by
      rw [← hcc, hp, up_le v1]
      have : f - b ≤ (clock_position.till r - s.f0) * s.f1.f0 / s.f1.f1 := by omega
      exact (Int.le_ediv_iff_mul_le (by omega)).1 this
    have hfirst : ∀ t, s.f0 ≤ t → t < clock_position.till r ∨ r = [] ∧ t ≤ clock_position.till r → posR (s :: r) b t = b + (t - s.f0) * s.f1.f0 / s.f1.f1 := fun t _ h => by
      simp only [posR]
      rw [if_pos (by rcases h with h | h; exact .inl h; exact .inr h.1)]
      have : mn t (clock_position.till r) = t := by unfold mn; split <;> omega
      rw [this]
    have hlt : s.f0 < clock_position.till r ∨ r = [] := by
      cases r with
      | nil => exact .inr rfl
      | cons s' r' =>
        obtain ⟨_, _, _, h4', _⟩ := goodS_cons.1 h5
        exact .inl (h4' _ rfl)
    refine .inr ⟨s.f0 + mx 0 cc, rfl, ?_, ?_, ?_, ?_⟩
    · unfold mx; split <;> omega
    · unfold mx; split <;> omega
    · by_cases hc0 : 0 < cc
      · have e : mx 0 cc = cc := by unfold mx; rw [if_pos hc0]
        rw [e]
        by_cases hend : s.f0 + cc < clock_position.till r ∨ r = []
        · rw [hfirst _ (by omega) (by rcases hend with h | h; exact .inl h; exact .inr ⟨h, by omega⟩)]
          have : f - b ≤ (s.f0 + cc - s.f0) * s.f1.f0 / s.f1.f1 := by
            rw [Int.le_ediv_iff_mul_le (by omega), show s.f0 + cc - s.f0 = cc by omega]
            exact g1
          omega
        · simp only [not_or, Int.not_lt] at hend
          have e2 : s.f0 + cc = clock_position.till r := by omega
          simp only [posR]
          rw [if_neg (by rintro (h | h); omega; exact hend.2 h), hb2, e2, posR_begin h5]
          omega
      · have e : mx 0 cc = 0 := by unfold mx; rw [if_neg hc0]
        rw [e, Int.add_zero, hfirst _ (Int.le_refl _) (by rcases hlt with h | h; exact .inl h; exact .inr ⟨h, t1⟩)]
        have hfb : f ≤ b := by
          rcases Int.lt_or_le b f with h | h
          · have := Int.mul_pos (show 0 < f - b by omega) (show 0 < s.f1.f1 by omega)
            have := Int.mul_le_mul_of_nonneg_right (show cc ≤ 0 by omega) (show 0 ≤ s.f1.f0 by omega)
            omega
          · exact h
        simp
        exact hfb
    · intro hv
      have hc0 : 0 < cc := by
        unfold mx at hv
        split at hv <;> omega
      have e : mx 0 cc = cc := by unfold mx; rw [if_pos hc0]
      rw [e, hfirst _ (by omega) (by left; omega)]
      have : (s.f0 + cc - 1 - s.f0) * s.f1.f0 / s.f1.f1 < f - b := by
        rw [show s.f0 + cc - 1 - s.f0 = cc - 1 by omega]
        exact Int.ediv_lt_of_lt_mul (by omega) g2
      omega
theorem timeof_spec {l : List S61} (h : vclockS l = true) (f : Int) :
    (timeofS l f = (0, 13) ∧ posS l 1099511627776 < f) ∨ (∃ v, timeofS l f = (v, 0) ∧ 0 ≤ v ∧ v ≤ 1099511627776 ∧ f ≤ posS l v ∧ (0 < v → posS l (v - 1) < f)) := by
  obtain ⟨hg, n1, n2⟩ := vclockS_iff.1 h
  have hl : l ≠ [] := by rintro rfl; simp at n1
  have ht : clock_position.till l = 0 := by
    cases l with
    | nil => exact absurd rfl hl
    | cons s r =>
      obtain ⟨_, _, h3, _⟩ := goodS_cons.1 hg
      exact h3 rfl
  have := first_spec f l (-1) 0 hl (goodS_first hg) (Int.le_refl _) (Int.le_refl _) (till_first hg)
  rw [ht] at this
  rcases this with ⟨e, hp⟩ | ⟨v, e, w1, w2, w3, w4⟩
  · exact .inl ⟨e, by rw [posS_eq h (by decide)]; exact hp⟩
  · exact .inr ⟨v, e, w1, w2, by rw [posS_eq h w1]; exact w3, fun hv => by rw [posS_eq h (by omega)]; exact w4 hv⟩
end Go.Proofs.YthnmmiofhjbkeaaX
