/-
  Positions of a valid clock: what the printed functions compute, and a closed form.
-/
import Derived.Test.YthnmmiofhjbkeaaPAx10
import Derived.Test.YthnmmiofhjbkeaaPAx2
import Derived.Test.YthnmmiofhjbkeaaPAx8
import Derived.Test.YthnmmiofhjbkeaaPAx9
import Derived.Test.YthnmmiofhjbkeaaKClock
namespace Go.Proofs.YthnmmiofhjbkeaaX
open Go.RowKit Go.Proofs.Ythnmmiofhjbkeaa.PA Go.Proofs.YthnmmiofhjbkeaaW.PrintWords Go.Proofs.YthnmmiofhjbkeaaW.PrintLast Go.Proofs.YthnmmiofhjbkeaaW.PrintMore

theorem goodS_first {l : List S61} (h : goodS none l = true) : goodS (some (-1)) l = true := by
  cases l with
  | nil => rfl
  | cons s r =>
    obtain ⟨h1, h2, h3, _, h5⟩ := goodS_cons.1 h
    have := h3 rfl
    exact goodS_cons.2 ⟨h1, h2, fun e => by (cases e), fun q e => by cases e; omega, h5⟩
theorem till_first {l : List S61} (h : goodS none l = true) : 0 ≤ clock_position.till l * 1024 := by
  cases l with
  | nil => simp only [clock_position.till]; omega
  | cons s r =>
    obtain ⟨_, _, h3, _⟩ := goodS_cons.1 h
    have := h3 rfl
    simp only [clock_position.till]
    omega
theorem cut_clock {l : List S61} (h : goodS none l = true) : Ev (fun k => clock_position.cut k l 0) (cutS l 0) :=
  cut_ev l (-1) 0 (goodS_first h) (Int.le_refl _) (Int.le_refl _) (till_first h)
/-- What holds of each piece. -/
structure PcOk (p : Pc) : Prop where
  rate : usualS p.nu p.de = true
  fr0 : 0 ≤ p.fr
  un : p.fr ≤ p.un
  un1 : p.un ≤ 1099511627776
  be0 : 0 ≤ p.be
  be1 : p.be ≤ p.fr * 1024
theorem cutS_ok : ∀ (l : List S61) (q b : Int), goodS (some q) l = true → -1 ≤ q → 0 ≤ b → b ≤ clock_position.till l * 1024 → ∀ p ∈ cutS l b, PcOk p
 | [], _, _, _, _, _, _ => fun p hp => by cases hp
 | s :: r, q, b, hg, hq, hb, hb' => fun p hp => by
  obtain ⟨h1, h2, _, h4, h5⟩ := goodS_cons.1 hg
  have hqs := h4 q rfl
  obtain ⟨t1, t2⟩ := till_good h5 h2
  simp only [clock_position.till] at hb'
  have hn := usual_quot h1 (show 0 ≤ clock_position.till r - s.f0 by omega)
  rcases List.mem_cons.1 hp with rfl | hp
  · exact ⟨h1, by simp only; omega, t1, t2, hb, hb'⟩
  · exact cutS_ok r s.f0 _ h5 (by omega) (by omega) (by omega) p hp
theorem clock_ok {l : List S61} (h : goodS none l = true) : ∀ p ∈ cutS l 0, PcOk p :=
  cutS_ok l (-1) 0 (goodS_first h) (Int.le_refl _) (Int.le_refl _) (till_first h)
theorem evs_ev {β : Type} {g : Nat → Pc → Option β} {h : Pc → β} : ∀ {ps : List Pc}, (∀ p ∈ ps, Ev (fun k => g k p) (h p)) → Ev (fun k => clock_position.evs (g k) ps) (ps.map h)
 | [], _ => Ev.now _
 | p :: ps, hp => by
  simp only [clock_position.evs, List.map_cons]
  refine Ev.bind (hp p List.mem_cons_self) (Ev.bind (evs_ev (fun q hq => hp q (List.mem_cons_of_mem _ hq))) ?_)
  exact Ev.now _
/-- Where the clock is at a time, in a piece. -/
def atS (p : Pc) (t : Int) : Int := p.be + (t - p.fr) * p.nu / p.de
theorem at_ok {p : Pc} (h : PcOk p) {t : Int} (h0 : 0 ≤ t) (h1 : t ≤ 1099511627776) : Ev (fun k => p.at k t) (atS p t) := by
  have := h.un
  have := h.un1
  have := h.fr0
  have := h.be1
  exact at_ev h.rate t (by omega) (by omega) h.be0 (by omega)
def oneS (t : Int) (p : Pc) : Option Int := if p.fr > t then none else some (atS p (mn t p.un))
theorem one_ev {p : Pc} (h : PcOk p) {t : Int} (h0 : 0 ≤ t) (h1 : t ≤ 1099511627776) : Ev (fun k => clock_position.one k t p) (oneS t p) := by
  unfold clock_position.one oneS
  by_cases c : p.fr > t
  · simp only [if_pos c]
    exact Ev.now _
  · simp only [if_neg c]
    have := h.un
    have := h.un1
    have := h.fr0
    have hm : 0 ≤ mn t p.un ∧ mn t p.un ≤ 1099511627776 := by unfold mn; split <;> omega
    refine Ev.bind (at_ok h hm.1 hm.2) ?_
    exact Ev.now _
/-- The position of a clock. -/
def posS (l : List S61) (t : Int) : Int := clock_position.upto ((cutS l 0).map (oneS t)) 0
theorem position_ev {l : List S61} (h : vclockS l = true) {t : Int} (h0 : 0 ≤ t) (h1 : t ≤ 1099511627776) : Ev (fun k => clock_position.f k l t) (posS l t) := by
  obtain ⟨hg, n1, n2⟩ := vclockS_iff.1 h
  unfold clock_position.f posS
  simp only [if_pos (show l.length ≤ 9223372036854775806 by omega)]
  refine Ev.bind (cut_clock hg) (Ev.bind (evs_ev (fun p hp => one_ev (clock_ok hg p hp) h0 h1)) ?_)
  exact Ev.now _
theorem Position_ev {l : List S61} (h : vclockS l = true) {t : Int} (h0 : 0 ≤ t) (h1 : t ≤ 1099511627776) : Ev (fun k => clock_Position.f k l t) (posS l t, 0) := by
  obtain ⟨hg, n1, n2⟩ := vclockS_iff.1 h
  unfold clock_Position.f
  refine Ev.bind (valid_clock l (by omega)) ?_
  simp only [if_pos h, if_neg (show ¬ t < 0 by omega), if_neg (show ¬ t > 1099511627776 by omega)]
  refine Ev.bind (position_ev h h0 h1) ?_
  exact Ev.now _

/-! A closed form -/
/-- The position at a time of a clock that begins with b frames. -/
def posR : List S61 → Int → Int → Int
 | [], b, _ => b
 | s :: r, b, t => if t < clock_position.till r ∨ r = [] then b + (mn t (clock_position.till r) - s.f0) * s.f1.f0 / s.f1.f1 else posR r (b + (clock_position.till r - s.f0) * s.f1.f0 / s.f1.f1) t
theorem upto_posR : ∀ (l : List S61) (b n t : Int), l ≠ [] → clock_position.till l ≤ t → clock_position.upto ((cutS l b).map (oneS t)) n = posR l b t
 | [], _, _, _, h, _ => absurd rfl h
 | s :: r, b, n, t, _, ht => by
  simp only [clock_position.till] at ht
  simp only [cutS, List.map_cons, posR]
  rw [show oneS t ⟨s.f0, s.f1.f0, s.f1.f1, clock_position.till r, b⟩ = some (b + (mn t (clock_position.till r) - s.f0) * s.f1.f0 / s.f1.f1) by unfold oneS atS; rw [if_neg (by simp only; omega)]]
  simp only [clock_position.upto]
  cases r with
  | nil => rw [if_pos (Or.inr rfl)]; rfl
  | cons s' r' =>
    by_cases c : t < clock_position.till (s' :: r')
    · rw [if_pos (Or.inl c)]
      simp only [clock_position.till] at c ⊢
      simp only [cutS, List.map_cons]
      rw [show oneS t ⟨s'.f0, s'.f1.f0, s'.f1.f1, clock_position.till r', b + (s'.f0 - s.f0) * s.f1.f0 / s.f1.f1⟩ = none by unfold oneS; rw [if_pos (by simp only; omega)]]
      rfl
    · rw [if_neg (by rintro (h | h); exact c h; cases h)]
      have hm : mn t (clock_position.till (s' :: r')) = clock_position.till (s' :: r') := by unfold mn; split <;> omega
      rw [upto_posR (s' :: r') _ _ t (by simp) (by omega)]
theorem posS_eq {l : List S61} (h : vclockS l = true) {t : Int} (h0 : 0 ≤ t) : posS l t = posR l 0 t := by
  obtain ⟨hg, n1, n2⟩ := vclockS_iff.1 h
  cases l with
  | nil => simp at n1
  | cons s r =>
    obtain ⟨_, _, h3, _⟩ := goodS_cons.1 hg
    exact upto_posR _ 0 0 t (by simp) (by simp only [clock_position.till]; have := h3 rfl; omega)
/-- One segment. -/
theorem posR_one (a b t : Int) (ht : t ≤ 1099511627776) : posR [⟨0, ⟨a, b⟩⟩] 0 t = t * a / b := by
  simp only [posR, clock_position.till]
  rw [if_pos (Or.inr trivial)]
  have : mn t 1099511627776 = t := by unfold mn; split <;> omega
  rw [this]
  simp
/-- Two segments. -/
theorem posR_two (a b u c d t : Int) (ht : t ≤ 1099511627776) : posR [⟨0, ⟨a, b⟩⟩, ⟨u, ⟨c, d⟩⟩] 0 t = if t < u then t * a / b else u * a / b + (t - u) * c / d := by
  have e : mn t 1099511627776 = t := by unfold mn; split <;> omega
  by_cases h : t < u
  · have e2 : mn t u = t := by unfold mn; split <;> omega
    simp [posR, clock_position.till, h, e2]
  · simp [posR, clock_position.till, h, e]
theorem div_mono {x y d : Int} (h : x ≤ y) (hd : 0 < d) : x / d ≤ y / d := Int.ediv_le_ediv hd h
theorem quot_mono {x y a d : Int} (h : x ≤ y) (ha : 0 ≤ a) (hd : 0 < d) : x * a / d ≤ y * a / d := div_mono (Int.mul_le_mul_of_nonneg_right h ha) hd
/-- It is at least what it began with. -/
theorem posR_ge : ∀ (l : List S61) (q b t : Int), goodS (some q) l = true → clock_position.till l ≤ t → b ≤ posR l b t
 | [], _, _, _, _, _ => Int.le_refl _
 | s :: r, q, b, t, hg, ht => by
  obtain ⟨h1, h2, _, h4, h5⟩ := goodS_cons.1 hg
  obtain ⟨t1, t2⟩ := till_good h5 h2
  simp only [clock_position.till] at ht
  simp only [posR]
  by_cases c : t < clock_position.till r ∨ r = []
  · rw [if_pos c]
    have hm : s.f0 ≤ mn t (clock_position.till r) := by unfold mn; split <;> omega
    have := usual_quot h1 (show 0 ≤ mn t (clock_position.till r) - s.f0 by omega)
    omega
  · rw [if_neg c]
    have := usual_quot h1 (show 0 ≤ clock_position.till r - s.f0 by omega)
    have := posR_ge r s.f0 (b + (clock_position.till r - s.f0) * s.f1.f0 / s.f1.f1) t h5 (by simp only [not_or, Int.not_lt] at c; exact c.1)
    omega
/-- It never goes backwards. -/
theorem posR_mono : ∀ (l : List S61) (q b t u : Int), goodS (some q) l = true → clock_position.till l ≤ t → t ≤ u → posR l b t ≤ posR l b u
 | [], _, _, _, _, _, _, _ => Int.le_refl _
 | s :: r, q, b, t, u, hg, ht, htu => by
  obtain ⟨h1, h2, _, h4, h5⟩ := goodS_cons.1 hg
  obtain ⟨t1, t2⟩ := till_good h5 h2
  obtain ⟨v1, v2, _⟩ := usual_bounds h1
  simp only [clock_position.till] at ht
  simp only [posR]
  by_cases c : u < clock_position.till r ∨ r = []
  · rw [if_pos c, if_pos (by rcases c with c | c; exact Or.inl (by omega); exact Or.inr c)]
    have hm : mn t (clock_position.till r) ≤ mn u (clock_position.till r) := by unfold mn; split <;> split <;> omega
    have := quot_mono (a := s.f1.f0) (d := s.f1.f1) (show mn t (clock_position.till r) - s.f0 ≤ mn u (clock_position.till r) - s.f0 by omega) (by omega) (by omega)
    omega
  · rw [if_neg c]
    simp only [not_or, Int.not_lt] at c
    by_cases c2 : t < clock_position.till r ∨ r = []
    · rw [if_pos c2]
      have hm : mn t (clock_position.till r) ≤ clock_position.till r := by unfold mn; split <;> omega
      have := quot_mono (a := s.f1.f0) (d := s.f1.f1) (show mn t (clock_position.till r) - s.f0 ≤ clock_position.till r - s.f0 by omega) (by omega) (by omega)
      have := posR_ge r s.f0 (b + (clock_position.till r - s.f0) * s.f1.f0 / s.f1.f1) u h5 c.1
      omega
    · rw [if_neg c2]
      simp only [not_or, Int.not_lt] at c2
      exact posR_mono r s.f0 _ t u h5 c2.1 htu
theorem posS_mono {l : List S61} (h : vclockS l = true) {t u : Int} (h0 : 0 ≤ t) (htu : t ≤ u) : posS l t ≤ posS l u := by
  obtain ⟨hg, n1, n2⟩ := vclockS_iff.1 h
  rw [posS_eq h h0, posS_eq h (by omega)]
  refine posR_mono l (-1) 0 t u (goodS_first hg) ?_ htu
  cases l with
  | nil => simp at n1
  | cons s r =>
    obtain ⟨_, _, h3, _⟩ := goodS_cons.1 hg
    simp only [clock_position.till]
    have := h3 rfl
    omega
/-- It counts at most 1024 frames a frame of the master. -/
theorem posR_le : ∀ (l : List S61) (q b t : Int), goodS (some q) l = true → clock_position.till l ≤ t → l ≠ [] → b ≤ clock_position.till l * 1024 → posR l b t ≤ t * 1024
 | [], _, _, _, _, _, h, _ => absurd rfl h
 | s :: r, q, b, t, hg, ht, _, hb => by
  obtain ⟨h1, h2, _, h4, h5⟩ := goodS_cons.1 hg
  obtain ⟨t1, t2⟩ := till_good h5 h2
  simp only [clock_position.till] at ht hb
  simp only [posR]
  by_cases c : t < clock_position.till r ∨ r = []
  · rw [if_pos c]
    have hm : s.f0 ≤ mn t (clock_position.till r) ∧ mn t (clock_position.till r) ≤ t := by unfold mn; split <;> omega
    have := usual_quot h1 (show 0 ≤ mn t (clock_position.till r) - s.f0 by omega)
    omega
  · rw [if_neg c]
    simp only [not_or, Int.not_lt] at c
    have := usual_quot h1 (show 0 ≤ clock_position.till r - s.f0 by omega)
    exact posR_le r s.f0 _ t h5 c.1 c.2 (by omega)
theorem posS_bound {l : List S61} (h : vclockS l = true) {t : Int} (h0 : 0 ≤ t) : 0 ≤ posS l t ∧ posS l t ≤ t * 1024 := by
  obtain ⟨hg, n1, n2⟩ := vclockS_iff.1 h
  rw [posS_eq h h0]
  cases l with
  | nil => simp at n1
  | cons s r =>
    obtain ⟨_, _, h3, _⟩ := goodS_cons.1 hg
    have := h3 rfl
    exact ⟨posR_ge _ (-1) 0 t (goodS_first hg) (by simp only [clock_position.till]; omega), posR_le _ (-1) 0 t (goodS_first hg) (by simp only [clock_position.till]; omega) (by simp) (by simp only [clock_position.till]; omega)⟩
end Go.Proofs.YthnmmiofhjbkeaaX
