/-
  The plain law behind ClockReads: positions, frames between times and times of frames are as the reference says.
-/
import Derived.Test.YthnmmiofhjbkeaaPAx11
import Derived.Test.YthnmmiofhjbkeaaPAx26
import Derived.Test.YthnmmiofhjbkeaaPAx10
import Derived.Test.YthnmmiofhjbkeaaPAx24
import Derived.Test.YthnmmiofhjbkeaaPAx25
import Derived.Test.YthnmmiofhjbkeaaPAx9
import Derived.Test.YthnmmiofhjbkeaaKTime
import Derived.Test.YthnmmiofhjbkeaaKRef
import Derived.Test.YthnmmiofhjbkeaaXFloorR
import Derived.Test.YthnmmiofhjbkeaaKSane
namespace Go.Proofs.YthnmmiofhjbkeaaX
open Go.RowKit Go.Proofs.Ythnmmiofhjbkeaa.PA Go.Proofs.YthnmmiofhjbkeaaW.PrintWords Go.Proofs.YthnmmiofhjbkeaaW.PrintLast Go.Proofs.YthnmmiofhjbkeaaW.PrintMore
/-- The reference's sum over the segments. -/
def refR : List S61 → Int → Int → Int
 | [], b, _ => b
 | s :: r, b, t => if s.f0 > t then b else refR r (b + (mn t (clock_position.till r) - s.f0) * s.f1.f0 / s.f1.f1) t
theorem refR_eq : ∀ (l : List S61) (b t : Int), l ≠ [] → clock_position.till l ≤ t → refR l b t = posR l b t
 | [], _, _, h, _ => absurd rfl h
 | s :: r, b, t, _, ht => by
  simp only [clock_position.till] at ht
  simp only [refR, posR]
  rw [if_neg (by omega)]
  cases r with
  | nil => rw [if_pos (Or.inr rfl)]; rfl
  | cons s' r' =>
    by_cases c : t < clock_position.till (s' :: r')
    · rw [if_pos (Or.inl c)]
      simp only [clock_position.till] at c
      rw [refR, if_pos (by omega)]
    · rw [if_neg (by rintro (h | h); exact c h; cases h)]
      have hm : mn t (clock_position.till (s' :: r')) = clock_position.till (s' :: r') := by unfold mn; split <;> omega
      rw [hm, refR_eq (s' :: r') _ t (by simp) (by omega)]
theorem refpos_l0 (l : List S61) (hl : (l.length : Int) ≤ 1000) (t : Int) (h0 : 0 ≤ t) (h1 : t ≤ 1099511627776) : ∀ (d j : Nat) (q b : Int), d = l.length - j → j ≤ l.length →
    goodS (some q) (l.drop j) = true → -1 ≤ q → 0 ≤ b → b ≤ clock_position.till (l.drop j) * 1024 → Ev (fun k => soundserviceref13_position.l0 k t b l (l.length : Int) j l) (refR (l.drop j) b t) := by
  intro d
  induction d with
  | zero =>
    intro j q b hd hj hg hq hb hb'
    obtain rfl : j = l.length := by omega
    refine Ev.step (f := fun _ => some b) (fun k => ?_) ?_
    · simp only [soundserviceref13_position.l0]
      rw [if_neg (by omega)]
    · rw [List.drop_length]
      exact Ev.now _
  | succ d ih =>
    intro j q b hd hj hg hq hb hb'
    have hlt : j < l.length := by omega
    have ew : wrap64 ((j : Int) + 1) = ((j + 1 : Nat) : Int) := by rw [w64 (by omega) (by omega)]; omega
    rw [drop_cons hlt] at hg hb' ⊢
    obtain ⟨g1, g2, _, g4, g5⟩ := goodS_cons.1 hg
    have hqs := g4 q rfl
    obtain ⟨t1, t2⟩ := till_good g5 g2
    simp only [clock_position.till] at hb'
    generalize hs : rd_T61 l (j : Int) = s at g1 g2 g4 g5 hqs t1 hb' ⊢
    by_cases c : s.f0 > t
    · refine Ev.step (f := fun _ => some b) (fun k => ?_) ?_
      · simp only [soundserviceref13_position.l0]
        rw [if_pos (by omega), if_pos (by omega), if_pos (by omega), hs, if_pos c]
      · rw [refR, if_pos c]
        exact Ev.now _
    · rw [refR, if_neg c]
      have hm : s.f0 ≤ mn t (clock_position.till (l.drop (j + 1))) ∧ mn t (clock_position.till (l.drop (j + 1))) ≤ clock_position.till (l.drop (j + 1)) ∧ mn t (clock_position.till (l.drop (j + 1))) ≤ t := by unfold mn; split <;> omega
      generalize hM : mn t (clock_position.till (l.drop (j + 1))) = M at hm ⊢
      have hn := usual_quot g1 (show 0 ≤ M - s.f0 by omega)
      refine Ev.step (f := fun k => (soundserviceref03_Floor.f k (M - s.f0) s.f1.f0 s.f1.f1).bind fun x => soundserviceref13_position.l0 k t (wrap64 (b + x.1)) l (l.length : Int) ((j + 1 : Nat) : Int) l) (fun k => ?_) ?_
      · simp only [soundserviceref13_position.l0]
        rw [if_pos (by omega), if_pos (by omega), if_pos (by omega), hs, if_neg c, ew]
        by_cases cj : ((j + 1 : Nat) : Int) < (l.length : Int)
        · rw [if_pos cj, if_pos (by omega)]
          have e2 : mn t (rd_T61 l ((j + 1 : Nat) : Int)).f0 = M := by
            rw [← hM, drop_cons (show j + 1 < l.length by omega)]
            rfl
          rw [e2, w64 (n := M - s.f0) (by omega) (by omega)]
        · rw [if_neg cj]
          have e2 : t = M := by
            rw [← hM, List.drop_eq_nil_of_le (show l.length ≤ j + 1 by omega)]
            show t = mn t 1099511627776
            unfold mn
            split <;> omega
          rw [w64 (n := t - s.f0) (by omega) (by omega), ← e2]
      · refine Ev.bind (floor_ev' _ _ _) ?_
        rw [floor_usual g1 (by omega) (by omega)]
        simp only
        rw [w64 (by omega) (by omega)]
        exact ih (j + 1) s.f0 _ (by omega) (by omega) g5 (by omega) (by omega) (by omega)
theorem refposition_ev {l : List S61} (h : vclockS l = true) {t : Int} (h0 : 0 ≤ t) (h1 : t ≤ 1099511627776) : Ev (fun k => soundserviceref13_position.f k l t) (posS l t) := by
  obtain ⟨hg, n1, n2⟩ := vclockS_iff.1 h
  have hl : l ≠ [] := by rintro rfl; simp at n1
  have ht : clock_position.till l = 0 := by
    cases l with
    | nil => exact absurd rfl hl
    | cons s r =>
      obtain ⟨_, _, h3, _⟩ := goodS_cons.1 hg
      exact h3 rfl
  rw [posS_eq h h0, ← refR_eq l 0 t hl (by omega)]
  unfold soundserviceref13_position.f
  exact refpos_l0 l (by omega) t h0 h1 l.length 0 (-1) 0 (by omega) (by omega) (goodS_first hg) (by omega) (by omega) (by rw [List.drop_zero]; omega)
/-! Positions -/
def PosRes (l : List S61) (t : Int) : Int × Int := if vclockS l = true then if t < 0 then (0, 2) else if t > 1099511627776 then (0, 2) else (posS l t, 0) else (0, 1)
theorem Position_all (l : List S61) (hl : (l.length : Int) ≤ 1000) (t : Int) : Ev (fun k => clock_Position.f k l t) (PosRes l t) := by
  unfold clock_Position.f PosRes
  refine Ev.bind (valid_clock l hl) ?_
  by_cases hv : vclockS l = true
  · simp only [if_pos hv]
    by_cases c : t < 0
    · simp only [if_pos c]
      exact Ev.now _
    · simp only [if_neg c]
      by_cases c2 : t > 1099511627776
      · simp only [if_pos c2]
        exact Ev.now _
      · simp only [if_neg c2]
        refine Ev.bind (position_ev hv (by omega) (by omega)) ?_
        exact Ev.now _
  · simp only [if_neg hv]
    exact Ev.now _
theorem Position_all' (l : List S61) (hl : (l.length : Int) ≤ 1000) (t : Int) : Ev (fun k => soundserviceref13_Position.f k l t) (PosRes l t) := by
  unfold soundserviceref13_Position.f PosRes
  refine Ev.bind (valid_clock' l hl) ?_
  by_cases hv : vclockS l = true
  · simp only [if_pos hv]
    by_cases c : t < 0
    · simp only [if_pos c]
      exact Ev.now _
    · simp only [if_neg c]
      by_cases c2 : t > 1099511627776
      · simp only [if_pos c2]
        exact Ev.now _
      · simp only [if_neg c2]
        refine Ev.bind (refposition_ev hv (by omega) (by omega)) ?_
        exact Ev.now _
  · simp only [if_neg hv]
    exact Ev.now _
/-! Frames between times -/
def BetRes (l : List S61) (t u : Int) : Int × Int := if vclockS l = true then if t < 0 then (0, 2) else if u > 1099511627776 then (0, 2) else if u < t then (0, 2) else (wrap64 (posS l u - posS l t), 0) else (0, 1)
theorem Between_all (l : List S61) (hl : (l.length : Int) ≤ 1000) (t u : Int) : Ev (fun k => clock_Between.f k l t u) (BetRes l t u) := by
  have out : Ev (fun k => clock_Between.j0 k t u true l) (0, 2) := Ev.step (f := fun _ => some (0, 2)) (fun k => by simp [clock_Between.j0]) (Ev.now _)
  unfold clock_Between.f BetRes
  refine Ev.bind (valid_clock l hl) ?_
  by_cases hv : vclockS l = true
  · simp only [if_pos hv]
    by_cases c : t < 0
    · simp only [if_pos c]
      exact out
    · simp only [if_neg c]
      by_cases c2 : u > 1099511627776
      · simp only [if_pos c2]
        exact out
      · simp only [if_neg c2]
        by_cases c3 : u < t
        · simp only [if_pos c3, decide_eq_true c3]
          exact out
        · simp only [if_neg c3, decide_eq_false c3]
          refine Ev.step (f := fun k => (clock_position.f k l u).bind fun a => (clock_position.f k l t).bind fun b => some (wrap64 (a - b), 0)) (fun k => by simp [clock_Between.j0]) ?_
          exact Ev.bind (position_ev hv (by omega) (by omega)) (Ev.bind (position_ev hv (by omega) (by omega)) (Ev.now _))
  · simp only [if_neg hv]
    exact Ev.now _
theorem Between_all' (l : List S61) (hl : (l.length : Int) ≤ 1000) (t u : Int) : Ev (fun k => soundserviceref13_Between.f k l t u) (BetRes l t u) := by
  have out : Ev (fun k => soundserviceref13_Between.j0 k t u true l) (0, 2) := Ev.step (f := fun _ => some (0, 2)) (fun k => by simp [soundserviceref13_Between.j0]) (Ev.now _)
  unfold soundserviceref13_Between.f BetRes
  refine Ev.bind (valid_clock' l hl) ?_
  by_cases hv : vclockS l = true
  · simp only [if_pos hv]
    by_cases c : t < 0
    · simp only [if_pos c]
      exact out
    · simp only [if_neg c]
      by_cases c2 : u > 1099511627776
      · simp only [if_pos c2]
        exact out
      · simp only [if_neg c2]
        by_cases c3 : u < t
        · simp only [if_pos c3, decide_eq_true c3]
          exact out
        · simp only [if_neg c3, decide_eq_false c3]
          refine Ev.step (f := fun k => (soundserviceref13_position.f k l u).bind fun a => (soundserviceref13_position.f k l t).bind fun b => some (wrap64 (a - b), 0)) (fun k => by simp [soundserviceref13_Between.j0]) ?_
          exact Ev.bind (refposition_ev hv (by omega) (by omega)) (Ev.bind (refposition_ev hv (by omega) (by omega)) (Ev.now _))
  · simp only [if_neg hv]
    exact Ev.now _
/-! Times of frames -/
def TimeRes (l : List S61) (f : Int) : Int × Int := if vclockS l = true then if f < 0 then (0, 2) else timeofS l f else (0, 1)
theorem TimeOf_all (l : List S61) (hl : (l.length : Int) ≤ 1000) (f : Int) : Ev (fun k => clock_TimeOf.f k l f) (TimeRes l f) := by
  unfold TimeRes
  by_cases hv : vclockS l = true
  · rw [if_pos hv]
    exact timeof_ev hv f
  · rw [if_neg hv]
    unfold clock_TimeOf.f
    refine Ev.bind (valid_clock l hl) ?_
    simp only [if_neg hv]
    exact Ev.now _
theorem search_l0 {l : List S61} (hv : vclockS l = true) (f v : Int) (w2 : v ≤ 1099511627776) (w3 : f ≤ posS l v) (w4 : 0 < v → posS l (v - 1) < f) :
    ∀ (n : Nat) (lo hi : Int), hi - lo ≤ n → 0 ≤ lo → lo ≤ v → v ≤ hi → hi ≤ 1099511627776 → Ev (fun k => soundserviceref13_TimeOf.l0 k f lo hi l) (v, 0) := by
  intro n
  induction n with
  | zero =>
    intro lo hi hn h0 h1 h2 h3
    obtain rfl : lo = v := by omega
    refine Ev.step (f := fun _ => some (lo, 0)) (fun k => ?_) (Ev.now _)
    simp only [soundserviceref13_TimeOf.l0]
    rw [if_neg (by omega)]
  | succ n ih =>
    intro lo hi hn h0 h1 h2 h3
    by_cases c : lo < hi
    rotate_left
    · obtain rfl : lo = v := by omega
      refine Ev.step (f := fun _ => some (lo, 0)) (fun k => ?_) (Ev.now _)
      simp only [soundserviceref13_TimeOf.l0]
      rw [if_neg (by omega)]
    · obtain ⟨mid, hmid, m0, m1⟩ : ∃ mid : Int, wrap64 (Int.tdiv (wrap64 (lo + hi)) 2) = mid ∧ lo ≤ mid ∧ mid < hi := by
        refine ⟨(lo + hi) / 2, ?_, by omega, by omega⟩
        rw [w64 (n := lo + hi) (by omega) (by omega), tdiv_pos (by omega), w64 (by omega) (by omega)]
      refine Ev.step (f := fun k => (soundserviceref13_position.f k l mid).bind fun x => if x ≥ f then soundserviceref13_TimeOf.l0 k f lo mid l else soundserviceref13_TimeOf.l0 k f (mid + 1) hi l) (fun k => ?_) ?_
      · simp only [soundserviceref13_TimeOf.l0]
        rw [if_pos c, hmid, w64 (n := mid + 1) (by omega) (by omega)]
      · refine Ev.bind (refposition_ev hv (by omega) (by omega)) ?_
        by_cases c2 : posS l mid ≥ f
        · simp only [if_pos c2]
          refine ih lo mid (by omega) h0 h1 ?_ (by omega)
          by_cases c3 : v ≤ mid
          · exact c3
          · have := w4 (by omega)
            have := posS_mono hv (t := mid) (u := v - 1) (by omega) (by omega)
            omega
        · simp only [if_neg c2]
          refine ih (mid + 1) hi (by omega) (by omega) ?_ h2 h3
          by_cases c3 : mid + 1 ≤ v
          · exact c3
          · have := posS_mono hv (t := v) (u := mid) (by omega) (by omega)
            omega
theorem TimeOf_all' (l : List S61) (hl : (l.length : Int) ≤ 1000) (f : Int) : Ev (fun k => soundserviceref13_TimeOf.f k l f) (TimeRes l f) := by
  unfold soundserviceref13_TimeOf.f TimeRes
  refine Ev.bind (valid_clock' l hl) ?_
  by_cases hv : vclockS l = true
  · simp only [if_pos hv]
    by_cases c : f < 0
    · simp only [if_pos c]
      exact Ev.now _
    · simp only [if_neg c]
      refine Ev.bind (refposition_ev hv (by decide) (by decide)) ?_
      rcases timeof_spec hv f with ⟨e, hp⟩ | ⟨v, e, w1, w2, w3, w4⟩
      · simp only [if_pos hp]
        rw [e]
        exact Ev.now _
      · have := posS_mono hv (t := v) (u := 1099511627776) w1 w2
        simp only [if_neg (show ¬ posS l 1099511627776 < f by omega)]
        rw [e]
        exact search_l0 hv f v w2 w3 w4 1099511627776 0 1099511627776 (by decide) (by decide) w1 w2 (by decide)
  · simp only [if_neg hv]
    exact Ev.now _
end Go.Proofs.YthnmmiofhjbkeaaX
namespace Go.Proofs.Ythnmmiofhjbkeaa.Pure
open Go.RowKit Go.Proofs.Ythnmmiofhjbkeaa.PA Go.Proofs.YthnmmiofhjbkeaaX Go.Proofs.YthnmmiofhjbkeaaW.PrintWords Go.Proofs.YthnmmiofhjbkeaaW.PrintLast Go.Proofs.YthnmmiofhjbkeaaW.PrintMore
theorem one_read (c : List S61) (hc : (c.length : Int) ≤ 900) (t u : Int) : Ev (fun k => soundservicelaw13_ClockReads.one k c t u) true := by
  unfold soundservicelaw13_ClockReads.one
  refine Ev.bind (Position_all c (by omega) t) (Ev.bind (Position_all' c (by omega) t) (Ev.bind (Between_all c (by omega) t u) (Ev.bind (Between_all' c (by omega) t u) ?_)))
  simp only [if_true]
  refine Ev.bind (TimeOf_all c (by omega) u) (Ev.bind (TimeOf_all' c (by omega) u) ?_)
  simp only [if_true]
  exact Ev.now _
theorem times_read (c : List S61) (hc : (c.length : Int) ≤ 900) : ∀ qs : List (Int × Int), Ev (fun k => soundservicelaw13_ClockReads.times k c qs) true
 | [] => Ev.now _
 | q :: qs => by
   simp only [soundservicelaw13_ClockReads.times]
   refine Ev.bind (one_read c hc q.1 q.2) ?_
   simp only [if_true]
   exact times_read c hc qs
theorem clocks_read (qs : List (Int × Int)) : ∀ cs : List (List S61), (∀ c ∈ cs, (c.length : Int) ≤ 900) → Ev (fun k => soundservicelaw13_ClockReads.clocks k qs cs) true
 | [], _ => Ev.now _
 | c :: cs, h => by
   simp only [soundservicelaw13_ClockReads.clocks]
   refine Ev.bind (times_read c (h c (List.mem_cons_self ..)) qs) ?_
   simp only [if_true]
   exact clocks_read qs cs fun x hx => h x (List.mem_cons_of_mem _ hx)
theorem ClockReads (l : List S61) (l3 : List Int) (t u : Int) (h3 : Bytes l3) : ∃ k, soundservicelaw13_ClockReads.f k l l3 t u = some true := by
  refine Ev.rounds (g := fun k => soundservicelaw13_ClockReads.f k l l3 t u) ?_
  unfold soundservicelaw13_ClockReads.f
  refine Ev.bind sane13_ev ?_
  simp only [if_true, soundservicekeep_Clock.f, Option.bind_some, decide_eq_true_eq]
  by_cases hl : (l.length : Int) ≤ 66
  rotate_left
  · simp only [if_neg hl]
    exact Ev.now _
  simp only [if_pos hl]
  obtain ⟨m, hm, hv⟩ := made13 h3
  have hm2 := (vclockS_iff.1 hv).2
  refine Ev.bind hm (clocks_read _ _ ?_)
  intro c hc
  simp only [List.mem_cons, List.not_mem_nil, or_false] at hc
  rcases hc with rfl | rfl <;> omega
end Go.Proofs.Ythnmmiofhjbkeaa.Pure
