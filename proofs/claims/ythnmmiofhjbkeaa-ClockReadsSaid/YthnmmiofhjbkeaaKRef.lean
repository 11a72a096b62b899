/-
  The reference's clocks: valid, new and changed ones; what dice make of them.
-/
import Derived.Test.YthnmmiofhjbkeaaPAx12
import Derived.Test.YthnmmiofhjbkeaaPAx13
import Derived.Test.YthnmmiofhjbkeaaPAx14
import Derived.Test.YthnmmiofhjbkeaaPAx15
import Derived.Test.YthnmmiofhjbkeaaPAx17
import Derived.Test.YthnmmiofhjbkeaaPAx18
import Derived.Test.YthnmmiofhjbkeaaKDice
import Derived.Test.YthnmmiofhjbkeaaXMulR
namespace Go.Proofs.YthnmmiofhjbkeaaX
open Go.RowKit Go.Proofs.Ythnmmiofhjbkeaa.PA Go.Proofs.YthnmmiofhjbkeaaW.PrintWords Go.Proofs.YthnmmiofhjbkeaaW.PrintLast Go.Proofs.YthnmmiofhjbkeaaW.PrintMore
theorem cmp_ends : validS 1 1024 = true ∧ validS 1024 1 = true := by decide +kernel
theorem rate_ev' (a b : Int) : Ev (fun k => soundserviceref13_rate.f k a b) (usualS a b) := by
  unfold soundserviceref13_rate.f usualS
  refine Ev.bind (valid_ev' a b) ?_
  by_cases h : validS a b = true
  · simp only [h, if_true]
    refine Ev.bind (cmp_ev' a b 1 1024) ?_
    have e1 : cmpS a b 1 1024 ≥ 0 ↔ b ≤ a * 1024 := by
      unfold cmpS
      rw [if_pos ⟨h, cmp_ends.1⟩]
      split
      · omega
      · split <;> omega
    by_cases c : b ≤ a * 1024
    · simp only [if_pos (e1.2 c), decide_eq_true c]
      refine Ev.bind (cmp_ev' a b 1024 1) ?_
      have e2 : cmpS a b 1024 1 ≤ 0 ↔ a ≤ b * 1024 := by
        unfold cmpS
        rw [if_pos ⟨h, cmp_ends.2⟩]
        split
        · omega
        · split <;> omega
      rw [show decide (cmpS a b 1024 1 ≤ 0) = decide (a ≤ b * 1024) from decide_eq_decide.2 e2]
      exact Ev.now _
    · simp only [if_neg (show ¬ cmpS a b 1 1024 ≥ 0 from fun h => c (e1.1 h)), decide_eq_false c]
      exact Ev.now _
  · have h' : validS a b = false := by simpa using h
    simp only [h']
    exact Ev.now _
theorem valid_l0' (l : List S61) (hl : (l.length : Int) ≤ 1000) : ∀ (d j : Nat), d = l.length - j → j ≤ l.length →
    Ev (fun k => soundserviceref13_Valid.l0 k l (l.length : Int) j l) (goodS (prevS l j) (l.drop j) && decide (1 ≤ (l.length : Int)) && decide ((l.length : Int) ≤ 64)) := by
  intro d
  induction d with
  | zero =>
    intro j hd hj
    obtain rfl : j = l.length := by omega
    refine Ev.step (f := fun _ => if (l.length : Int) ≥ 1 then some (decide ((l.length : Int) ≤ 64)) else some false) (fun k => ?_) ?_
    · simp only [soundserviceref13_Valid.l0]
      rw [if_neg (by omega)]
    · rw [List.drop_length]
      simp only [goodS, Bool.true_and]
      by_cases c : (l.length : Int) ≥ 1
      · rw [if_pos c, decide_eq_true (show 1 ≤ (l.length : Int) from c)]
        exact Ev.now _
      · rw [if_neg c, decide_eq_false (show ¬ 1 ≤ (l.length : Int) from c)]
        exact Ev.now _
  | succ d ih =>
    intro j hd hj
    have hlt : j < l.length := by omega
    have hnext := ih (j + 1) (by omega) (by omega)
    rw [drop_cons hlt]
    rw [prevS_succ] at hnext
    have e1 : wrap64 ((j : Int) + 1) = ((j + 1 : Nat) : Int) := by rw [w64 (by omega) (by omega)]; omega
    generalize hs : rd_T61 l j = s at hnext
    refine Ev.step (f := ?f) (fun k => ?h) ?g
    case h =>
      simp only [soundserviceref13_Valid.l0]
      rw [if_pos (show (j : Int) < (l.length : Int) by omega), if_pos (show (0 : Int) ≤ j by omega), if_pos (show (j : Int) < (l.length : Int) by omega), hs, e1]
    case g =>
      refine Ev.bind (rate_ev' _ _) ?_
      by_cases hu : usualS s.f1.f0 s.f1.f1 = true
      rotate_left
      · have hu' : usualS s.f1.f0 s.f1.f1 = false := by simpa using hu
        simp only [goodS, hu', Bool.false_and, Bool.false_eq_true, if_false]
        exact Ev.now _
      · simp only [goodS, hu, Bool.true_and, if_true]
        have hlast : ∀ p : Bool, p = true → Ev (fun k => if s.f0 > 1099511627776 then some false else soundserviceref13_Valid.l0 k l (l.length : Int) ((j + 1 : Nat) : Int) l) (decide (s.f0 ≤ 1099511627776) && p && goodS (some s.f0) (l.drop (j + 1)) && decide (1 ≤ (l.length : Int)) && decide ((l.length : Int) ≤ 64)) := by
          rintro p rfl
          by_cases hM : s.f0 > 1099511627776
          · simp only [if_pos hM, decide_eq_false (show ¬ s.f0 ≤ 1099511627776 by omega), Bool.false_and]
            exact Ev.now _
          · simp only [if_neg hM, decide_eq_true (show s.f0 ≤ 1099511627776 by omega), Bool.true_and]
            exact hnext
        by_cases hj0 : j = 0
        · subst hj0
          simp only [Int.natCast_zero, if_true, prevS]
          by_cases hf : s.f0 = 0
          · simp only [if_pos hf, if_neg (show ¬ (0 : Int) > 0 by omega)]
            exact hlast _ (decide_eq_true hf)
          · simp only [if_neg hf, decide_eq_false hf, Bool.and_false, Bool.false_and]
            exact Ev.now _
        · obtain ⟨i, rfl⟩ : ∃ i, j = i + 1 := ⟨j - 1, by omega⟩
          have e2 : wrap64 (((i + 1 : Nat) : Int) - 1) = (i : Int) := by rw [w64 (by omega) (by omega)]; omega
          simp only [if_neg (show ¬ ((i + 1 : Nat) : Int) = 0 by omega), if_pos (show ((i + 1 : Nat) : Int) > 0 by omega), e2, if_pos (show (0 : Int) ≤ i by omega), if_pos (show (i : Int) < (l.length : Int) by omega), prevS_succ]
          by_cases hp : s.f0 ≤ (rd_T61 l i).f0
          · simp only [if_pos hp, decide_eq_false (show ¬ (rd_T61 l i).f0 < s.f0 by omega), Bool.and_false, Bool.false_and]
            exact Ev.now _
          · simp only [if_neg hp]
            exact hlast _ (decide_eq_true (by omega))
theorem valid_clock' (l : List S61) (hl : (l.length : Int) ≤ 1000) : Ev (fun k => soundserviceref13_Valid.f k l) (vclockS l) := by
  have := valid_l0' l hl l.length 0 (by omega) (by omega)
  rw [List.drop_zero] at this
  exact this
theorem vclock_one (a b : Int) : vclockS [⟨0, ⟨a, b⟩⟩] = usualS a b := by
  cases h : usualS a b <;> simp [vclockS, goodS, h]
theorem new_ev' (a b : Int) : Ev (fun k => soundserviceref13_New.f k a b) (if usualS a b = true then ([⟨0, ⟨a, b⟩⟩], 0) else ([], 1)) := by
  unfold soundserviceref13_New.f
  simp only [Option.bind_some]
  refine Ev.bind (valid_clock' _ (by simp)) ?_
  rw [vclock_one]
  split <;> exact Ev.now _
theorem change_ev' (l : List S61) (hl : (l.length : Int) ≤ 1000) (t a b : Int) : Ev (fun k => soundserviceref13_Change.f k l t a b) (changeS l t a b) := by
  unfold soundserviceref13_Change.f changeS
  refine Ev.bind (valid_clock' l hl) ?_
  by_cases hv : vclockS l = true
  rotate_left
  · simp only [if_neg hv]
    exact Ev.now _
  · simp only [if_pos hv]
    obtain ⟨_, n1, n2⟩ := vclockS_iff.1 hv
    rw [w64 (n := (l.length : Int) - 1) (by omega) (by omega)]
    simp only [if_pos (show 0 ≤ (l.length : Int) - 1 by omega), if_pos (show (l.length : Int) - 1 < (l.length : Int) by omega)]
    generalize (rd_T61 l ((l.length : Int) - 1)).f0 = p
    have out : ∀ k, soundserviceref13_Change.j0 (k + 1) t true l a b = some ([], 2) := fun k => by simp only [soundserviceref13_Change.j0, if_true]
    by_cases c1 : t ≤ p
    · rw [if_pos (Or.inl c1)]
      simp only [if_pos c1]
      exact Ev.step (f := fun _ => some ([], 2)) out (Ev.now _)
    · simp only [if_neg c1]
      by_cases c2 : t > 1099511627776
      · rw [if_pos (Or.inr c2), decide_eq_true c2]
        exact Ev.step (f := fun _ => some ([], 2)) out (Ev.now _)
      · rw [if_neg (by omega), decide_eq_false c2]
        refine Ev.step (f := ?f) (fun k => ?h) ?g
        case h =>
          rw [soundserviceref13_Change.j0, if_neg (by decide)]
        case g =>
          refine Ev.bind (rate_ev' a b) ?_
          by_cases hu : usualS a b = true
          · simp only [if_pos hu]
            by_cases h64 : l.length = 64
            · simp only [if_pos h64, if_pos (show (l.length : Int) ≥ 64 by omega)]
              exact Ev.now _
            · simp only [if_neg h64, if_neg (show ¬ (l.length : Int) ≥ 64 by omega), Option.bind_some, List.length_nil, List.nil_append, Nat.zero_add, List.length_cons, if_pos (show l.length < 5864062014805 by omega), if_pos (show l.length + 1 < 5864062014805 by omega)]
              exact Ev.now _
          · simp only [if_neg hu]
            exact Ev.now _
theorem goodS_append {s : S61} (hu : usualS s.f1.f0 s.f1.f1 = true) (hM : s.f0 ≤ 1099511627776) : ∀ (l : List S61) (p : Option Int), l ≠ [] → goodS p l = true → (rd_T61 l ((l.length : Int) - 1)).f0 < s.f0 → goodS p (l ++ [s]) = true
 | [], _, h, _, _ => absurd rfl h
 | [x], p, _, hg, hlt => by
  obtain ⟨h1, h2, h3, h4, _⟩ := goodS_cons.1 hg
  have e : rd_T61 [x] ((([x] : List S61).length : Int) - 1) = x := rfl
  rw [e] at hlt
  refine goodS_cons.2 ⟨h1, h2, h3, h4, goodS_cons.2 ⟨hu, hM, fun e => by (cases e), fun q e => by cases e; exact hlt, rfl⟩⟩
 | x :: y :: r, p, _, hg, hlt => by
  obtain ⟨h1, h2, h3, h4, h5⟩ := goodS_cons.1 hg
  have e : rd_T61 (x :: y :: r) (((x :: y :: r).length : Int) - 1) = rd_T61 (y :: r) (((y :: r).length : Int) - 1) := by
    unfold rd_T61
    have e1 : (((x :: y :: r).length : Int) - 1).toNat = r.length + 1 := by simp only [List.length_cons]; omega
    have e2 : (((y :: r).length : Int) - 1).toNat = r.length := by simp only [List.length_cons]; omega
    rw [e1, e2]
    rfl
  rw [e] at hlt
  exact goodS_cons.2 ⟨h1, h2, h3, h4, goodS_append hu hM (y :: r) _ (by simp) h5 hlt⟩
theorem change_valid {l l' : List S61} {t a b : Int} (h : changeS l t a b = (l', 0)) : vclockS l' = true := by
  unfold changeS at h
  by_cases hv : vclockS l = true
  · obtain ⟨hg, n1, n2⟩ := vclockS_iff.1 hv
    rw [if_pos hv] at h
    by_cases c : t ≤ (rd_T61 l ((l.length : Int) - 1)).f0 ∨ t > 1099511627776
    · rw [if_pos c] at h
      simp at h
    · rw [if_neg c] at h
      by_cases hu : usualS a b = true
      · rw [if_pos hu] at h
        by_cases h64 : l.length = 64
        · rw [if_pos h64] at h
          simp at h
        · rw [if_neg h64] at h
          simp only [Prod.mk.injEq, and_true] at h
          subst h
          simp only [not_or, Int.not_le, Int.not_lt, gt_iff_lt] at c
          refine vclockS_iff.2 ⟨goodS_append hu (by simp only; omega) l none (by rintro rfl; simp at n1) hg (by simp only; omega), by simp, by simp; omega⟩
      · rw [if_neg hu] at h
        simp at h
  · rw [if_neg hv] at h
    simp at h
/-! What dice make -/
theorem made_l0 (n : Nat) : ∀ (u : Int) (d : List Int) (l : List S61), Bytes d → vclockS l = true → 0 ≤ u → u ≤ 1000 - 91 * (n : Int) → n ≤ 4 → ∃ l' d', Ev (fun k => soundservicemade_Clock.l0 k u n d l) (l', d') ∧ vclockS l' = true ∧ Bytes d' := by
  induction n with
  | zero =>
    intro u d l hd hv _ _ _
    refine ⟨l, d, Ev.step (f := fun _ => some (l, d)) (fun k => ?_) (Ev.now _), hv, hd⟩
    simp only [soundservicemade_Clock.l0]
    rw [if_neg (by omega)]
  | succ n ih =>
    intro u d l hd hv h0 h1 hn
    obtain ⟨r, d1, e1, r0, r1, hd1⟩ := next_some hd (n := 90) (by decide)
    obtain ⟨a, b, d2, e2, hu, hd2⟩ := rate_some hd1
    have w1 : wrap64 (1 + r) = 1 + r := w64 (by omega) (by omega)
    have w2 : wrap64 (u + (1 + r)) = u + (1 + r) := w64 (by omega) (by omega)
    have w3 : wrap64 (((n + 1 : Nat) : Int) - 1) = (n : Int) := by rw [w64 (by omega) (by omega)]; omega
    obtain ⟨_, n1, n2⟩ := vclockS_iff.1 hv
    have hne : ∃ l2 : List S61, vclockS l2 = true ∧ (if (changeS l (u + (1 + r)) a b).2 = 0 then (changeS l (u + (1 + r)) a b).1 else l) = l2 := by
      by_cases c : (changeS l (u + (1 + r)) a b).2 = 0
      · rw [if_pos c]
        exact ⟨_, change_valid (l := l) (t := u + (1 + r)) (a := a) (b := b) (Prod.ext rfl c), rfl⟩
      · rw [if_neg c]
        exact ⟨_, hv, rfl⟩
    obtain ⟨l2, hv2, e3⟩ := hne
    obtain ⟨l', d', hev, hv', hd'⟩ := ih (u + (1 + r)) d2 l2 hd2 hv2 (by omega) (by omega) (by omega)
    refine ⟨l', d', ?_, hv', hd'⟩
    refine Ev.step (f := ?f) (fun k => ?h) ?g
    case h =>
      rw [soundservicemade_Clock.l0, if_pos (by omega), e1, Option.bind_some, e2, Option.bind_some, w1, w2]
    case g =>
      refine Ev.bind (change_ev' l (by omega) (u + (1 + r)) a b) ?_
      refine Ev.step (f := ?f2) (fun k => ?h2) ?g2
      case h2 =>
        rw [soundservicemade_Clock.j1, w3]
      case g2 =>
        by_cases c : (changeS l (u + (1 + r)) a b).2 = 0
        · rw [if_pos c] at e3
          simp only [c, beq_self_eq_true, if_true, e3]
          exact hev
        · rw [if_neg c] at e3
          subst e3
          simp only [beq_eq_false_iff_ne.2 c, Bool.false_eq_true, if_false]
          exact hev
theorem clock_some {d : List Int} (hd : Bytes d) : ∃ l d', Ev (fun k => soundservicemade_Clock.f k d) (l, d') ∧ vclockS l = true ∧ Bytes d' := by
  obtain ⟨a, b, d1, e1, hu, hd1⟩ := rate_some hd
  obtain ⟨r, d2, e2, r0, r1, hd2⟩ := next_some hd1 (n := 5) (by decide)
  obtain ⟨n, rfl⟩ := Int.eq_ofNat_of_zero_le r0
  obtain ⟨l, d', hev, hv, hd'⟩ := made_l0 n 0 d2 [⟨0, ⟨a, b⟩⟩] hd2 (by rw [vclock_one]; exact hu) (Int.le_refl _) (by omega) (by omega)
  refine ⟨l, d', ?_, hv, hd'⟩
  unfold soundservicemade_Clock.f
  simp only [e1, Option.bind_some]
  refine Ev.bind (new_ev' a b) ?_
  simp only [if_pos hu, e2, Option.bind_some]
  exact hev
theorem made13 {d : List Int} (hd : Bytes d) : ∃ l, Ev (fun k => soundservicelaw13_made.f k d) l ∧ vclockS l = true := by
  obtain ⟨d1, e1, hd1⟩ := new_some hd
  obtain ⟨l, d2, hev, hv, _⟩ := clock_some hd1
  refine ⟨l, ?_, hv⟩
  unfold soundservicelaw13_made.f
  simp only [e1, Option.bind_some]
  refine Ev.bind hev ?_
  exact Ev.now _
end Go.Proofs.YthnmmiofhjbkeaaX
