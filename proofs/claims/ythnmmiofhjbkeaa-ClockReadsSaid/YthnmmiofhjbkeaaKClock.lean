/-
  What the printed functions of the clock compute: which clocks are valid, new and changed ones, positions, differences and times of frames.
-/
import Derived.Test.YthnmmiofhjbkeaaPAx10
import Derived.Test.YthnmmiofhjbkeaaPAx2
import Derived.Test.YthnmmiofhjbkeaaPAx3
import Derived.Test.YthnmmiofhjbkeaaPAx4
import Derived.Test.YthnmmiofhjbkeaaPAx7
import Derived.Test.YthnmmiofhjbkeaaPAx8
import Derived.Test.YthnmmiofhjbkeaaPAx9
import Derived.Test.YthnmmiofhjbkeaaXMul
namespace Go.Proofs.YthnmmiofhjbkeaaX
open Go.RowKit Go.Proofs.Ythnmmiofhjbkeaa.PA Go.Proofs.YthnmmiofhjbkeaaW.PrintWords Go.Proofs.YthnmmiofhjbkeaaW.PrintLast Go.Proofs.YthnmmiofhjbkeaaW.PrintMore

/-- A rate that a clock may have. -/
def usualS (a b : Int) : Bool := validS a b && decide (b ≤ a * 1024) && decide (a ≤ b * 1024)
theorem usualS_iff {a b : Int} : usualS a b = true ↔ validS a b = true ∧ b ≤ a * 1024 ∧ a ≤ b * 1024 := by
  unfold usualS
  simp only [Bool.and_eq_true, decide_eq_true_eq, and_assoc]
theorem usual_ev (a b : Int) : Ev (fun k => clock_usual.f k a b) (usualS a b) := by
  unfold clock_usual.f usualS
  refine Ev.bind (valid_ev a b) ?_
  by_cases h : validS a b = true
  · obtain ⟨v1, v2, v3, v4, _⟩ := validS_iff.1 h
    rw [if_pos h, w64 (n := a * 1024) (by omega) (by omega), w64 (n := b * 1024) (by omega) (by omega), h]
    by_cases c : a * 1024 ≥ b
    · rw [if_pos c, decide_eq_true (show b ≤ a * 1024 from c)]
      exact Ev.now _
    · rw [if_neg c, decide_eq_false (show ¬ b ≤ a * 1024 from c)]
      exact Ev.now _
  · have h' : validS a b = false := by simpa using h
    rw [if_neg h, h']
    exact Ev.now _
theorem usual_bounds {a b : Int} (h : usualS a b = true) : 1 ≤ a ∧ 1 ≤ b ∧ a ≤ 68719476736 ∧ b ≤ 68719476736 ∧ b ≤ a * 1024 ∧ a ≤ b * 1024 := by
  obtain ⟨h1, h2, h3⟩ := usualS_iff.1 h
  obtain ⟨v1, v2, v3, v4, _⟩ := validS_iff.1 h1
  exact ⟨v1, v2, v3, v4, h2, h3⟩
/-- A multiple by a usual rate is at most 1024 times as much. -/
theorem usual_quot {n a b : Int} (h : usualS a b = true) (h0 : 0 ≤ n) : 0 ≤ n * a / b ∧ n * a / b ≤ n * 1024 := by
  obtain ⟨v1, v2, v3, v4, u1, u2⟩ := usual_bounds h
  refine ⟨Int.ediv_nonneg (Int.mul_nonneg h0 (by omega)) (by omega), ?_⟩
  have : n * a / b < n * 1024 + 1 := by
    apply Int.ediv_lt_of_lt_mul (by omega)
    have h1 := Int.mul_le_mul_of_nonneg_left u2 h0
    have e1 : n * (b * 1024) = n * 1024 * b := by rw [Int.mul_comm b, ← Int.mul_assoc]
    have e2 : (n * 1024 + 1) * b = n * 1024 * b + b := by rw [Int.add_mul, Int.one_mul]
    omega
  omega
theorem usual_quot_neg {n a b : Int} (h : usualS a b = true) (h0 : n ≤ 0) : n * 1024 ≤ n * a / b ∧ n * a / b ≤ 0 := by
  obtain ⟨v1, v2, v3, v4, u1, u2⟩ := usual_bounds h
  constructor
  · rw [Int.le_ediv_iff_mul_le (by omega)]
    have h1 := Int.mul_le_mul_of_nonneg_left u2 (show 0 ≤ -n by omega)
    have e1 : -n * (b * 1024) = -(n * 1024 * b) := by rw [Int.mul_comm b, ← Int.mul_assoc, Int.neg_mul, Int.neg_mul]
    rw [Int.neg_mul, e1] at h1
    omega
  · have : n * a / b < 1 := by
      apply Int.ediv_lt_of_lt_mul (by omega)
      have := Int.mul_nonneg (show 0 ≤ -n by omega) (show 0 ≤ a by omega)
      rw [Int.neg_mul] at this
      omega
    omega
theorem floor_usual {n a b : Int} (h : usualS a b = true) (h0 : -1099511627776 ≤ n) (h1 : n ≤ 1099511627776) : floorS n a b = (n * a / b, 0) := by
  refine floorS_ok (usualS_iff.1 h).1 (by omega) (by omega) ?_
  by_cases c : 0 ≤ n
  · have := usual_quot h c
    exact ⟨by omega, by omega⟩
  · have := usual_quot_neg h (show n ≤ 0 by omega)
    exact ⟨by omega, by omega⟩

/-- The segments ascend, from 0 or from behind an earlier one. -/
def goodS : Option Int → List S61 → Bool
 | _, [] => true
 | p, s :: r => usualS s.f1.f0 s.f1.f1 && decide (s.f0 ≤ 1099511627776) && (match p with | none => decide (s.f0 = 0) | some q => decide (q < s.f0)) && goodS (some s.f0) r
/-- A valid clock. -/
def vclockS (l : List S61) : Bool := goodS none l && decide (1 ≤ (l.length : Int)) && decide ((l.length : Int) ≤ 64)
def prevS (l : List S61) (j : Nat) : Option Int := if j = 0 then none else some (rd_T61 l ((j : Int) - 1)).f0
theorem drop_cons {l : List S61} {j : Nat} (h : j < l.length) : l.drop j = rd_T61 l j :: l.drop (j + 1) := by
  rw [List.drop_eq_getElem_cons h]
  unfold rd_T61
  rw [List.getD_eq_getElem?_getD, Int.toNat_natCast, List.getElem?_eq_getElem h]
  rfl
theorem prevS_succ (l : List S61) (j : Nat) : prevS l (j + 1) = some (rd_T61 l j).f0 := by
  unfold prevS
  rw [if_neg (by omega)]
  congr 2
  have : (((j + 1 : Nat) : Int) - 1) = j := by omega
  rw [this]
theorem valid_l0 (l : List S61) (hl : (l.length : Int) ≤ 1000) : ∀ (d j : Nat), d = l.length - j → j ≤ l.length →
    Ev (fun k => clock_Valid.l0 k l (l.length : Int) j l) (goodS (prevS l j) (l.drop j) && decide (1 ≤ (l.length : Int)) && decide ((l.length : Int) ≤ 64)) := by
  intro d
  induction d with
  | zero =>
    intro j hd hj
    obtain rfl : j = l.length := by omega
    refine Ev.step (f := fun _ => if (l.length : Int) ≥ 1 then some (decide ((l.length : Int) ≤ 64)) else some false) (fun k => ?_) ?_
    · simp only [clock_Valid.l0]
      rw [if_neg (by omega)]
    · rw [List.drop_length]
      simp only [goodS, Bool.true_and]
      by_cases c : (l.length : Int) ≥ 1
      · rw [if_pos c, decide_eq_true (show 1 ≤ (l.length : Int) from c)]
        exact Ev.now _
      · rw [if_neg c, decide_eq_false (show ¬ 1 ≤ (l.length : Int) from c)]
        exact Ev.now _
  | succ d ih =>
    intro j hd hj
    have hlt : j < l.length := by omega
    have hnext := ih (j + 1) (by omega) (by omega)
    rw [drop_cons hlt]
    rw [prevS_succ] at hnext
    have e1 : wrap64 ((j : Int) + 1) = ((j + 1 : Nat) : Int) := by rw [w64 (by omega) (by omega)]; omega
    generalize hs : rd_T61 l j = s at hnext
    refine Ev.step (f := ?f) (fun k => ?h) ?g
    case h =>
      simp only [clock_Valid.l0]
      rw [if_pos (show (j : Int) < (l.length : Int) by omega), if_pos (show (0 : Int) ≤ j by omega), if_pos (show (j : Int) < (l.length : Int) by omega), hs, e1]
    case g =>
      refine Ev.bind (usual_ev _ _) ?_
      by_cases hu : usualS s.f1.f0 s.f1.f1 = true
      rotate_left
      · have hu' : usualS s.f1.f0 s.f1.f1 = false := by simpa using hu
        simp only [goodS, hu', Bool.false_and, Bool.false_eq_true, if_false]
        exact Ev.now _
      · simp only [goodS, hu, Bool.true_and, if_true]
        by_cases hM : s.f0 > 1099511627776
        · simp only [if_pos hM, decide_eq_false (show ¬ s.f0 ≤ 1099511627776 by omega), Bool.false_and]
          exact Ev.now _
        · simp only [if_neg hM, decide_eq_true (show s.f0 ≤ 1099511627776 by omega), Bool.true_and]
          by_cases hj0 : j = 0
          · subst hj0
            simp only [Int.natCast_zero, if_true, prevS]
            by_cases hf : s.f0 = 0
            · simp only [if_pos hf, decide_eq_true hf, Bool.true_and, if_neg (show ¬ (0 : Int) > 0 by omega)]
              exact hnext
            · simp only [if_neg hf, decide_eq_false hf, Bool.false_and]
              exact Ev.now _
          · obtain ⟨i, rfl⟩ : ∃ i, j = i + 1 := ⟨j - 1, by omega⟩
            have e2 : wrap64 (((i + 1 : Nat) : Int) - 1) = (i : Int) := by rw [w64 (by omega) (by omega)]; omega
            simp only [if_neg (show ¬ ((i + 1 : Nat) : Int) = 0 by omega), if_pos (show ((i + 1 : Nat) : Int) > 0 by omega), e2, if_pos (show (0 : Int) ≤ i by omega), if_pos (show (i : Int) < (l.length : Int) by omega), prevS_succ]
            by_cases hp : s.f0 ≤ (rd_T61 l i).f0
            · simp only [if_pos hp, decide_eq_false (show ¬ (rd_T61 l i).f0 < s.f0 by omega), Bool.false_and]
              exact Ev.now _
            · simp only [if_neg hp, decide_eq_true (show (rd_T61 l i).f0 < s.f0 by omega), Bool.true_and]
              exact hnext
theorem valid_clock (l : List S61) (hl : (l.length : Int) ≤ 1000) : Ev (fun k => clock_Valid.f k l) (vclockS l) := by
  have := valid_l0 l hl l.length 0 (by omega) (by omega)
  rw [List.drop_zero] at this
  exact this
theorem vclockS_iff {l : List S61} : vclockS l = true ↔ goodS none l = true ∧ 1 ≤ l.length ∧ l.length ≤ 64 := by
  unfold vclockS
  simp only [Bool.and_eq_true, decide_eq_true_eq, and_assoc]
  constructor <;> rintro ⟨h1, h2, h3⟩ <;> exact ⟨h1, by omega, by omega⟩
theorem goodS_cons {p : Option Int} {s : S61} {r : List S61} : goodS p (s :: r) = true ↔ usualS s.f1.f0 s.f1.f1 = true ∧ s.f0 ≤ 1099511627776 ∧ (p = none → s.f0 = 0) ∧ (∀ q, p = some q → q < s.f0) ∧ goodS (some s.f0) r = true := by
  cases p <;> simp [goodS, Bool.and_eq_true, and_assoc]

/-! New and changed clocks -/
theorem new_ev (a b : Int) : Ev (fun k => clock_New.f k a b) (if usualS a b = true then ([⟨0, ⟨a, b⟩⟩], 0) else ([], 1)) := by
  unfold clock_New.f
  refine Ev.bind (usual_ev a b) ?_
  split <;> exact Ev.now _
/-- A changed clock, or the error. -/
def changeS (l : List S61) (t a b : Int) : List S61 × Int :=
  if vclockS l = true then (if t ≤ (rd_T61 l ((l.length : Int) - 1)).f0 ∨ t > 1099511627776 then ([], 2) else if usualS a b = true then (if l.length = 64 then ([], 3) else (l ++ [⟨t, ⟨a, b⟩⟩], 0)) else ([], 1)) else ([], 1)
theorem change_ev (l : List S61) (hl : (l.length : Int) ≤ 1000) (t a b : Int) : Ev (fun k => clock_Change.f k l t a b) (changeS l t a b) := by
  unfold clock_Change.f changeS
  refine Ev.bind (valid_clock l hl) ?_
  by_cases hv : vclockS l = true
  rotate_left
  · simp only [if_neg hv]
    exact Ev.now _
  · simp only [if_pos hv]
    obtain ⟨_, n1, n2⟩ := vclockS_iff.1 hv
    rw [w64 (n := (l.length : Int) - 1) (by omega) (by omega)]
    simp only [if_pos (show 0 ≤ (l.length : Int) - 1 by omega), if_pos (show (l.length : Int) - 1 < (l.length : Int) by omega)]
    generalize (rd_T61 l ((l.length : Int) - 1)).f0 = p
    have out : ∀ k, clock_Change.j0 (k + 1) t (l.length : Int) true l a b = some ([], 2) := fun k => by simp only [clock_Change.j0, if_true]
    by_cases c1 : t ≤ p
    · rw [if_pos (Or.inl c1)]
      simp only [if_pos c1]
      exact Ev.step (f := fun _ => some ([], 2)) out (Ev.now _)
    · simp only [if_neg c1]
      by_cases c2 : t > 1099511627776
      · rw [if_pos (Or.inr c2), decide_eq_true c2]
        exact Ev.step (f := fun _ => some ([], 2)) out (Ev.now _)
      · rw [if_neg (by omega), decide_eq_false c2]
        refine Ev.step (f := ?f) (fun k => ?h) ?g
        case h =>
          rw [clock_Change.j0, if_neg (by decide)]
        case g =>
          refine Ev.bind (usual_ev a b) ?_
          by_cases hu : usualS a b = true
          · simp only [if_pos hu]
            by_cases h64 : l.length = 64
            · simp only [if_pos h64, if_pos (show (l.length : Int) = 64 by omega)]
              exact Ev.now _
            · rw [w64 (n := (l.length : Int) + 1) (by omega) (by omega)]
              simp only [if_neg h64, if_neg (show ¬ (l.length : Int) = 64 by omega), if_pos (show 0 ≤ (l.length : Int) + 1 by omega), if_pos (show ((l.length : Int) + 1).toNat ≤ 11728124029610 by omega), Option.bind_some, List.length_nil, List.nil_append, Nat.zero_add, if_pos (show l.length < 5864062014805 by omega)]
              exact Ev.now _
          · simp only [if_neg hu]
            exact Ev.now _

/-! Positions -/
abbrev Pc := clock_position.Pc
theorem at_ev {p : Pc} (hu : usualS p.nu p.de = true) (t : Int) (h0 : -1099511627776 ≤ t - p.fr) (h1 : t - p.fr ≤ 1099511627776) (b0 : 0 ≤ p.be) (b1 : p.be ≤ 1125899906842624) :
    Ev (fun k => p.at k t) (p.be + (t - p.fr) * p.nu / p.de) := by
  unfold clock_position.Pc.at clock_piece_at.f
  rw [w64 (n := t - p.fr) (by omega) (by omega)]
  refine Ev.bind (floor_ev _ _ _) ?_
  rw [floor_usual hu h0 h1]
  have hb : -1125899906842624 ≤ (t - p.fr) * p.nu / p.de ∧ (t - p.fr) * p.nu / p.de ≤ 1125899906842624 := by
    by_cases c : 0 ≤ t - p.fr
    · have := usual_quot hu c; omega
    · have := usual_quot_neg hu (show t - p.fr ≤ 0 by omega); omega
  rw [w64 (by omega) (by omega)]
  exact Ev.now _
/-- The pieces of a clock that begins with b frames. -/
def cutS : List S61 → Int → List Pc
 | [], _ => []
 | s :: r, b => ⟨s.f0, s.f1.f0, s.f1.f1, clock_position.till r, b⟩ :: cutS r (b + (clock_position.till r - s.f0) * s.f1.f0 / s.f1.f1)
theorem till_good {q : Int} {r : List S61} (h : goodS (some q) r = true) (hq : q ≤ 1099511627776) : q ≤ clock_position.till r ∧ clock_position.till r ≤ 1099511627776 := by
  cases r with
  | nil => exact ⟨hq, Int.le_refl _⟩
  | cons s r =>
    obtain ⟨_, h2, _, h4, _⟩ := goodS_cons.1 h
    have := h4 q rfl
    exact ⟨by simp only [clock_position.till]; omega, h2⟩
theorem cut_ev : ∀ (l : List S61) (q : Int) (b : Int), goodS (some q) l = true → -1 ≤ q → 0 ≤ b → b ≤ clock_position.till l * 1024 → Ev (fun k => clock_position.cut k l b) (cutS l b)
 | [], _, b, _, _, _, _ => Ev.now _
 | s :: r, q, b, hg, hq, hb, hb' => by
  obtain ⟨h1, h2, _, h4, h5⟩ := goodS_cons.1 hg
  have hqs := h4 q rfl
  obtain ⟨t1, t2⟩ := till_good h5 h2
  simp only [clock_position.till] at hb'
  have hn := usual_quot h1 (show 0 ≤ clock_position.till r - s.f0 by omega)
  simp only [clock_position.cut, cutS]
  refine Ev.bind (at_ev (p := ⟨s.f0, s.f1.f0, s.f1.f1, clock_position.till r, b⟩) h1 _ (by simp only; omega) (by simp only; omega) hb (by simp only; omega)) ?_
  refine Ev.bind (cut_ev r s.f0 _ h5 (by omega) (by simp only; omega) (by simp only; omega)) ?_
  exact Ev.now _
end Go.Proofs.YthnmmiofhjbkeaaX
