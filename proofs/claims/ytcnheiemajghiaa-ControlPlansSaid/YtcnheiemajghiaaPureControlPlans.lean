/-
  The plain law behind ControlPlans: a plan's settings serve the plan's own bound and demand, or nothing is planned; a weaker
  declaration keeps what a stronger one keeps.
  Conditions: none beyond the statement's own guards.
-/
import Derived.Test.YtcnheiemajghiaaPAx0
import Derived.Test.YtcnheiemajghiaaPAx9
import Derived.Test.YtcnheiemajghiaaYDecl
import Derived.Test.YtcnheiemajghiaaYMade
namespace Go.Proofs.Ytcnheiemajghiaa.Pure
open Go.RowKit Go.Proofs.Ytcnheiemajghiaa.PA Go.Proofs.YtcnheiemajghiaaX Go.Proofs.YtcnheiemajghiaaW.PrintWords Go.Proofs.YtcnheiemajghiaaW.PrintLast Go.Proofs.YtcnheiemajghiaaW.PrintMore
theorem rd_byte {l : List Int} (h : Bytes l) (i : Int) : 0 ≤ rd l i ∧ rd l i ≤ 255 := by
  unfold rd
  rw [List.getD_eq_getElem?_getD]
  cases e : l[i.toNat]? with
  | none => simp
  | some x => exact h x (List.mem_of_getElem? e)
theorem plan_none {p q k j d g : Int} (h : ¬ (planS p q k j d g).2.2.2.2.2 = 0) : (planS p q k j d g).1 = 0 ∧ (planS p q k j d g).2.1 = 0 ∧ (planS p q k j d g).2.2.1 = 0 ∧ (planS p q k j d g).2.2.2.1 = 0 ∧ (planS p q k j d g).2.2.2.2.1 = 0 := by
  unfold planS at h ⊢
  split
  · rename_i c1
    rw [if_pos c1] at h
    split
    · exact ⟨rfl, rfl, rfl, rfl, rfl⟩
    · rename_i c2
      rw [if_neg c2] at h
      split
      · rename_i c3
        rw [if_pos c3] at h
        exact absurd rfl h
      · exact ⟨rfl, rfl, rfl, rfl, rfl⟩
  · exact ⟨rfl, rfl, rfl, rfl, rfl⟩
/-- What a bound is where it is none of the errors. -/
theorem bound_at {t d g m p q k j s : Int} (hv : validC t d g m = true) (hd : declS p q k j = true) (hs : 0 ≤ s ∧ s ≤ 65536) (hm : 65536 * k ≤ m * (65536 - k)) : boundS t d g m p q k j s = (mx s (d + upS m g) + wobS p q (k + m) + 2 * j + 2, 0) := by
  unfold boundS
  rw [if_pos ⟨hv, hd, hs.1, hs.2⟩, if_neg (by omega)]
theorem demand_at {t d g m p q k j : Int} (h : (boundS t d g m p q k j 0).2 = 0) : demandS t d g m p q k j = (upS p q + wobS p q (k + m) + 2 * j + 3, 0) := by
  unfold demandS
  rw [if_pos h]
theorem plan_some {p q k j d g : Int} (h : (planS p q k j d g).2.2.2.2.2 = 0) :
    ∃ t m e b D : Int, planS p q k j d g = (t, d, g, m, e, 0) ∧ boundS t d g m p q k j 0 = (b, 0) ∧ demandS t d g m p q k j = (D, 0) ∧ D ≤ t - b ∧ t + b ≤ e ∧ e ≤ 65536 ∧ (0 ≤ t ∧ t ≤ 65536 ∧ 0 ≤ b ∧ b ≤ 34359738368) ∧ validC t d g m = true := by
  by_cases c1 : declS p q k j = true ∧ 0 ≤ d ∧ d ≤ 65536 ∧ 1 ≤ g ∧ g ≤ 4096
  rotate_left
  · unfold planS at h
    rw [if_neg c1] at h
    exact absurd h (by decide)
  by_cases c2 : mostS k > 4096
  · unfold planS at h
    rw [if_pos c1, if_pos c2] at h
    exact absurd h (by decide)
  by_cases c3 : (boundS 0 d g (mostS k) p q k j (wobS p q k + j + 1)).2 = 0 ∧ (demandS 0 d g (mostS k) p q k j).2 = 0 ∧
          (demandS 0 d g (mostS k) p q k j).1 + (boundS 0 d g (mostS k) p q k j (wobS p q k + j + 1)).1 + (boundS 0 d g (mostS k) p q k j (wobS p q k + j + 1)).1 ≤ 65536
  rotate_left
  · unfold planS at h
    rw [if_pos c1, if_neg c2, if_neg c3] at h
    exact absurd h (by decide)
  have hP : planS p q k j d g = ((demandS 0 d g (mostS k) p q k j).1 + (boundS 0 d g (mostS k) p q k j (wobS p q k + j + 1)).1, d, g, mostS k,
          (demandS 0 d g (mostS k) p q k j).1 + (boundS 0 d g (mostS k) p q k j (wobS p q k + j + 1)).1 + (boundS 0 d g (mostS k) p q k j (wobS p q k + j + 1)).1, 0) := by
    unfold planS
    rw [if_pos c1, if_neg c2, if_pos c3]
  obtain ⟨hb, hD, hle⟩ := c3
  obtain ⟨hv, hdc, hs, hm, hb1⟩ := boundS_ok hb
  have hv0 := validC_iff.1 hv
  have b0 := bound_at (s := 0) hv hdc ⟨by decide, by decide⟩ hm
  have hDe : demandS 0 d g (mostS k) p q k j = (upS p q + wobS p q (k + mostS k) + 2 * j + 3, 0) := demand_at (by rw [b0])
  have bi := boundS_in 0 d g (mostS k) p q k j (wobS p q k + j + 1)
  have di := demandS_in 0 d g (mostS k) p q k j
  have b0i := boundS_in 0 d g (mostS k) p q k j 0
  rw [b0] at b0i
  simp only at b0i
  have hv2 : validC ((demandS 0 d g (mostS k) p q k j).1 + (boundS 0 d g (mostS k) p q k j (wobS p q k + j + 1)).1) d g (mostS k) = true := validC_iff.2 ⟨by omega, by omega, hv0.2.2⟩
  have hbt := bound_at (s := 0) hv2 hdc ⟨by decide, by decide⟩ hm
  have hmx : mx 0 (d + upS (mostS k) g) ≤ mx (wobS p q k + j + 1) (d + upS (mostS k) g) := by
    unfold mx
    split <;> split <;> omega
  refine ⟨_, _, _, _, upS p q + wobS p q (k + mostS k) + 2 * j + 3, hP, hbt, ?_, ?_, ?_, hle, ⟨by omega, by omega, b0i.1, b0i.2⟩, hv2⟩
  · exact demand_at (by rw [hbt])
  · rw [hDe]
    simp only
    omega
  · omega
theorem j2_ev {x11 x12 p q d g : Int} : Ev (fun k => soundservicelaw18_ControlPlans.j2 k x11 x12 (planS p q x11 x12 d g).2.2.2.2.1 (planS p q x11 x12 d g).2.2.2.2.2 false p q (planS p q x11 x12 d g).1 (planS p q x11 x12 d g).2.1 (planS p q x11 x12 d g).2.2.1 (planS p q x11 x12 d g).2.2.2.1) true := by
  refine Ev.step (f := ?fa) (fun k => ?ha) ?ga
  case ha =>
    rw [soundservicelaw18_ControlPlans.j2, if_neg (by decide)]
  case ga =>
    by_cases h : (planS p q x11 x12 d g).2.2.2.2.2 = 0
    · obtain ⟨t, m, e, b, D, e1, e2, e3, h1, h2, h3, ⟨t0, t1, b0, b1⟩, hv⟩ := plan_some h
      rw [e1]
      simp only [if_true]
      refine Ev.bind (bound_ev t d g m p q x11 x12 0) (Ev.bind (demand_ev t d g m p q x11 x12) ?_)
      rw [e2, e3]
      simp only [if_true]
      rw [w64 (n := t - b) (by omega) (by omega), w64 (n := t + b) (by omega) (by omega), if_pos (show t - b ≥ D from h1), if_pos h2, if_pos h3, cvalid, hv]
      exact Ev.now _
    · obtain ⟨e1, e2, e3, e4, e5⟩ := plan_none h
      simp only [if_neg h, e1, e2, e3, e4, e5]
      exact Ev.now _
theorem j1_ev {x11 x12 p q d g : Int} (h11 : 0 ≤ x11 ∧ x11 ≤ 4096) (h12 : 0 ≤ x12 ∧ x12 ≤ 19) {xs : List S54} (hs : Small xs) (hn : xs.length ≤ 256) :
    Ev (fun k => soundservicelaw18_ControlPlans.j1 k x11 x12 (planS p q x11 x12 d g).2.2.2.2.1 (planS p q x11 x12 d g).2.2.2.2.2 xs p q (planS p q x11 x12 d g).1 (planS p q x11 x12 d g).2.1 (planS p q x11 x12 d g).2.2.1 (planS p q x11 x12 d g).2.2.2.1) true := by
  refine Ev.step (f := ?fa) (fun k => ?ha) ?ga
  case ha =>
    rw [soundservicelaw18_ControlPlans.j1]
  case ga =>
    rw [tdiv_pos h11.1, w64 (n := x11 / 2) (by omega) (by omega), w64 (n := x12 + 1) (by omega) (by omega)]
    refine Ev.bind (declared_ev (d := x11 / 2) (j := x12) (by omega) (by omega) hs hn) ?_
    cases r : loopI (x11 / 2) (65536 * x12) xs zeros with
    | false => exact j2_ev
    | true =>
      simp only [if_true]
      refine Ev.bind (declared_ev (d := x11) (j := x12 + 1) (by omega) (by omega) hs hn) ?_
      rw [weaker (show x11 / 2 ≤ x11 by omega) (show 65536 * x12 ≤ 65536 * (x12 + 1) by omega) xs r]
      exact j2_ev
theorem build_ev {l3 : List Int} (hb : Bytes l3) {x11 x12 x14 x15 a b c d e f : Int} (fin : ∀ xs : List S54, Small xs → xs.length ≤ 13 → Ev (fun k => soundservicelaw18_ControlPlans.j1 k x11 x12 x14 x15 xs a b c d e f) true) :
    ∀ (n i : Nat) (x : Int) (xs : List S54), n + i = 13 → x = 2 * (i : Int) → Small xs → xs.length ≤ i → Ev (fun k => soundservicelaw18_ControlPlans.l0 k l3 x11 x12 x14 x15 xs x a b c d e f) true := by
  intro n
  induction n with
  | zero =>
    intro i x xs hi hx hs hl
    refine Ev.step (f := fun k => soundservicelaw18_ControlPlans.j1 k x11 x12 x14 x15 xs a b c d e f) (fun k => ?_) (fin xs hs (by omega))
    rw [soundservicelaw18_ControlPlans.l0]
    split
    · rw [if_neg (by omega)]
    · rfl
  | succ n ih =>
    intro i x xs hi hx hs hl
    by_cases h : (wrap64 (x + 1)) < (l3.length : Int) ∧ x < 24
    · have w1 : wrap64 (x + 1) = x + 1 := w64 (by omega) (by omega)
      have w2 : wrap64 (x + 2) = x + 2 := w64 (by omega) (by omega)
      have r1 := rd_byte hb x
      have r2 := rd_byte hb (x + 1)
      rw [w1] at h
      refine Ev.step (f := ?fa) (fun k => ?ha) ?ga
      case ha =>
        rw [soundservicelaw18_ControlPlans.l0, w1, w2, if_pos h.1, if_pos h.2, if_pos (by omega), if_pos (by omega), if_pos (by omega), if_pos (by omega)]
      case ga =>
        refine ih (i + 1) (x + 2) _ (by omega) (by omega) ?_ (by rw [List.length_append]; simp; omega)
        intro s hs'
        rcases List.mem_append.1 hs' with h' | h'
        · exact hs s h'
        · obtain rfl := List.mem_singleton.1 h'
          simp only
          rw [tmod_pos r1.1, tmod_pos r2.1, w64 (n := rd l3 x % 5) (by omega) (by omega), w64 (n := rd l3 (x + 1) % 5) (by omega) (by omega), w64 (n := 62 + rd l3 x % 5) (by omega) (by omega), w64 (n := 62 + rd l3 (x + 1) % 5) (by omega) (by omega)]
          omega
    · refine Ev.step (f := fun k => soundservicelaw18_ControlPlans.j1 k x11 x12 x14 x15 xs a b c d e f) (fun k => ?_) (fin xs hs (by omega))
      rw [soundservicelaw18_ControlPlans.l0]
      split
      · rw [if_neg (by omega)]
      · rfl
theorem ControlPlans : soundservicelaw18_ControlPlans.Pure := by
  intro l0 a1 a2 l3 _ _ h0 _ _ _ _ h3
  refine Ev.rounds (g := fun k => soundservicelaw18_ControlPlans.f k l0 a1 a2 l3) ?_
  unfold soundservicelaw18_ControlPlans.f
  rw [csane]
  obtain ⟨l1, e1, b1⟩ := new_some (bytes_of h0)
  obtain ⟨t, d, g, m, p, q, k, j, l2, e2, hM, _⟩ := made18_some b1
  rw [e1]
  simp only [Option.bind_some, if_true]
  rw [e2]
  simp only [Option.bind_some]
  refine Ev.bind (plan_ev p q k j _ _) ?_
  have hk : 0 ≤ k ∧ k ≤ 4096 := by
    rcases hM.drift with h | h | h | h | h <;> omega
  exact build_ev (bytes_of h3) (fun xs hs hn => j1_ev hk hM.jitter hs (by omega)) 13 0 0 [] rfl (by simp) (fun s hs => absurd hs (by simp)) (Nat.le_refl _)
end Go.Proofs.Ytcnheiemajghiaa.Pure
