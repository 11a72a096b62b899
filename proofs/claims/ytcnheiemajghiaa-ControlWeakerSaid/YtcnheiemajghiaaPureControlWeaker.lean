/-
  The plain law behind ControlWeaker: a greater drift, jitter or start never gives a lesser bound or demand, and a plan for more needs a target and a capacity that are not lesser.
  Conditions: none beyond the statement's own guards.
-/
import Derived.Test.YtcnheiemajghiaaPAx14
import Derived.Test.YtcnheiemajghiaaYBound
import Derived.Test.YtcnheiemajghiaaYMade
namespace Go.Proofs.Ytcnheiemajghiaa.Pure
open Go.RowKit Go.Proofs.Ytcnheiemajghiaa.PA Go.Proofs.YtcnheiemajghiaaX Go.Proofs.YtcnheiemajghiaaW.PrintWords Go.Proofs.YtcnheiemajghiaaW.PrintLast Go.Proofs.YtcnheiemajghiaaW.PrintMore
theorem fin (b : Bool) (h : b = true) : Ev (fun k => soundservicelaw18_ControlWeaker.j0 k b) true := by
  subst h
  refine Ev.step (f := fun k => soundservicelaw18_ControlWeaker.j1 k true) (fun k => by simp only [soundservicelaw18_ControlWeaker.j0]) ?_
  exact Ev.step (f := fun _ => some true) (fun k => by simp only [soundservicelaw18_ControlWeaker.j1]) (Ev.now _)
theorem poss_made {p q : Int} (h : p = 64 ∧ q = 1 ∨ p = 294 ∧ q = 5 ∨ p = 1 ∧ q = 64 ∨ p = 1024 ∧ q = 3) : possS p q = true := by
  rcases h with ⟨rfl, rfl⟩ | ⟨rfl, rfl⟩ | ⟨rfl, rfl⟩ | ⟨rfl, rfl⟩ <;> decide +kernel
theorem mx_mono {a b c d : Int} (h : a ≤ c) (h' : b ≤ d) : mx a b ≤ mx c d := by unfold mx; split <;> split <;> omega
/-- A greater start, drift, jitter and greatest adjustment never give a lesser bound. -/
theorem boundS_mono {t d g m p q k j s m' k' j' s' : Int} (h : (boundS t d g m p q k j s).2 = 0) (h' : (boundS t d g m' p q k' j' s').2 = 0) (hm : m ≤ m') (hk : k ≤ k') (hj : j ≤ j') (hs : s ≤ s') :
    (boundS t d g m p q k j s).1 ≤ (boundS t d g m' p q k' j' s').1 := by
  obtain ⟨hv, hd, _, _, e⟩ := boundS_ok h
  obtain ⟨hv', hd', _, _, e'⟩ := boundS_ok h'
  obtain ⟨⟨t0, t1, d0, d1, g0, g1, m0, m1⟩, ⟨p0, p1, q0, q1⟩, k0, k1, j0, j1, eu, u0, u1, ew, w0, w1⟩ := nums hv hd
  obtain ⟨⟨_, _, _, _, _, _, m0', m1'⟩, _, k0', k1', j0', j1', _⟩ := nums hv' hd'
  have a := upS_mono (a := m) (a' := m') (b := g) (b' := g) m0' g0 hm (Int.le_refl _)
  have b := wobS_mono (n := k + m) (n' := k' + m') p0 q0 (by omega) (by omega)
  have c := mx_mono hs (show d + upS m g ≤ d + upS m' g by omega)
  rw [e, e']
  omega
theorem demandS_mono {t d g m p q k j m' k' j' : Int} (h : (demandS t d g m p q k j).2 = 0) (h' : (demandS t d g m' p q k' j').2 = 0) (hm : m ≤ m') (hk : k ≤ k') (hj : j ≤ j') :
    (demandS t d g m p q k j).1 ≤ (demandS t d g m' p q k' j').1 := by
  unfold demandS at h h' ⊢
  by_cases c : (boundS t d g m p q k j 0).2 = 0
  · by_cases c' : (boundS t d g m' p q k' j' 0).2 = 0
    · obtain ⟨hv, hd, _, _, _⟩ := boundS_ok c
      obtain ⟨hv', hd', _, _, _⟩ := boundS_ok c'
      obtain ⟨⟨t0, t1, d0, d1, g0, g1, m0, m1⟩, ⟨p0, p1, q0, q1⟩, k0, k1, j0, j1, eu, u0, u1, ew, w0, w1⟩ := nums hv hd
      have b := wobS_mono (n := k + m) (n' := k' + m') p0 q0 (by omega) (by omega)
      rw [if_pos c, if_pos c']
      dsimp only
      omega
    · rw [if_neg c'] at h'; exact absurd h' c'
  · rw [if_neg c] at h; exact absurd h c
theorem mostS_mono {k k' : Int} (h : k ≤ k') (h0 : 0 ≤ k) (h1 : k' ≤ 4096) : mostS k ≤ mostS k' := upS_mono (by omega) (by omega) (by omega) (by omega)
theorem planS_ok {p q k j d g : Int} (h : (planS p q k j d g).2.2.2.2.2 = 0) :
    declS p q k j = true ∧ (boundS 0 d g (mostS k) p q k j (wobS p q k + j + 1)).2 = 0 ∧ (demandS 0 d g (mostS k) p q k j).2 = 0 ∧
      (planS p q k j d g).1 = (demandS 0 d g (mostS k) p q k j).1 + (boundS 0 d g (mostS k) p q k j (wobS p q k + j + 1)).1 ∧ (planS p q k j d g).2.2.2.1 = mostS k ∧
      (planS p q k j d g).2.2.2.2.1 = (demandS 0 d g (mostS k) p q k j).1 + (boundS 0 d g (mostS k) p q k j (wobS p q k + j + 1)).1 + (boundS 0 d g (mostS k) p q k j (wobS p q k + j + 1)).1 := by
  unfold planS at h ⊢
  split at h
  · rename_i c
    rw [if_pos c]
    split at h
    · exact absurd h (by decide)
    · rename_i c2
      rw [if_neg c2]
      split at h
      · rename_i c3
        rw [if_pos c3]
        exact ⟨c.1, c3.1, c3.2.1, rfl, rfl, rfl⟩
      · exact absurd h (by decide)
  · exact absurd h (by decide)
theorem ControlWeaker : soundservicelaw18_ControlWeaker.Pure := by
  intro l k j n _ _ hl hk hj hn
  obtain ⟨k0, k1⟩ := u8_of hk
  obtain ⟨j0, j1⟩ := u8_of hj
  obtain ⟨n0, n1⟩ := u8_of hn
  refine Ev.rounds (g := fun s => soundservicelaw18_ControlWeaker.f s l k j n) ?_
  unfold soundservicelaw18_ControlWeaker.f
  rw [csane]
  obtain ⟨l1, e1, b1⟩ := new_some (bytes_of hl)
  obtain ⟨_, _, _, _, p, q, _, _, l2, e2, H, _⟩ := made18_some b1
  have hp := poss_made H.period
  rw [e1]
  simp only [Option.bind_some, if_true]
  rw [e2]
  simp only [Option.bind_some]
  rw [w64 (n := k) (by omega) (by omega), w64 (n := j) (by omega) (by omega), w64 (n := n) (by omega) (by omega), w64 (n := k + n) (by omega) (by omega), w64 (n := j + n) (by omega) (by omega), w64 (n := 2 * n) (by omega) (by omega)]
  have hv : validC 0 3 5 2000 = true := by decide
  have ok : ∀ k' j' s', 0 ≤ k' → k' ≤ 510 → 0 ≤ j' → j' ≤ 510 → 0 ≤ s' → s' ≤ 510 → (boundS 0 3 5 2000 p q k' j' s').2 = 0 := by
    intro k' j' s' a b c d e f
    have hd : declS p q k' j' = true := declS_iff.2 ⟨hp, by omega⟩
    unfold boundS
    rw [if_pos ⟨hv, hd, by omega, by omega⟩, if_neg (by omega)]
  have okd : ∀ k' j', 0 ≤ k' → k' ≤ 510 → 0 ≤ j' → j' ≤ 510 → (demandS 0 3 5 2000 p q k' j').2 = 0 := by
    intro k' j' a b c d
    unfold demandS
    rw [if_pos (ok k' j' 0 a b c d (by omega) (by omega))]
  refine Ev.bind (bound_ev _ _ _ _ _ _ _ _ _) (Ev.bind (bound_ev _ _ _ _ _ _ _ _ _) (Ev.bind (bound_ev _ _ _ _ _ _ _ _ _) (Ev.bind (demand_ev _ _ _ _ _ _ _ _) (Ev.bind (demand_ev _ _ _ _ _ _ _ _) (Ev.bind (plan_ev _ _ _ _ _ _) (Ev.bind (plan_ev _ _ _ _ _ _) ?_))))))
  have o1 := ok k j n k0 (by omega) j0 (by omega) n0 (by omega)
  have o2 := ok (k + n) j n (by omega) (by omega) j0 (by omega) n0 (by omega)
  have o3 := ok k (j + n) (2 * n) k0 (by omega) (by omega) (by omega) (by omega) (by omega)
  have o4 := okd k j k0 (by omega) j0 (by omega)
  have o5 := okd (k + n) (j + n) (by omega) (by omega) (by omega) (by omega)
  simp only [if_pos o1, if_pos o2, if_pos o3, if_pos o4, if_pos o5, if_pos (boundS_mono o1 o2 (Int.le_refl _) (show k ≤ k + n by omega) (Int.le_refl _) (Int.le_refl _)),
    if_pos (boundS_mono o1 o3 (Int.le_refl _) (Int.le_refl _) (show j ≤ j + n by omega) (show n ≤ 2 * n by omega)), if_pos (demandS_mono o4 o5 (Int.le_refl _) (show k ≤ k + n by omega) (show j ≤ j + n by omega))]
  by_cases c1 : (planS p q k j 4 9).2.2.2.2.2 = 0
  · by_cases c2 : (planS p q (k + n) (j + n) 4 9).2.2.2.2.2 = 0
    · obtain ⟨a1, a2, a3, a4, a5, a6⟩ := planS_ok c1
      obtain ⟨b1, b2, b3, b4, b5, b6⟩ := planS_ok c2
      have mo := mostS_mono (show k ≤ k + n by omega) k0 (by omega)
      obtain ⟨hvx, _⟩ := boundS_ok a2
      obtain ⟨_, ⟨p0, p1, q0, q1⟩, _⟩ := nums hvx a1
      have wm := wobS_mono (n := k) (n' := k + n) p0 q0 k0 (by omega)
      have bm := boundS_mono a2 b2 mo (show k ≤ k + n by omega) (show j ≤ j + n by omega) (by omega)
      have dm := demandS_mono a3 b3 mo (show k ≤ k + n by omega) (show j ≤ j + n by omega)
      simp only [if_pos c1, if_pos c2]
      rw [a4, a5, a6, b4, b5, b6]
      simp only [if_pos (show (demandS 0 4 9 (mostS k) p q k j).1 + (boundS 0 4 9 (mostS k) p q k j (wobS p q k + j + 1)).1 ≤ (demandS 0 4 9 (mostS (k + n)) p q (k + n) (j + n)).1 + (boundS 0 4 9 (mostS (k + n)) p q (k + n) (j + n) (wobS p q (k + n) + (j + n) + 1)).1 by omega),
        if_pos (show (demandS 0 4 9 (mostS k) p q k j).1 + (boundS 0 4 9 (mostS k) p q k j (wobS p q k + j + 1)).1 + (boundS 0 4 9 (mostS k) p q k j (wobS p q k + j + 1)).1 ≤ (demandS 0 4 9 (mostS (k + n)) p q (k + n) (j + n)).1 + (boundS 0 4 9 (mostS (k + n)) p q (k + n) (j + n) (wobS p q (k + n) + (j + n) + 1)).1 + (boundS 0 4 9 (mostS (k + n)) p q (k + n) (j + n) (wobS p q (k + n) + (j + n) + 1)).1 by omega)]
      exact fin _ (decide_eq_true mo)
    · simp only [if_pos c1, if_neg c2]; exact fin _ rfl
  · simp only [if_neg c1]; exact fin _ rfl
end Go.Proofs.Ytcnheiemajghiaa.Pure
