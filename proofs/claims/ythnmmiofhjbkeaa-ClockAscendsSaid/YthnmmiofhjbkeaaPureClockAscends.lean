/-
  The plain law behind ClockAscends: a clock never goes backwards, frames between times add up, and the time of a frame is the first one at which it is there.
  Conditions: none beyond the statement's own guards.
-/
import Derived.Test.YthnmmiofhjbkeaaPAx24
import Derived.Test.YthnmmiofhjbkeaaPAx26
import Derived.Test.YthnmmiofhjbkeaaKSane
import Derived.Test.YthnmmiofhjbkeaaKRef
namespace Go.Proofs.Ythnmmiofhjbkeaa.Pure
open Go.RowKit Go.Proofs.Ythnmmiofhjbkeaa.PA Go.Proofs.YthnmmiofhjbkeaaX Go.Proofs.YthnmmiofhjbkeaaW.PrintWords Go.Proofs.YthnmmiofhjbkeaaW.PrintLast Go.Proofs.YthnmmiofhjbkeaaW.PrintMore
theorem ClockAscends : soundservicelaw13_ClockAscends.Pure := by
  intro d t m f hm hm2 hd ht hmm hf
  obtain ⟨t0, t1⟩ := u16_of ht
  obtain ⟨m0, m1⟩ := u8_of hmm
  obtain ⟨f0, f1⟩ := u16_of hf
  refine Ev.rounds (g := fun k => soundservicelaw13_ClockAscends.f k d t m f) ?_
  unfold soundservicelaw13_ClockAscends.f
  refine Ev.bind sane13_ev ?_
  simp only [if_true]
  obtain ⟨l, hev, hv⟩ := made13 (bytes_of hd)
  rw [tmod_pos t0, w64 (n := t % 700) (by omega) (by omega), w64 (n := m) (by omega) (by omega), w64 (n := f) (by omega) (by omega), w64 (n := t % 700 + m) (by omega) (by omega)]
  generalize ha : t % 700 = a
  have hb : ∃ b, a + m = b := ⟨_, rfl⟩
  obtain ⟨b, hb⟩ := hb
  rw [hb]
  have pm := posS_mono hv (t := a) (u := b) (by omega) (by omega)
  have p1 := posS_bound hv (t := a) (by omega)
  have p2 := posS_bound hv (t := b) (by omega)
  have hbt : Ev (fun k => clock_Between.f k l a b) (posS l b - posS l a, 0) := by
    unfold clock_Between.f
    refine Ev.bind (valid_clock l (by have := (vclockS_iff.1 hv).2.2; omega)) ?_
    simp only [if_pos hv, if_neg (show ¬ a < 0 by omega), if_neg (show ¬ b > 1099511627776 by omega), decide_eq_false (show ¬ b < a by omega)]
    refine Ev.step (f := ?f) (fun k => ?h) ?g
    case h => rw [clock_Between.j0, if_neg (by decide)]
    case g =>
      refine Ev.bind (position_ev hv (t := b) (by omega) (by omega)) (Ev.bind (position_ev hv (t := a) (by omega) (by omega)) ?_)
      rw [w64 (by omega) (by omega)]
      exact Ev.now _
  refine Ev.bind hev (Ev.bind (Position_ev hv (by omega) (by omega)) (Ev.bind (Position_ev hv (by omega) (by omega)) (Ev.bind hbt (Ev.bind (timeof_ev hv f) ?_))))
  rw [if_neg (by omega)]
  simp only [if_true, if_neg (show ¬ posS l a > posS l b by omega)]
  rw [w64 (n := posS l b - posS l a) (by omega) (by omega), show ((posS l b - posS l a) != (posS l b - posS l a)) = false by simp]
  rcases timeof_spec hv f with ⟨e, _⟩ | ⟨v, e, v0, v1, g1, g2⟩
  · rw [e]
    refine Ev.step (f := fun _ => some true) (fun k => ?_) (Ev.now _)
    simp [soundservicelaw13_ClockAscends.j0]
  · rw [e]
    show Ev (fun n => soundservicelaw13_ClockAscends.j0 n f v 0 false l) true
    refine Ev.step (f := ?f3) (fun k => ?h3) ?g3
    case h3 => rw [soundservicelaw13_ClockAscends.j0, if_neg (by decide), if_pos rfl]
    case g3 =>
      refine Ev.bind (Position_ev hv v0 v1) ?_
      simp only [if_true]
      rw [w64 (n := f) (by omega) (by omega), decide_eq_false (show ¬ posS l v < f by omega)]
      refine Ev.step (f := ?f2) (fun k => ?h2) ?g2
      case h2 => rw [soundservicelaw13_ClockAscends.j1, if_neg (by decide)]
      case g2 =>
        by_cases c : v = 0
        · simp only [if_pos c]
          subst c
          have := posS_bound hv (t := 0) (by omega)
          rw [show (f == 0) = true by rw [beq_iff_eq]; omega]
          exact Ev.now _
        · simp only [if_neg c]
          rw [w64 (n := v - 1) (by omega) (by omega)]
          refine Ev.bind (Position_ev hv (t := v - 1) (by omega) (by omega)) ?_
          simp only [if_true]
          rw [w64 (n := f) (by omega) (by omega), decide_eq_true (g2 (by omega))]
          exact Ev.now _
end Go.Proofs.Ythnmmiofhjbkeaa.Pure
