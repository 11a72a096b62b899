/-
  What the statements about ratios make: terms, valid ratios; the sanity check holds.
-/
import Derived.Test.YtoolpnpmfagngaaPAx6
import Derived.Test.YtoolpnpmfagngaaPAx8
import Derived.Test.YtoolpnpmfagngaaXFloor
namespace Go.Proofs.YtoolpnpmfagngaaX
open Go.RowKit Go.Proofs.Ytoolpnpmfagngaa.PA Go.Proofs.YtoolpnpmfagngaaW.PrintWords Go.Proofs.YtoolpnpmfagngaaW.PrintLast Go.Proofs.YtoolpnpmfagngaaW.PrintMore
theorem tmod_sign {a c : Int} : Int.tmod a c = if 0 ≤ a then a % c else -((-a) % c) := by
  by_cases h : 0 ≤ a
  · rw [if_pos h, tmod_pos h]
  · rw [if_neg h]
    have : Int.tmod (- -a) c = -Int.tmod (-a) c := Int.neg_tmod ..
    rw [Int.neg_neg] at this
    rw [this, tmod_pos (by omega)]
theorem tmod_abs {a c : Int} (hc : 0 < c) : -c < Int.tmod a c ∧ Int.tmod a c < c ∧ (∀ M, -M < a → a < M → -M < Int.tmod a c ∧ Int.tmod a c < M) := by
  rw [tmod_sign]
  have h1 := Int.emod_nonneg a (Int.ne_of_gt hc)
  have h2 := Int.emod_lt_of_pos a hc
  have h3 := Int.emod_nonneg (-a) (Int.ne_of_gt hc)
  have h4 := Int.emod_lt_of_pos (-a) hc
  by_cases h : 0 ≤ a
  · rw [if_pos h]
    have e := Int.mul_ediv_add_emod a c
    have q := Int.mul_nonneg (Int.le_of_lt hc) (Int.ediv_nonneg h (Int.le_of_lt hc))
    refine ⟨by omega, by omega, fun M m1 m2 => by omega⟩
  · rw [if_neg h]
    have e := Int.mul_ediv_add_emod (-a) c
    have q := Int.mul_nonneg (Int.le_of_lt hc) (Int.ediv_nonneg (show 0 ≤ -a by omega) (Int.le_of_lt hc))
    refine ⟨by omega, by omega, fun M m1 m2 => by omega⟩
theorem term_some (a : Int) : ∃ t, soundservicelaw03_term.f a = some t ∧ 1 ≤ t ∧ t ≤ 68719476736 ∧ (∀ M, -M < a → a < M → t ≤ M) := by
  unfold soundservicelaw03_term.f
  obtain ⟨h1, h2, h3⟩ := tmod_abs (a := a) (c := 68719476736) (by decide)
  by_cases h : Int.tmod a 68719476736 < 0
  · rw [if_pos h, w64 (n := -(Int.tmod a 68719476736)) (by omega) (by omega), w64 (by omega) (by omega)]
    exact ⟨_, rfl, by omega, by omega, fun M m1 m2 => by have := h3 M m1 m2; omega⟩
  · rw [if_neg h, w64 (by omega) (by omega)]
    exact ⟨_, rfl, by omega, by omega, fun M m1 m2 => by have := h3 M m1 m2; omega⟩
theorem made_ev (a b : Int) : ∃ x y : Int, Ev (fun k => soundservicelaw03_made.f k a b) (x, y) ∧ validS x y = true ∧ (∀ M, -M < a → a < M → x ≤ M) ∧ (∀ M, -M < b → b < M → y ≤ M) := by
  obtain ⟨s, hs, s1, s2, s3⟩ := term_some a
  obtain ⟨t, ht, t1, t2, t3⟩ := term_some b
  obtain ⟨g, g1, e, v, l1, l2, _, _⟩ := makeS_valid s1 t1 s2 t2
  refine ⟨s / g, t / g, ?_, v, fun M m1 m2 => Int.le_trans l1 (s3 M m1 m2), fun M m1 m2 => Int.le_trans l2 (t3 M m1 m2)⟩
  unfold soundservicelaw03_made.f
  rw [hs, ht]
  simp only [Option.bind_some]
  refine Ev.bind (make_ev' (a := s) (b := t) (by omega) (by omega)) ?_
  rw [e]; exact Ev.now _
theorem sane_ev : Ev (fun k => soundservicelaw03_sane.f k) true := by
  unfold soundservicelaw03_sane.f
  refine Ev.bind (make_ev (a := 44100) (b := 48000) (by decide) (by decide)) ?_
  have e : makeS 44100 48000 = (147, 160, 0) := by decide +kernel
  rw [e]
  refine Ev.bind (floor_ev 1000 147 160) (Ev.bind (ceil_ev 1000 147 160) (Ev.bind (rest_ev 1000 147 160) ?_))
  have e1 : floorS 1000 147 160 = (918, 0) := by decide +kernel
  have e2 : ceilS 1000 147 160 = (919, 0) := by decide +kernel
  have e3 : restS 1000 147 160 = (120, 0) := by decide +kernel
  rw [e1, e2, e3]
  exact Ev.now _
end Go.Proofs.YtoolpnpmfagngaaX
