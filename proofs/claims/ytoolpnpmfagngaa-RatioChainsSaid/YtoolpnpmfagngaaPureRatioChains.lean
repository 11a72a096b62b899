/-
  The plain law behind RatioChains: rounding twice never gives more than rounding once, and rounded multiples add up but for one.
  Conditions: none beyond the statement's own guards.
-/
import Derived.Test.YtoolpnpmfagngaaPAx17
import Derived.Test.YtoolpnpmfagngaaXLaw03
import Derived.Test.YtoolpnpmfagngaaXMul
namespace Go.Proofs.Ytoolpnpmfagngaa.Pure
open Go.RowKit Go.Proofs.Ytoolpnpmfagngaa.PA Go.Proofs.YtoolpnpmfagngaaX Go.Proofs.YtoolpnpmfagngaaW.PrintWords Go.Proofs.YtoolpnpmfagngaaW.PrintLast Go.Proofs.YtoolpnpmfagngaaW.PrintMore
theorem u32_of {a : Int} (h : (Lit.int .u32 a).wf = true) : 0 ≤ a ∧ a ≤ 4294967295 := by
  simp [Lit.wf, IntKind.min, IntKind.max, IntKind.signed, IntKind.bits] at h; exact h
/-- A product of numbers that are not negative. -/
theorem prod_le {n x N X : Int} (h0 : 0 ≤ n) (h1 : n ≤ N) (x0 : 0 ≤ x) (x1 : x ≤ X) : 0 ≤ n * x ∧ n * x ≤ N * X :=
  ⟨Int.mul_nonneg h0 x0, Int.mul_le_mul h1 x1 x0 (by omega)⟩
theorem quot_le {p y B : Int} (hy : 1 ≤ y) (h0 : 0 ≤ p) (h1 : p ≤ B) : 0 ≤ p / y ∧ p / y ≤ B :=
  ⟨Int.ediv_nonneg h0 (by omega), Int.le_trans (Int.ediv_le_self _ h0) h1⟩
/-- Rounded quotients add up but for one. -/
theorem add_floor (p q y : Int) (hy : 1 ≤ y) : (p + q) / y - p / y - q / y = 0 ∨ (p + q) / y - p / y - q / y = 1 := by
  have e1 := Int.mul_ediv_add_emod p y
  have a1 := Int.emod_nonneg p (show y ≠ 0 by omega)
  have a2 := Int.emod_lt_of_pos p (show 0 < y by omega)
  have e2 := Int.mul_ediv_add_emod q y
  have b1 := Int.emod_nonneg q (show y ≠ 0 by omega)
  have b2 := Int.emod_lt_of_pos q (show 0 < y by omega)
  generalize p / y = s at *
  generalize p % y = r at *
  generalize q / y = t at *
  generalize q % y = u at *
  have : p + q = (r + u) + (s + t) * y := by subst e1 e2; grind
  rw [this, Int.add_mul_ediv_right _ _ (by omega)]
  by_cases c : r + u < y
  · rw [Int.ediv_eq_zero_of_lt (by omega) c]; omega
  · have : (r + u) / y = 1 := by
      have : r + u = (r + u - y) + 1 * y := by omega
      rw [this, Int.add_mul_ediv_right _ _ (by omega), Int.ediv_eq_zero_of_lt (by omega) (by omega)]
      rfl
    rw [this]; omega
theorem RatioChains : soundservicelaw03_RatioChains.Pure := by
  intro m n a b c d hm hn _ _ _ _
  obtain ⟨m0, m1⟩ := u32_of hm
  obtain ⟨n0, n1⟩ := u32_of hn
  refine Ev.rounds (g := fun k => soundservicelaw03_RatioChains.f k m n a b c d) ?_
  unfold soundservicelaw03_RatioChains.f
  obtain ⟨a1, a2, _⟩ := tmod_abs (a := a) (c := 65536) (by decide)
  obtain ⟨b1, b2, _⟩ := tmod_abs (a := b) (c := 65536) (by decide)
  obtain ⟨c1, c2, _⟩ := tmod_abs (a := c) (c := 65536) (by decide)
  obtain ⟨d1, d2, _⟩ := tmod_abs (a := d) (c := 65536) (by decide)
  obtain ⟨x, y, hm1, hv, mx, my⟩ := made_ev (Int.tmod a 65536) (Int.tmod b 65536)
  obtain ⟨z, w, hm2, hv2, mz, mw⟩ := made_ev (Int.tmod c 65536) (Int.tmod d 65536)
  have mx := mx 65536 a1 a2
  have my := my 65536 b1 b2
  have mz := mz 65536 c1 c2
  have mw := mw 65536 d1 d2
  obtain ⟨x1, y1, _, _, _⟩ := validS_iff.1 hv
  obtain ⟨z1, w1, _, _, _⟩ := validS_iff.1 hv2
  refine Ev.bind sane_ev ?_
  simp only [if_true]
  rw [w64 (n := m) (by omega) (by omega), w64 (n := n) (by omega) (by omega), w64 (n := m + n) (by omega) (by omega)]
  refine Ev.bind hm1 (Ev.bind hm2 (Ev.bind (mul_ev x y z w) (Ev.bind (floor_ev m x y) (Ev.bind (floor_ev n x y) (Ev.bind (floor_ev (m + n) x y) ?_)))))
  obtain ⟨g1, g2, ⟨p1, p2, p3⟩, ⟨q1, q2, q3⟩, ⟨r1, r2, r3⟩, ⟨s1, s2, s3⟩⟩ := mul_facts hv hv2
  have nb := prod_le (n := x / gcdI x w) (x := z / gcdI z y) (N := 65536) (X := 65536) (by omega) (by omega) (by omega) (by omega)
  have db := prod_le (n := y / gcdI z y) (x := w / gcdI x w) (N := 65536) (X := 65536) (by omega) (by omega) (by omega) (by omega)
  have em : mulS x y z w = (mulN x y z w, mulD x y z w, 0) := by
    unfold mulS
    rw [if_pos ⟨hv, hv2⟩, if_neg]
    unfold mulN mulD
    omega
  have i1 := prod_le (n := m) (x := x) (N := 4294967295) (X := 65536) m0 m1 (by omega) mx
  have j1 := prod_le (n := n) (x := x) (N := 4294967295) (X := 65536) n0 n1 (by omega) mx
  have k1 := prod_le (n := m + n) (x := x) (N := 8589934590) (X := 65536) (by omega) (by omega) (by omega) mx
  have i2 := quot_le (y := y) y1 i1.1 i1.2
  have j2 := quot_le (y := y) y1 j1.1 j1.2
  have k2 := quot_le (y := y) y1 k1.1 k1.2
  rw [em, floorS_ok hv (by omega) (by omega) (show inS (m * x / y) by simp only [inS]; omega), floorS_ok hv (by omega) (by omega) (show inS (n * x / y) by simp only [inS]; omega), floorS_ok hv (by omega) (by omega) (show inS ((m + n) * x / y) by simp only [inS]; omega)]
  simp only [if_true]
  have af := add_floor (m * x) (n * x) y y1
  rw [← Int.add_mul] at af
  rw [w64 (n := (m + n) * x / y - m * x / y) (by omega) (by omega), w64 (n := (m + n) * x / y - m * x / y - n * x / y) (by omega) (by omega)]
  have step : Ev (fun k => soundservicelaw03_RatioChains.j0 k m (m * x / y) false z w (mulN x y z w) (mulD x y z w)) true := by
    refine Ev.step (f := fun k => _) (fun k => by simp only [soundservicelaw03_RatioChains.j0]; rw [if_neg (by decide)]) ?_
    rw [w64 (n := m) (by omega) (by omega)]
    refine Ev.bind (floor_ev (m * x / y) z w) (Ev.bind (floor_ev m (mulN x y z w) (mulD x y z w)) ?_)
    unfold floorS
    by_cases cu : checkS (m * x / y) z w = 0
    · simp only [if_pos cu]
      by_cases iu : inS (m * x / y * z / w)
      · simp only [if_pos iu, if_true]
        by_cases cv : checkS m (mulN x y z w) (mulD x y z w) = 0
        · simp only [if_pos cv]
          by_cases iv : inS (m * mulN x y z w / mulD x y z w)
          · simp only [if_pos iv, if_true]
            have : m * x / y * z / w ≤ m * mulN x y z w / mulD x y z w := by
              have dpos : 0 < mulD x y z w := by
                unfold mulD
                have := Int.mul_pos (show 0 < y / gcdI z y by omega) (show 0 < w / gcdI x w by omega)
                omega
              rw [Int.le_ediv_iff_mul_le dpos]
              have f1 : m * x / y * y ≤ m * x := Int.ediv_mul_le _ (by omega)
              have f2 : m * x / y * z / w * w ≤ m * x / y * z := Int.ediv_mul_le _ (by omega)
              generalize m * x / y * z / w = u at *
              generalize m * x / y = i at *
              have ez : x * z = mulN x y z w * (gcdI x w * gcdI z y) := by
                unfold mulN
                generalize gcdI x w = g at *
                generalize gcdI z y = h at *
                generalize x / g = x' at *
                generalize z / h = z' at *
                subst p3 q3; grind
              have ew : y * w = mulD x y z w * (gcdI x w * gcdI z y) := by
                unfold mulD
                generalize gcdI x w = g at *
                generalize gcdI z y = h at *
                generalize y / h = y' at *
                generalize w / g = w' at *
                subst r3 s3; grind
              have gp : 0 < gcdI x w * gcdI z y := Int.mul_pos (by omega) (by omega)
              generalize gcdI x w * gcdI z y = G at *
              generalize mulN x y z w = X at *
              generalize mulD x y z w = Y at *
              have h1 : u * (y * w) ≤ m * (x * z) := by
                have a := Int.mul_le_mul_of_nonneg_right f2 (show 0 ≤ y by omega)
                have b := Int.mul_le_mul_of_nonneg_right f1 (show 0 ≤ z by omega)
                have e1 : u * w * y = u * (y * w) := by grind
                have e2 : i * z * y = i * y * z := by grind
                have e3 : m * x * z = m * (x * z) := by grind
                omega
              rw [ez, ew, ← Int.mul_assoc, ← Int.mul_assoc] at h1
              exact Int.le_of_mul_le_mul_right h1 gp
            rw [decide_eq_true this]; exact Ev.now _
          · simp only [if_neg iv]; exact Ev.now _
        · simp only [if_neg cv]; exact Ev.now _
      · simp only [if_neg iu]; exact Ev.now _
    · simp only [if_neg cu]; exact Ev.now _
  rcases af with h | h
  · simp only [h, if_true]; exact step
  · simp only [h]
    exact step
end Go.Proofs.Ytoolpnpmfagngaa.Pure
