/-
  The plain law behind RatioOrder: comparing is a total order that fits the rounded multiples, and a ratio times its inverse is 1.
  Conditions: none beyond the statement's own guards.
-/
import Derived.Test.YtoolpnpmfagngaaPAx22
import Derived.Test.YtoolpnpmfagngaaXLaw03
import Derived.Test.YtoolpnpmfagngaaXMul
namespace Go.Proofs.Ytoolpnpmfagngaa.Pure
open Go.RowKit Go.Proofs.Ytoolpnpmfagngaa.PA Go.Proofs.YtoolpnpmfagngaaX Go.Proofs.YtoolpnpmfagngaaW.PrintWords Go.Proofs.YtoolpnpmfagngaaW.PrintLast Go.Proofs.YtoolpnpmfagngaaW.PrintMore
theorem u16_of {a : Int} (h : (Lit.int .u16 a).wf = true) : 0 ≤ a ∧ a ≤ 65535 := by
  simp [Lit.wf, IntKind.min, IntKind.max, IntKind.signed, IntKind.bits] at h; exact h
/-- Ratios in lowest terms are equal if their cross products are. -/
theorem lowest {a b c d : Int} (ha : 1 ≤ a) (hb : 1 ≤ b) (hc : 1 ≤ c) (hd : 1 ≤ d) (g1 : gcdI a b = 1) (g2 : gcdI c d = 1) (h : a * d = c * b) : a = c ∧ b = d := by
  obtain ⟨a, rfl⟩ := Int.eq_ofNat_of_zero_le (show 0 ≤ a by omega)
  obtain ⟨b, rfl⟩ := Int.eq_ofNat_of_zero_le (show 0 ≤ b by omega)
  obtain ⟨c, rfl⟩ := Int.eq_ofNat_of_zero_le (show 0 ≤ c by omega)
  obtain ⟨d, rfl⟩ := Int.eq_ofNat_of_zero_le (show 0 ≤ d by omega)
  unfold gcdI at g1 g2
  simp only [Int.toNat_natCast] at g1 g2
  have g1 : Nat.Coprime a b := by show Nat.gcd a b = 1; omega
  have g2 : Nat.Coprime c d := by show Nat.gcd c d = 1; omega
  have h : a * d = c * b := by exact_mod_cast h
  have d1 : a ∣ c := g1.dvd_of_dvd_mul_right ⟨d, by rw [← h]⟩
  have d2 : c ∣ a := g2.dvd_of_dvd_mul_right ⟨b, by rw [h]⟩
  have e := Nat.dvd_antisymm d1 d2
  subst e
  have : d = b := Nat.eq_of_mul_eq_mul_left (by omega) h
  omega
theorem RatioOrder : soundservicelaw03_RatioOrder.Pure := by
  intro a b c d n _ _ _ _ hn
  obtain ⟨n0, n1⟩ := u16_of hn
  refine Ev.rounds (g := fun k => soundservicelaw03_RatioOrder.f k a b c d n) ?_
  unfold soundservicelaw03_RatioOrder.f
  obtain ⟨x, y, hm1, hv, _, _⟩ := made_ev a b
  obtain ⟨z, w, hm2, hv2, _, _⟩ := made_ev c d
  obtain ⟨x1, y1, x2, y2, gx⟩ := validS_iff.1 hv
  obtain ⟨z1, w1, z2, w2, gz⟩ := validS_iff.1 hv2
  have hvs : validS y x = true := by rw [validS_swap]; exact hv
  refine Ev.bind sane_ev ?_
  simp only [if_true]
  rw [w64 (n := n) (by omega) (by omega)]
  refine Ev.bind hm1 (Ev.bind hm2 (Ev.bind (inv_ev x y) ?_))
  rw [show invS x y = (y, x, 0) by unfold invS; rw [if_pos hv]]
  refine Ev.bind (mul_ev x y y x) (Ev.bind (mul_ev x y z w) (Ev.bind (mul_ev z w x y) (Ev.bind (floor_ev n x y) (Ev.bind (floor_ev n z w) (Ev.bind (cmp_ev x y z w) ?_)))))
  have e1 : mulS x y y x = (1, 1, 0) := by
    unfold mulS mulN mulD
    rw [gcdI_self x1, gcdI_self y1, Int.ediv_self (by omega), Int.ediv_self (by omega)]
    rw [if_pos ⟨hv, hvs⟩, if_neg (by decide)]
    rfl
  have e2 : mulS z w x y = mulS x y z w := by
    have c1 : mulN z w x y = mulN x y z w := by unfold mulN; rw [Int.mul_comm, gcdI_comm z y, gcdI_comm y z]
    have c2 : mulD z w x y = mulD x y z w := by unfold mulD; rw [Int.mul_comm]
    unfold mulS
    rw [c1, c2]
    simp only [and_comm]
  rw [e1, e2]
  have bx : 0 ≤ n * x ∧ n * x ≤ 65535 * 68719476736 := ⟨Int.mul_nonneg n0 (by omega), Int.mul_le_mul n1 x2 (by omega) (by omega)⟩
  have bz : 0 ≤ n * z ∧ n * z ≤ 65535 * 68719476736 := ⟨Int.mul_nonneg n0 (by omega), Int.mul_le_mul n1 z2 (by omega) (by omega)⟩
  have qx := Int.ediv_nonneg bx.1 (show 0 ≤ y by omega)
  have qx' : n * x / y ≤ n * x := Int.ediv_le_self _ bx.1
  have qz := Int.ediv_nonneg bz.1 (show 0 ≤ w by omega)
  have qz' : n * z / w ≤ n * z := Int.ediv_le_self _ bz.1
  rw [floorS_ok hv (by omega) (by omega) (show inS (n * x / y) by simp only [inS]; omega), floorS_ok hv2 (by omega) (by omega) (show inS (n * z / w) by simp only [inS]; omega)]
  refine Ev.step (f := fun k => _) (fun k => by simp only [soundservicelaw03_RatioOrder.j0]; rfl) ?_
  simp only [if_true, beq_self_eq_true, Bool.and_self]
  refine Ev.bind (cmp_ev z w x y) ?_
  have ec : ∀ p q r s, validS p q = true → validS r s = true → cmpS p q r s = (if p * s < r * q then -1 else if p * s = r * q then 0 else 1) := fun p q r s h1 h2 => by unfold cmpS; rw [if_pos ⟨h1, h2⟩]
  have low := lowest x1 y1 z1 w1 gx gz
  have mono : x * w ≤ z * y → n * x / y ≤ n * z / w := by
    intro h
    rw [Int.le_ediv_iff_mul_le (by omega)]
    have f1 : n * x / y * y ≤ n * x := Int.ediv_mul_le _ (by omega)
    generalize n * x / y = u at *
    have a1 := Int.mul_le_mul_of_nonneg_right f1 (show 0 ≤ w by omega)
    have a2 := Int.mul_le_mul_of_nonneg_left h n0
    have h3 : u * w * y ≤ n * z * y := by
      have e3 : u * y * w = u * w * y := by grind
      have e4 : n * x * w = n * (x * w) := by grind
      have e5 : n * z * y = n * (z * y) := by grind
      omega
    exact Int.le_of_mul_le_mul_right h3 (by omega)
  have n1' : wrap64 (-(-1)) = 1 := by unfold wrap64; omega
  have n0' : wrap64 (-0) = 0 := by unfold wrap64; omega
  have np : wrap64 (-1) = -1 := by unfold wrap64; omega
  by_cases c1 : x * w < z * y
  · have nz : ¬ (x = z ∧ y = w) := by rintro ⟨rfl, rfl⟩; omega
    have hb : (x == z && (y == w)) = false := by
      rw [Bool.eq_false_iff]; intro h; simp at h; exact nz h
    have v1 : cmpS x y z w = -1 := by rw [ec x y z w hv hv2, if_pos c1]
    have v2 : cmpS z w x y = 1 := by rw [ec z w x y hv2 hv, if_neg (by omega), if_neg (by omega)]
    rw [v1, v2, n1', hb, if_pos rfl, if_pos (by decide), if_neg (by decide), decide_eq_true (mono (by omega))]
    exact Ev.now _
  · by_cases c2 : x * w = z * y
    · obtain ⟨rfl, rfl⟩ := low c2
      have v1 : cmpS x y x y = 0 := by rw [ec x y x y hv hv, if_neg (by omega), if_pos rfl]
      rw [v1, n0', if_pos rfl, if_pos (by simp), if_neg (by decide), decide_eq_true (Int.le_refl _)]
      exact Ev.now _
    · have nz : ¬ (x = z ∧ y = w) := by rintro ⟨rfl, rfl⟩; exact c2 rfl
      have hb : (x == z && (y == w)) = false := by
        rw [Bool.eq_false_iff]; intro h; simp at h; exact nz h
      have v1 : cmpS x y z w = 1 := by rw [ec x y z w hv hv2, if_neg c1, if_neg c2]
      have v2 : cmpS z w x y = -1 := by rw [ec z w x y hv2 hv, if_pos (by omega)]
      rw [v1, v2, np, hb, if_pos rfl, if_pos (by decide), if_pos (by decide)]
      exact Ev.now _
end Go.Proofs.Ytoolpnpmfagngaa.Pure
