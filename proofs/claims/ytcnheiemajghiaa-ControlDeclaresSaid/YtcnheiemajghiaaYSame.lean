/-
  What the reference's Declared computes over windows; it answers as control.Declared does.
-/
import Derived.Test.YtcnheiemajghiaaPAx10
import Derived.Test.YtcnheiemajghiaaPAx11
import Derived.Test.YtcnheiemajghiaaPAx12
import Derived.Test.YtcnheiemajghiaaPAx8
import Derived.Test.YtcnheiemajghiaaYWin
namespace Go.Proofs.YtcnheiemajghiaaX
open Go.RowKit Go.Proofs.Ytcnheiemajghiaa.PA Go.Proofs.YtcnheiemajghiaaW.PrintWords Go.Proofs.YtcnheiemajghiaaW.PrintLast Go.Proofs.YtcnheiemajghiaaW.PrintMore
def winB (a b p q d m : Int) (l : List S54) (k x y : Int) : Bool :=
  ((preB (c1 a b p q d) m l (x * a * (q * 65536) - k * (p * b * (65536 + d))) && preB (c2 a b p q d) m l (k * (p * b * (65536 - d)) - x * a * (q * 65536))) &&
    (preB (c3 b p q d) m l (y * b * (q * 65536) - k * (p * b * (65536 + d))) && preB (c4 b p q d) m l (k * (p * b * (65536 - d)) - y * b * (q * 65536)))) &&
    (preB (c5 a b p q d) m l (x * a * (q * 65536) - y * b * (q * 65536) - k * (p * b * d)) && preB (c6 a b p q d) m l (y * b * (q * 65536) - x * a * (q * 65536) - k * (p * b * d)))
theorem six (d1 d2 d3 d4 d5 d6 p1 p2 p3 p4 p5 p6 : Bool) : (((d1 && p1) && (d2 && p2)) && ((d3 && p3) && (d4 && p4)) && ((d5 && p5) && (d6 && p6))) =
    (((d1 && d2) && (d3 && d4) && (d5 && d6)) && ((p1 && p2) && (p3 && p4) && (p5 && p6))) := by ac_rfl
theorem inner_ref {a b p q d j : Int} (N : Nums a b p q d j) : ∀ (l : List S54) (k : Nat) (x y : Int), soundserviceref18_Declared.check l = true → k + l.length ≤ 256 → (0 ≤ x ∧ x ≤ k * 65536) → (0 ≤ y ∧ y ≤ k * 65536) →
    soundserviceref18_Declared.inner a b p q d j l k x y = some (winB a b p q d (limS b q j) l k x y)
 | [], _, _, _, _, _, _, _ => rfl
 | t :: ts, k, x, y, hc, hk, hx, hy => by
   rw [check_cons t ts, Bool.and_eq_true] at hc
   obtain ⟨⟨f0, f1⟩, g0, g1⟩ := check_one.1 hc.1
   rw [List.length_cons] at hk
   have ih := inner_ref N ts (k + 1) (x + t.f0) (y + t.f1) hc.2 (by omega) (by omega) (by omega)
   obtain ⟨⟨a0, a1⟩, ⟨b0, b1⟩, ⟨p0, p1⟩, ⟨q0, q1⟩, ⟨d0, d1⟩, j0, j1⟩ := N
   have m1 := mul_in (a := x + t.f0) (b := a) (A := 16777216) (B := 768000) (by omega) (by omega) (by omega) a1
   have m2 := mul_in (a := (x + t.f0) * a) (b := q * 65536) (A := 12884901888000) (B := 50331648000) m1.1 (by omega) (by omega) (by omega)
   have n1 := mul_in (a := y + t.f1) (b := b) (A := 16777216) (B := 768000) (by omega) (by omega) (by omega) b1
   have n2 := mul_in (a := (y + t.f1) * b) (b := q * 65536) (A := 12884901888000) (B := 50331648000) n1.1 (by omega) (by omega) (by omega)
   have k1 := mul_in (a := (k : Int) + 1) (b := p) (A := 256) (B := 68719476736) (by omega) (by omega) (by omega) p1
   have k2 := mul_in (a := ((k : Int) + 1) * p) (b := b) (A := 17592186044416) (B := 768000) k1.1 (by omega) (by omega) b1
   have k3 := mul_in (a := ((k : Int) + 1) * p * b) (b := 65536) (A := 13510798882111488000) (B := 65536) k2.1 (by omega) (by omega) (by omega)
   have k4 := mul_in (a := ((k : Int) + 1) * p * b) (b := d) (A := 13510798882111488000) (B := 4096) k2.1 (by omega) d0 d1
   have j2 := mul_in (a := j) (b := b) (A := 65536) (B := 768000) j0 j1 (by omega) b1
   have j3 := mul_in (a := j * b) (b := q) (A := 50331648000) (B := 768000) j2.1 (by omega) (by omega) q1
   have e1 : (x + t.f0) * a * q * 65536 = x * a * (q * 65536) + t.f0 * a * (q * 65536) := by rw [Int.mul_assoc _ q, Int.add_mul, Int.add_mul]
   have e2 : (y + t.f1) * b * q * 65536 = y * b * (q * 65536) + t.f1 * b * (q * 65536) := by rw [Int.mul_assoc _ q, Int.add_mul, Int.add_mul]
   have e1' : (x + t.f0) * a * (q * 65536) = x * a * (q * 65536) + t.f0 * a * (q * 65536) := by rw [Int.add_mul, Int.add_mul]
   have e2' : (y + t.f1) * b * (q * 65536) = y * b * (q * 65536) + t.f1 * b * (q * 65536) := by rw [Int.add_mul, Int.add_mul]
   have ek : ∀ P : Int, (((k + 1 : Nat) : Int)) * P = k * P + P := fun P => by rw [show ((k + 1 : Nat) : Int) = (k : Int) + 1 from rfl, Int.add_mul, Int.one_mul]
   have ek' : ∀ P : Int, ((k : Int) + 1) * P = k * P + P := fun P => by rw [Int.add_mul, Int.one_mul]
   have e3 : ((k : Int) + 1) * p * b * 65536 + ((k : Int) + 1) * p * b * d = k * (p * b * (65536 + d)) + p * b * (65536 + d) := by
     rw [← ek', ← Int.mul_add, Int.mul_assoc (((k : Int) + 1) * p), Int.mul_assoc, ← Int.mul_assoc p]
   have e4 : ((k : Int) + 1) * p * b * 65536 - ((k : Int) + 1) * p * b * d = k * (p * b * (65536 - d)) + p * b * (65536 - d) := by
     rw [← ek', ← Int.mul_sub, Int.mul_assoc (((k : Int) + 1) * p), Int.mul_assoc, ← Int.mul_assoc p]
   have e5 : ((k : Int) + 1) * p * b * d = k * (p * b * d) + p * b * d := by
     rw [← ek', Int.mul_assoc (((k : Int) + 1) * p), Int.mul_assoc, ← Int.mul_assoc p]
   have e6 : j * b * q * 65536 = limS b q j := by
     unfold limS
     rw [Int.mul_assoc _ q, Int.mul_assoc, Int.mul_comm]
   simp only [soundserviceref18_Declared.inner]
   rw [u64 (n := t.f0) (by omega) (by omega), u64 (n := t.f1) (by omega) (by omega), u64 (n := x + t.f0) (by omega) (by omega), u64 (n := y + t.f1) (by omega) (by omega), u64 (n := a) (by omega) (by omega),
     u64 (n := (x + t.f0) * a) (by omega) (by omega), u64 (n := (y + t.f1) * b) (by omega) (by omega), u64 (n := ((k : Int) + 1) * p) (by omega) (by omega), u64 (n := d) (by omega) (by omega), u64 (n := j) (by omega) (by omega), u64 (n := j * b) (by omega) (by omega),
     times_enc (a := (x + t.f0) * a) (b := q) (c := 65536) (by omega) (by omega) (by omega) (by omega) (by omega) (by omega), times_enc (a := (y + t.f1) * b) (b := q) (c := 65536) (by omega) (by omega) (by omega) (by omega) (by omega) (by omega),
     times_enc (a := ((k : Int) + 1) * p) (b := b) (c := 65536) (by omega) (by omega) (by omega) (by omega) (by omega) (by omega), times_enc (a := ((k : Int) + 1) * p) (b := b) (c := d) (by omega) (by omega) (by omega) (by omega) (by omega) (by omega),
     times_enc (a := j * b) (b := q) (c := 65536) (by omega) (by omega) (by omega) (by omega) (by omega) (by omega)]
   simp only [Option.bind_some]
   rw [plus_enc]
   simp only [Option.bind_some]
   rw [near_enc (u := (x + t.f0) * a * q * 65536) (n := ((k : Int) + 1) * p * b * 65536) ⟨by omega, by omega⟩ ⟨by omega, by omega⟩ ⟨by omega, by omega⟩, near_enc (u := (y + t.f1) * b * q * 65536) (n := ((k : Int) + 1) * p * b * 65536) ⟨by omega, by omega⟩ ⟨by omega, by omega⟩ ⟨by omega, by omega⟩,
     near_enc (u := (x + t.f0) * a * q * 65536) (n := (y + t.f1) * b * q * 65536) ⟨by omega, by omega⟩ ⟨by omega, by omega⟩ ⟨by omega, by omega⟩, ih]
   simp only [Option.bind_some]
   unfold winB
   rw [ek, ek, ek, e1', e2']
   simp only [preB]
   rw [six]
   rw [show x * a * (q * 65536) - ↑k * (p * b * (65536 + d)) + c1 a b p q d t = x * a * (q * 65536) + t.f0 * a * (q * 65536) - (↑k * (p * b * (65536 + d)) + p * b * (65536 + d)) by unfold c1; omega,
     show ↑k * (p * b * (65536 - d)) - x * a * (q * 65536) + c2 a b p q d t = ↑k * (p * b * (65536 - d)) + p * b * (65536 - d) - (x * a * (q * 65536) + t.f0 * a * (q * 65536)) by unfold c2; omega,
     show y * b * (q * 65536) - ↑k * (p * b * (65536 + d)) + c3 b p q d t = y * b * (q * 65536) + t.f1 * b * (q * 65536) - (↑k * (p * b * (65536 + d)) + p * b * (65536 + d)) by unfold c3; omega,
     show ↑k * (p * b * (65536 - d)) - y * b * (q * 65536) + c4 b p q d t = ↑k * (p * b * (65536 - d)) + p * b * (65536 - d) - (y * b * (q * 65536) + t.f1 * b * (q * 65536)) by unfold c4; omega,
     show x * a * (q * 65536) - y * b * (q * 65536) - ↑k * (p * b * d) + c5 a b p q d t = x * a * (q * 65536) + t.f0 * a * (q * 65536) - (y * b * (q * 65536) + t.f1 * b * (q * 65536)) - (↑k * (p * b * d) + p * b * d) by unfold c5; omega,
     show y * b * (q * 65536) - x * a * (q * 65536) - ↑k * (p * b * d) + c6 a b p q d t = y * b * (q * 65536) + t.f1 * b * (q * 65536) - (x * a * (q * 65536) + t.f0 * a * (q * 65536)) - (↑k * (p * b * d) + p * b * d) by unfold c6; omega]
   generalize hU : x * a * (q * 65536) + t.f0 * a * (q * 65536) = U at *
   generalize hV : y * b * (q * 65536) + t.f1 * b * (q * 65536) = V at *
   rw [e1, e2]
   generalize hG : ((k : Int) + 1) * p * b * 65536 = G at *
   generalize hH : ((k : Int) + 1) * p * b * d = H at *
   rw [← e3, ← e4, ← e5, e6]
   generalize limS b q j = m at *
   rw [decide_eq_decide.2 (show U ≤ G + (H + m) ↔ U - (G + H) ≤ m by omega), decide_eq_decide.2 (show G ≤ U + (H + m) ↔ G - H - U ≤ m by omega), decide_eq_decide.2 (show V ≤ G + (H + m) ↔ V - (G + H) ≤ m by omega), decide_eq_decide.2 (show G ≤ V + (H + m) ↔ G - H - V ≤ m by omega),
     decide_eq_decide.2 (show U ≤ V + (H + m) ↔ U - V - H ≤ m by omega), decide_eq_decide.2 (show V ≤ U + (H + m) ↔ V - U - H ≤ m by omega)]
   generalize (decide (U - (G + H) ≤ m) && decide (G - H - U ≤ m)) = z1
   generalize (decide (V - (G + H) ≤ m) && decide (G - H - V ≤ m)) = z2
   generalize (decide (U - V - H ≤ m) && decide (V - U - H ≤ m)) = z3
   cases z1 <;> cases z2 <;> cases z3 <;> rfl
def allW (a b p q d m : Int) (l : List S54) : Bool :=
  ((allB (c1 a b p q d) m l && allB (c2 a b p q d) m l) && (allB (c3 b p q d) m l && allB (c4 b p q d) m l)) && (allB (c5 a b p q d) m l && allB (c6 a b p q d) m l)
theorem outer_ref {a b p q d j : Int} (N : Nums a b p q d j) : ∀ (l : List S54), soundserviceref18_Declared.check l = true → l.length ≤ 256 → soundserviceref18_Declared.outer a b p q d j l = some (allW a b p q d (limS b q j) l)
 | [], _, _ => rfl
 | t :: ts, hc, hn => by
   have hi := inner_ref N (t :: ts) 0 0 0 hc (by omega) (by omega) (by omega)
   have hc2 := hc
   rw [check_cons t ts, Bool.and_eq_true] at hc2
   rw [List.length_cons] at hn
   simp only [soundserviceref18_Declared.outer]
   rw [hi, outer_ref N ts hc2.2 (by omega)]
   simp only [Option.bind_some]
   unfold allW winB
   simp only [Int.zero_mul, Int.natCast_zero, Int.sub_zero, allB]
   rw [six]
   generalize (((preB (c1 a b p q d) (limS b q j) (t :: ts) 0 && preB (c2 a b p q d) (limS b q j) (t :: ts) 0) && (preB (c3 b p q d) (limS b q j) (t :: ts) 0 && preB (c4 b p q d) (limS b q j) (t :: ts) 0)) && (preB (c5 a b p q d) (limS b q j) (t :: ts) 0 && preB (c6 a b p q d) (limS b q j) (t :: ts) 0)) = z
   cases z <;> rfl
/-- What both answer. -/
def declaredS (a b p q d j : Int) (l : List S54) : Bool :=
  decide (validS a b = true ∧ a ≤ 768000 ∧ b ≤ 768000 ∧ declS p q d j = true ∧ l.length ≤ 256) && (soundserviceref18_Declared.check l && allW a b p q d (limS b q j) l)
theorem nums_of {a b p q d j : Int} (hv : validS a b = true) (ha : a ≤ 768000) (hb : b ≤ 768000) (hd : declS p q d j = true) : Nums a b p q d j := by
  obtain ⟨hp, k0, k1, j0, j1⟩ := declS_iff.1 hd
  obtain ⟨hp, q3, _, _⟩ := possS_iff.1 hp
  obtain ⟨p1, q1, p2, q2, _⟩ := validS_iff.1 hp
  obtain ⟨a1, b1, _, _, _⟩ := validS_iff.1 hv
  exact ⟨⟨a1, ha⟩, ⟨b1, hb⟩, ⟨p1, p2⟩, ⟨q1, q3⟩, ⟨k0, k1⟩, j0, j1⟩
theorem own_ev (a b p q d j : Int) (l : List S54) : Ev (fun k => control_Declared.f k a b p q d j l) (declaredS a b p q d j l) := by
  unfold control_Declared.f
  refine Ev.bind (valid_ev a b) ?_
  by_cases hv : validS a b = true
  rotate_left
  · simp only [if_neg hv]
    rw [show declaredS a b p q d j l = false by unfold declaredS; rw [decide_eq_false (fun h => hv h.1)]; rfl]
    exact Ev.now _
  simp only [if_pos hv]
  by_cases ha : a > 768000
  · simp only [if_pos ha]
    rw [show declaredS a b p q d j l = false by unfold declaredS; rw [decide_eq_false (fun h => by omega)]; rfl]
    exact Ev.now _
  simp only [if_neg ha]
  by_cases hb : b > 768000
  · simp only [if_pos hb]
    rw [show declaredS a b p q d j l = false by unfold declaredS; rw [decide_eq_false (fun h => by omega)]; rfl]
    exact Ev.now _
  simp only [if_neg hb]
  refine Ev.bind (decl_ev p q d j) ?_
  by_cases hd : declS p q d j = true
  rotate_left
  · simp only [if_neg hd]
    rw [show declaredS a b p q d j l = false by unfold declaredS; rw [decide_eq_false (fun h => hd h.2.2.2.1)]; rfl]
    exact Ev.now _
  simp only [if_pos hd]
  by_cases hl : (l.length : Int) > 256
  · simp only [if_pos hl]
    rw [show declaredS a b p q d j l = false by unfold declaredS; rw [decide_eq_false (fun h => by omega)]; rfl]
    exact Ev.now _
  simp only [if_neg hl]
  have N := nums_of hv (by omega) (by omega) hd
  obtain ⟨h1, h2, h3, h4, h5, h6⟩ := prods N
  obtain ⟨⟨a0, a1⟩, ⟨b0, b1⟩, ⟨p0, p1⟩, ⟨q0, q1⟩, ⟨d0, d1⟩, j0, j1⟩ := N
  have hlim : b * (q * 65536) * j = limS b q j := rfl
  rw [w64 (n := q * 65536) (by omega) (by omega), w64 (n := b * (q * 65536)) (by omega) (by omega), w64 (n := p * b) (by omega) (by omega), w64 (n := 65536 + d) (by omega) (by omega), w64 (n := 65536 - d) (by omega) (by omega),
    product_enc (a := b * (q * 65536)) (b := j) (by omega) (by omega) (by omega) (by omega) (by omega) (by omega), product_enc (a := p * b) (b := 65536 + d) (by omega) (by omega) (by omega) (by omega) (by omega) (by omega),
    product_enc (a := p * b) (b := 65536 - d) (by omega) (by omega) (by omega) (by omega) (by omega) (by omega), product_enc (a := p * b) (b := d) (by omega) (by omega) (by omega) (by omega) (by omega) (by omega)]
  simp only [Option.bind_some]
  have hz : [control_Declared.z, control_Declared.z, control_Declared.z, control_Declared.z, control_Declared.z, control_Declared.z] = zeros.map encS := by
    have : encS (0, 0) = control_Declared.z := by
      unfold encS
      simp only [enc0]
      rfl
    simp only [zeros, List.map_cons, List.map_nil, this]
  rw [hlim, hz, loop_big ⟨⟨a0, a1⟩, ⟨b0, b1⟩, ⟨p0, p1⟩, ⟨q0, q1⟩, ⟨d0, d1⟩, j0, j1⟩ l 0 zeros (by omega) (by omega) (by intro s hs; simp [zeros] at hs; subst hs; simp) rfl, loopG_eq l zeros rfl]
  have he : declaredS a b p q d j l = (soundserviceref18_Declared.check l && ((cs a b p q d).zip zeros).all fun x => cusB x.1 (limS b q j) l (x.2.1 - x.2.2)) := by
    unfold declaredS
    rw [decide_eq_true ⟨hv, by omega, by omega, hd, by omega⟩, Bool.true_and]
    simp only [cs, zeros, List.zip_cons_cons, List.zip_nil_right, List.all_cons, List.all_nil, Int.sub_zero, cus_zero h3.1, Bool.and_true]
    unfold allW
    congr 1
    ac_rfl
  rw [he]
  exact Ev.now _
theorem ref_ev (a b p q d j : Int) (l : List S54) : Ev (fun k => soundserviceref18_Declared.f k a b p q d j l) (declaredS a b p q d j l) := by
  unfold soundserviceref18_Declared.f
  refine Ev.bind (valid_ev' a b) ?_
  have no : ∀ {P : Prop}, (validS a b = true ∧ a ≤ 768000 ∧ b ≤ 768000 ∧ declS p q d j = true ∧ l.length ≤ 256 → P) → ¬ P → declaredS a b p q d j l = false := fun h hp => by
    unfold declaredS
    rw [decide_eq_false (fun x => hp (h x))]
    rfl
  by_cases hv : validS a b = true
  rotate_left
  · simp only [if_neg hv]
    rw [no (fun h => h.1) hv]
    exact Ev.now _
  simp only [if_pos hv]
  by_cases ha : a > 768000
  · simp only [if_pos ha]
    rw [no (fun h => h.2.1) (by omega)]
    exact Ev.now _
  simp only [if_neg ha]
  by_cases hb : b > 768000
  · simp only [if_pos hb]
    rw [no (fun h => h.2.2.1) (by omega)]
    exact Ev.now _
  simp only [if_neg hb]
  refine Ev.bind (rposs_ev p q) ?_
  by_cases hp : possS p q = true
  rotate_left
  · simp only [if_neg hp]
    rw [no (fun h => (declS_iff.1 h.2.2.2.1).1) hp]
    exact Ev.now _
  simp only [if_pos hp]
  by_cases h1 : d < 0
  · simp only [if_pos h1]
    rw [no (fun h => (declS_iff.1 h.2.2.2.1).2.1) (by omega)]
    exact Ev.now _
  simp only [if_neg h1]
  by_cases h2 : d > 4096
  · simp only [if_pos h2]
    rw [no (fun h => (declS_iff.1 h.2.2.2.1).2.2.1) (by omega)]
    exact Ev.now _
  simp only [if_neg h2]
  by_cases h3 : j < 0
  · simp only [if_pos h3]
    rw [no (fun h => (declS_iff.1 h.2.2.2.1).2.2.2.1) (by omega)]
    exact Ev.now _
  simp only [if_neg h3]
  by_cases h4 : j > 65536
  · simp only [if_pos h4]
    rw [no (fun h => (declS_iff.1 h.2.2.2.1).2.2.2.2) (by omega)]
    exact Ev.now _
  simp only [if_neg h4]
  by_cases hl : (l.length : Int) > 256
  · simp only [if_pos hl]
    rw [no (fun h => h.2.2.2.2) (by omega)]
    exact Ev.now _
  simp only [if_neg hl]
  have hd : declS p q d j = true := declS_iff.2 ⟨hp, by omega, by omega, by omega, by omega⟩
  have N := nums_of hv (by omega) (by omega) hd
  have he : declaredS a b p q d j l = (soundserviceref18_Declared.check l && allW a b p q d (limS b q j) l) := by
    unfold declaredS
    rw [decide_eq_true ⟨hv, by omega, by omega, hd, by omega⟩, Bool.true_and]
  rw [he]
  cases hc : soundserviceref18_Declared.check l with
  | false => exact Ev.now _
  | true =>
    have hb' := N.b0
    have hp' := N.p0
    have hq' := N.q0
    simp only [if_true, Bool.true_and]
    rw [u64 (n := b) (by omega) (by omega), u64 (n := p) (by omega) (by omega), u64 (n := q) (by omega) (by omega), outer_ref N l hc (by omega)]
    exact Ev.now _
end Go.Proofs.YtcnheiemajghiaaX
