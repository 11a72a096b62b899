/-
  The greatest rise of sums keeps a bound exactly where each window of differences does; what the reference computes over windows.
-/
import Derived.Test.YtcnheiemajghiaaPAx10
import Derived.Test.YtcnheiemajghiaaPAx11
import Derived.Test.YtcnheiemajghiaaPAx12
import Derived.Test.YtcnheiemajghiaaYDecG
namespace Go.Proofs.YtcnheiemajghiaaX
open Go.RowKit Go.Proofs.Ytcnheiemajghiaa.PA Go.Proofs.YtcnheiemajghiaaW.PrintWords Go.Proofs.YtcnheiemajghiaaW.PrintLast Go.Proofs.YtcnheiemajghiaaW.PrintMore
def cusB (c : S54 → Int) (m : Int) : List S54 → Int → Bool
 | [], _ => true
 | t :: ts, r => decide (mx 0 (r + c t) ≤ m) && cusB c m ts (mx 0 (r + c t))
def preB (c : S54 → Int) (m : Int) : List S54 → Int → Bool
 | [], _ => true
 | t :: ts, r => decide (r + c t ≤ m) && preB c m ts (r + c t)
def allB (c : S54 → Int) (m : Int) : List S54 → Bool
 | [] => true
 | t :: ts => preB c m (t :: ts) 0 && allB c m ts
theorem pre_anti {c : S54 → Int} {m : Int} : ∀ (l : List S54) {r r' : Int}, r' ≤ r → preB c m l r = true → preB c m l r' = true
 | [], _, _, _, _ => rfl
 | t :: ts, r, r', h, hp => by
   simp only [preB, Bool.and_eq_true, decide_eq_true_eq] at hp ⊢
   exact ⟨by omega, pre_anti ts (by omega) hp.2⟩
theorem all_pre {c : S54 → Int} {m : Int} (l : List S54) (h : allB c m l = true) : preB c m l 0 = true := by
  cases l with
  | nil => rfl
  | cons t ts =>
    rw [allB, Bool.and_eq_true] at h
    exact h.1
theorem cus_all {c : S54 → Int} {m : Int} (hm : 0 ≤ m) : ∀ (l : List S54) (r : Int), 0 ≤ r → (cusB c m l r = true ↔ preB c m l r = true ∧ allB c m l = true)
 | [], r, _ => by simp [cusB, preB, allB]
 | t :: ts, r, hr => by
   have ih := cus_all (c := c) hm ts (mx 0 (r + c t)) (by unfold mx; split <;> omega)
   simp only [cusB, preB, allB, Bool.and_eq_true, decide_eq_true_eq, ih, Int.zero_add]
   unfold mx
   by_cases k : 0 < r + c t
   · rw [if_pos k]
     constructor
     · rintro ⟨a1, a2, a3⟩
       exact ⟨⟨a1, a2⟩, ⟨by omega, pre_anti ts (by omega) a2⟩, a3⟩
     · rintro ⟨⟨a1, a2⟩, _, a3⟩
       exact ⟨a1, a2, a3⟩
   · rw [if_neg k]
     constructor
     · rintro ⟨a1, a2, a3⟩
       exact ⟨⟨by omega, pre_anti ts (by omega) a2⟩, ⟨by omega, pre_anti ts (by omega) a2⟩, a3⟩
     · rintro ⟨_, _, a3⟩
       exact ⟨hm, all_pre ts a3, a3⟩
theorem cus_zero {c : S54 → Int} {m : Int} (hm : 0 ≤ m) (l : List S54) : cusB c m l 0 = allB c m l := by
  rw [Bool.eq_iff_iff, cus_all hm l 0 (by omega)]
  exact ⟨fun h => h.2, fun h => ⟨all_pre l h, h⟩⟩
theorem all_two {α : Type} (f g : α → Bool) : ∀ l : List α, (l.all fun x => f x && g x) = (l.all f && l.all g)
 | [] => rfl
 | a :: l => by
   simp only [List.all_cons, all_two f g l]
   ac_rfl
theorem inner_all {m : Int} {t : S54} : ∀ (cs : List (S54 → Int)) (ss : List (Int × Int)), cs.length = ss.length →
    (innerI m (cs.map (· t)) ss).1 = ((cs.zip ss).all fun x => decide (mx 0 (x.2.1 - x.2.2 + x.1 t) ≤ m)) ∧ ((innerI m (cs.map (· t)) ss).1 = true → (innerI m (cs.map (· t)) ss).2.length = ss.length ∧
      ∀ f : (S54 → Int) → Int → Bool, ((cs.zip (innerI m (cs.map (· t)) ss).2).all fun x => f x.1 (x.2.1 - x.2.2)) = ((cs.zip ss).all fun x => f x.1 (mx 0 (x.2.1 - x.2.2 + x.1 t))))
 | [], [], _ => ⟨rfl, fun _ => ⟨rfl, fun _ => rfl⟩⟩
 | [], _ :: _, h => absurd h (by simp)
 | _ :: _, [], h => absurd h (by simp)
 | c :: cs, s :: ss, h => by
   obtain ⟨i1, i2⟩ := inner_all (m := m) (t := t) cs ss (by simpa using h)
   have e : s.1 + c t - lowI (s.1 + c t) s.2 = mx 0 (s.1 - s.2 + c t) := by
     unfold lowI mx
     split <;> split <;> omega
   simp only [List.map_cons, innerI, List.zip_cons_cons, List.all_cons]
   by_cases k : s.1 + c t - lowI (s.1 + c t) s.2 ≤ m
   · rw [if_pos k, ← e, decide_eq_true k]
     simp only [Bool.true_and]
     refine ⟨i1, fun hk => ?_⟩
     obtain ⟨n1, n2⟩ := i2 hk
     refine ⟨by rw [List.length_cons, List.length_cons, n1], fun f => ?_⟩
     rw [List.zip_cons_cons, List.all_cons, n2 f]
   · rw [if_neg k, ← e, decide_eq_false k]
     exact ⟨rfl, fun hk => absurd hk (by decide)⟩
theorem loopG_eq {cs : List (S54 → Int)} {m : Int} : ∀ (l : List S54) (ss : List (Int × Int)), cs.length = ss.length → loopG cs m l ss = (soundserviceref18_Declared.check l && ((cs.zip ss).all fun x => cusB x.1 m l (x.2.1 - x.2.2)))
 | [], ss, _ => by simp [loopG, soundserviceref18_Declared.check, cusB]
 | t :: ts, ss, h => by
   simp only [loopG]
   rw [check_cons t ts]
   cases ht : soundserviceref18_Declared.check [t] with
   | false => rfl
   | true =>
     simp only [if_true, Bool.true_and]
     obtain ⟨i1, i2⟩ := inner_all (m := m) (t := t) cs ss h
     simp only [cusB]
     rw [all_two, ← i1]
     cases k : (innerI m (cs.map (· t)) ss).1 with
     | false => simp
     | true =>
       obtain ⟨n1, n2⟩ := i2 k
       simp only [if_true, Bool.true_and]
       rw [loopG_eq ts _ (by rw [n1, h]), n2 fun c r => cusB c m ts r]
theorem times_enc {a b c : Int} (ha : 0 ≤ a) (ha' : a < 18446744073709551616) (hb : 0 ≤ b) (hb' : b < 18446744073709551616) (hc : 0 ≤ c) (hc' : c < 18446744073709551616) : soundserviceref18_times.f a b c = some (enc (a * b * c)) := by
  unfold soundserviceref18_times.f
  rw [mul64 ha ha' hb hb']
  simp only [Option.bind_some]
  rw [mul64 (by omega) (by omega) hc hc']
  simp only [Option.bind_some]
  generalize a * b = P
  have e : P * c = 18446744073709551616 * (P / 18446744073709551616 * c) + P % 18446744073709551616 * c := by
    have : P = 18446744073709551616 * (P / 18446744073709551616) + P % 18446744073709551616 := by omega
    calc P * c = (18446744073709551616 * (P / 18446744073709551616) + P % 18446744073709551616) * c := by rw [← this]
      _ = _ := by rw [Int.add_mul, Int.mul_assoc]
  unfold enc
  rw [e, u64m, u64m]
  generalize P / 18446744073709551616 * c = x
  generalize P % 18446744073709551616 * c = y
  refine congrArg some (Prod.ext ?_ ?_)
  · simp only
    omega
  · simp only
    omega
theorem plus_enc (x y : Int) : soundserviceref18_plus.f (enc x).1 (enc x).2 (enc y).1 (enc y).2 = some (enc (x + y)) := by
  unfold soundserviceref18_plus.f soundserviceref18_plus.carry enc
  simp only
  rw [if_pos (by omega)]
  refine congrArg some (Prod.ext ?_ ?_)
  · simp only
    omega
  · simp only
    omega
theorem more_enc {x y : Int} (hx : 0 ≤ x) (hx' : x < 340282366920938463463374607431768211456) (hy : 0 ≤ y) (hy' : y < 340282366920938463463374607431768211456) : soundserviceref18_more.f (enc x).1 (enc x).2 (enc y).1 (enc y).2 = some (decide (y < x)) := by
  unfold soundserviceref18_more.f enc
  simp only
  split
  · rw [decide_eq_true (by omega)]
  · split
    · exact congrArg some (decide_eq_decide.2 (by omega))
    · rw [decide_eq_false (by omega)]
theorem near_enc {u n y : Int} (hu : 0 ≤ u ∧ u ≤ 1267650600228229401496703205376) (hn : 0 ≤ n ∧ n ≤ 1267650600228229401496703205376) (hy : 0 ≤ y ∧ y ≤ 1267650600228229401496703205376) :
    soundserviceref18_near.f (enc u).1 (enc u).2 (enc n).1 (enc n).2 (enc y).1 (enc y).2 = some (decide (u ≤ n + y) && decide (n ≤ u + y)) := by
  unfold soundserviceref18_near.f
  rw [plus_enc]
  simp only [Option.bind_some]
  rw [more_enc (by omega) (by omega) (by omega) (by omega)]
  simp only [Option.bind_some]
  by_cases c : n + y < u
  · rw [decide_eq_true c, decide_eq_false (show ¬ u ≤ n + y by omega)]
    rfl
  · rw [decide_eq_false c, decide_eq_true (show u ≤ n + y by omega), plus_enc]
    simp only [Option.bind_some, Bool.false_eq_true, if_false]
    rw [more_enc (by omega) (by omega) (by omega) (by omega)]
    simp only [Option.bind_some, Bool.true_and]
    by_cases c2 : u + y < n
    · rw [decide_eq_true c2, decide_eq_false (show ¬ n ≤ u + y by omega)]
      rfl
    · rw [decide_eq_false c2, decide_eq_true (show n ≤ u + y by omega)]
      rfl
end Go.Proofs.YtcnheiemajghiaaX
