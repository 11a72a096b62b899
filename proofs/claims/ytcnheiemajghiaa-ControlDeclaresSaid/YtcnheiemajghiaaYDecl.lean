/-
  What the given contract of control.Declared computes, at the base 1/1 and the period 64/1, over plain integers; a weaker declaration
  keeps what a stronger one keeps.
-/
import Derived.Test.YtcnheiemajghiaaPAx4
import Derived.Test.YtcnheiemajghiaaPAx6
import Derived.Test.YtcnheiemajghiaaPAx7
import Derived.Test.YtcnheiemajghiaaPAx8
import Derived.Test.YtcnheiemajghiaaYBound
import Derived.Test.YtcnheiemajghiaaXBits
namespace Go.Proofs.YtcnheiemajghiaaX
open Go.RowKit Go.Proofs.Ytcnheiemajghiaa.PA Go.Proofs.YtcnheiemajghiaaW.PrintWords Go.Proofs.YtcnheiemajghiaaW.PrintLast Go.Proofs.YtcnheiemajghiaaW.PrintMore
/-- A number in two words. -/
def enc (x : Int) : Int × Int := (x / 18446744073709551616 % 18446744073709551616, x % 18446744073709551616)
theorem enc0 : enc 0 = (0, 0) := by simp [enc]
theorem less_enc (x y : Int) : control_less.f (enc x).1 (enc x).2 (enc y).1 (enc y).2 = some (enc (x - y)) := by
  unfold control_less.f control_less.carry enc
  simp only
  rw [if_pos (by omega)]
  refine congrArg some (Prod.ext ?_ ?_)
  · simp only
    split <;> omega
  · simp only
    omega
theorem below_enc {x y : Int} (h0 : -4611686018427387904 ≤ x) (h1 : x ≤ 4611686018427387904) (h2 : -4611686018427387904 ≤ y) (h3 : y ≤ 4611686018427387904) :
    control_below.f (enc x).1 (enc x).2 (enc y).1 (enc y).2 = some (decide (x < y)) := by
  unfold control_below.f enc wrap64
  simp only
  split
  · rw [decide_eq_true (by omega)]
  · split
    · exact congrArg some (decide_eq_decide.2 (by omega))
    · rw [decide_eq_false (by omega)]
theorem product_enc {a b : Int} (ha : 0 ≤ a) (ha' : a < 18446744073709551616) (hb : 0 ≤ b) (hb' : b < 18446744073709551616) (h0 : 0 ≤ a * b) (h1 : a * b < 340282366920938463463374607431768211456) : control_product.f a b = some (enc (a * b)) := by
  unfold control_product.f
  rw [u64 ha ha', u64 hb hb', mul64 ha ha' hb hb']
  simp only [Option.bind_some]
  unfold enc
  refine congrArg some (Prod.ext ?_ rfl)
  simp only
  omega
/-- The least sum so far. -/
def lowI (n l : Int) : Int := if n < l then n else l
theorem move_enc {n l b m : Int} (hn : -1152921504606846976 ≤ n ∧ n ≤ 1152921504606846976) (hl : -1152921504606846976 ≤ l ∧ l ≤ 1152921504606846976) (hb : -1152921504606846976 ≤ b ∧ b ≤ 1152921504606846976) (hm : 0 ≤ m ∧ m ≤ 1152921504606846976) :
    control_level_move.f (enc n).1 (enc n).2 (enc l).1 (enc l).2 (enc b).1 (enc b).2 (enc m).1 (enc m).2 = some (decide (n + b - lowI (n + b) l ≤ m), enc (n + b), enc (lowI (n + b) l)) := by
  unfold control_level_move.f
  have h0 := less_enc 0 b
  rw [enc0] at h0
  simp only at h0
  rw [h0]
  simp only [Option.bind_some]
  rw [less_enc n (0 - b), show n - (0 - b) = n + b by omega]
  simp only [Option.bind_some]
  rw [below_enc (by omega) (by omega) (by omega) (by omega)]
  simp only [Option.bind_some]
  have key : control_less.f (enc (n + b)).1 (enc (n + b)).2 (if decide (n + b < l) = true then (enc (n + b)).1 else (enc l).1) (if decide (n + b < l) = true then (enc (n + b)).2 else (enc l).2) = some (enc (n + b - lowI (n + b) l)) ∧
      (if decide (n + b < l) = true then (enc (n + b)).1 else (enc l).1) = (enc (lowI (n + b) l)).1 ∧ (if decide (n + b < l) = true then (enc (n + b)).2 else (enc l).2) = (enc (lowI (n + b) l)).2 := by
    unfold lowI
    by_cases c : n + b < l
    · simp only [decide_eq_true c, if_true, if_pos c]
      exact ⟨less_enc _ _, by first | trivial | rfl, by first | trivial | rfl⟩
    · simp only [decide_eq_false c, Bool.false_eq_true, if_false, if_neg c]
      exact ⟨less_enc _ _, by first | trivial | rfl, by first | trivial | rfl⟩
  rw [key.1, key.2.1, key.2.2]
  simp only [Option.bind_some]
  have hw : -4611686018427387904 ≤ n + b - lowI (n + b) l ∧ n + b - lowI (n + b) l ≤ 4611686018427387904 := by
    unfold lowI
    split <;> omega
  rw [below_enc (by omega) (by omega) hw.1 hw.2]
  simp only [Option.bind_some]
  refine congrArg some (Prod.ext ?_ rfl)
  simp only
  by_cases c : m < n + b - lowI (n + b) l
  · rw [decide_eq_true c, decide_eq_false (by omega)]
    rfl
  · rw [decide_eq_false c, decide_eq_true (by omega)]
    rfl
def encS (s : Int × Int) : control_Declared.SU := ⟨⟨(enc s.1).1, (enc s.1).2⟩, ⟨(enc s.2).1, (enc s.2).2⟩⟩
def innerI (m : Int) : List Int → List (Int × Int) → Bool × List (Int × Int)
 | [], ss => (true, ss)
 | _ :: _, [] => (false, [])
 | b :: bs, s :: ss => if s.1 + b - lowI (s.1 + b) s.2 ≤ m then ((innerI m bs ss).1, (s.1 + b, lowI (s.1 + b) s.2) :: (innerI m bs ss).2) else (false, [])
/-- The sums' bounds. -/
def In (c : Int) (ss : List (Int × Int)) : Prop := ∀ s ∈ ss, (-c ≤ s.1 ∧ s.1 ≤ c) ∧ -c ≤ s.2 ∧ s.2 ≤ c
theorem inner_enc {m C c : Int} (hm : 0 ≤ m ∧ m ≤ 1152921504606846976) (hC : 0 ≤ C ∧ C ≤ 1152921504606846976) (hc : 0 ≤ c ∧ c ≤ 1152921504606846976) : ∀ (bs : List Int) (ss : List (Int × Int)), (∀ b ∈ bs, -C ≤ b ∧ b ≤ C) → In c ss → bs.length = ss.length →
    control_Declared.inner (enc m).1 (enc m).2 (bs.map enc) (ss.map encS) = some ((innerI m bs ss).1, (innerI m bs ss).2.map encS) ∧ In (c + C) (innerI m bs ss).2 ∧ ((innerI m bs ss).1 = true → (innerI m bs ss).2.length = ss.length)
 | [], [], _, _, _ => ⟨rfl, fun s hs => absurd hs (by simp [innerI]), fun _ => rfl⟩
 | [], _ :: _, _, _, h => absurd h (by simp)
 | _ :: _, [], _, _, h => absurd h (by simp)
 | b :: bs, s :: ss, hb, hs, h => by
   have hb0 := hb b (List.mem_cons_self ..)
   have hs0 := hs s (List.mem_cons_self ..)
   obtain ⟨e, hin, hl⟩ := inner_enc hm hC hc bs ss (fun x hx => hb x (List.mem_cons_of_mem _ hx)) (fun x hx => hs x (List.mem_cons_of_mem _ hx)) (by simpa using h)
   have hmv := move_enc (n := s.1) (l := s.2) (b := b) (m := m) ⟨by omega, by omega⟩ ⟨by omega, by omega⟩ ⟨by omega, by omega⟩ hm
   simp only [List.map_cons, control_Declared.inner, innerI]
   rw [show (encS s).f0.f0 = (enc s.1).1 from rfl, show (encS s).f0.f1 = (enc s.1).2 from rfl, show (encS s).f1.f0 = (enc s.2).1 from rfl, show (encS s).f1.f1 = (enc s.2).2 from rfl, hmv]
   simp only [Option.bind_some]
   have hlow : -(c + C) ≤ lowI (s.1 + b) s.2 ∧ lowI (s.1 + b) s.2 ≤ c + C := by
     unfold lowI
     split <;> omega
   by_cases k : s.1 + b - lowI (s.1 + b) s.2 ≤ m
   · simp only [decide_eq_true k, if_true, if_pos k, e, Option.bind_some]
     refine ⟨rfl, ?_, fun hx => by rw [List.length_cons, List.length_cons, hl hx]⟩
     intro x hx
     rcases List.mem_cons.1 hx with rfl | hx
     · exact ⟨⟨by simp only; omega, by simp only; omega⟩, hlow⟩
     · exact hin x hx
   · simp only [decide_eq_false k, Bool.false_eq_true, if_false, if_neg k]
     exact ⟨rfl, fun x hx => absurd hx (by simp), fun hx => absurd hx (by simp)⟩
def movesI (d : Int) (s : S54) : List Int := [s.f0 * 65536 - 64 * (65536 + d), 64 * (65536 - d) - s.f0 * 65536, s.f1 * 65536 - 64 * (65536 + d), 64 * (65536 - d) - s.f1 * 65536, s.f0 * 65536 - s.f1 * 65536 - 64 * d, s.f1 * 65536 - s.f0 * 65536 - 64 * d]
def loopI (d m : Int) : List S54 → List (Int × Int) → Bool
 | [], _ => true
 | t :: ts, ss => if (innerI m (movesI d t) ss).1 = true then loopI d m ts (innerI m (movesI d t) ss).2 else false
/-- Good transfers. -/
def Small (l : List S54) : Prop := ∀ s ∈ l, (0 ≤ s.f0 ∧ s.f0 ≤ 65536) ∧ 0 ≤ s.f1 ∧ s.f1 ≤ 65536
theorem rnd_enc {d : Int} {s : S54} (h : (0 ≤ s.f0 ∧ s.f0 ≤ 65536) ∧ 0 ≤ s.f1 ∧ s.f1 ≤ 65536) :
    control_Declared.rnd 1 1 65536 (enc (64 * (65536 + d))) (enc (64 * (65536 - d))) (enc (64 * d)) s = some (some ((movesI d s).map enc)) := by
  unfold control_Declared.rnd
  rw [if_neg (by omega), if_neg (by omega), if_neg (by omega), if_neg (by omega), w64 (n := s.f0 * 1) (by omega) (by omega), w64 (n := s.f1 * 1) (by omega) (by omega), Int.mul_one, Int.mul_one,
    product_enc (a := s.f0) (by omega) (by omega) (by omega) (by omega) (by omega) (by omega), product_enc (a := s.f1) (by omega) (by omega) (by omega) (by omega) (by omega) (by omega)]
  simp only [Option.bind_some]
  unfold control_Declared.moves
  simp only [less_enc, Option.bind_some]
  rfl
theorem loop_enc {d m : Int} (hd : 0 ≤ d ∧ d ≤ 4096) (hm : 0 ≤ m ∧ m ≤ 1152921504606846976) : ∀ (l : List S54) (c : Int) (ss : List (Int × Int)), Small l → 0 ≤ c → c + l.length * 1099511627776 ≤ 1152921504606846976 → In c ss → ss.length = 6 →
    control_Declared.loop 1 1 65536 (enc m) (enc (64 * (65536 + d))) (enc (64 * (65536 - d))) (enc (64 * d)) l (ss.map encS) = some (loopI d m l ss)
 | [], _, _, _, _, _, _, _ => rfl
 | t :: ts, c, ss, hl, hc0, hc, hs, h6 => by
   have ht := hl t (List.mem_cons_self ..)
   rw [List.length_cons] at hc
   obtain ⟨e, hin, hlen⟩ := inner_enc (C := 1099511627776) (c := c) hm (by omega) (by omega) (movesI d t) ss (by
     intro b hb
     simp only [movesI, List.mem_cons, List.not_mem_nil, or_false] at hb
     rcases hb with rfl | rfl | rfl | rfl | rfl | rfl <;> omega) hs (by rw [h6]; rfl)
   simp only [control_Declared.loop, rnd_enc ht, Option.bind_some, e, loopI]
   by_cases k : (innerI m (movesI d t) ss).1 = true
   · rw [if_pos k, if_pos k]
     exact loop_enc hd hm ts (c + 1099511627776) _ (fun x hx => hl x (List.mem_cons_of_mem _ hx)) (by omega) (by omega) hin (by rw [hlen k, h6])
   · rw [if_neg k, if_neg k]
def zeros : List (Int × Int) := [(0, 0), (0, 0), (0, 0), (0, 0), (0, 0), (0, 0)]
theorem declared_ev {d j : Int} {l : List S54} (hd : 0 ≤ d ∧ d ≤ 4096) (hj : 0 ≤ j ∧ j ≤ 65536) (hl : Small l) (hn : l.length ≤ 256) : Ev (fun k => control_Declared.f k 1 1 64 1 d j l) (loopI d (65536 * j) l zeros) := by
  unfold control_Declared.f
  have hv : validS 1 1 = true := by decide +kernel
  have hp : declS 64 1 d j = true := declS_iff.2 ⟨by decide +kernel, hd.1, hd.2, hj.1, hj.2⟩
  refine Ev.bind (valid_ev 1 1) ?_
  rw [hv]
  simp only [if_true, if_neg (show ¬ (1 : Int) > 768000 by omega)]
  refine Ev.bind (decl_ev 64 1 d j) ?_
  rw [hp]
  simp only [if_true, if_neg (show ¬ (l.length : Int) > 256 by omega)]
  rw [show wrap64 (1 * 65536) = 65536 by unfold wrap64; omega, show wrap64 (1 * 65536) = 65536 by unfold wrap64; omega, show wrap64 (64 * 1) = 64 by unfold wrap64; omega, w64 (n := 65536 + d) (by omega) (by omega), w64 (n := 65536 - d) (by omega) (by omega),
    product_enc (a := 65536) (b := j) (by omega) (by omega) (by omega) (by omega) (by omega) (by omega), product_enc (a := 64) (b := 65536 + d) (by omega) (by omega) (by omega) (by omega) (by omega) (by omega), product_enc (a := 64) (b := 65536 - d) (by omega) (by omega) (by omega) (by omega) (by omega) (by omega), product_enc (a := 64) (b := d) (by omega) (by omega) (by omega) (by omega) (by omega) (by omega)]
  simp only [Option.bind_some]
  have hz : [control_Declared.z, control_Declared.z, control_Declared.z, control_Declared.z, control_Declared.z, control_Declared.z] = zeros.map encS := by
    have : encS (0, 0) = control_Declared.z := by
      unfold encS
      simp only [enc0]
      rfl
    simp only [zeros, List.map_cons, List.map_nil, this]
  rw [hz, loop_enc hd (by omega) l 0 zeros hl (by omega) (by omega) (by intro s hs; simp [zeros] at hs; subst hs; simp) rfl]
  exact Ev.now _
/-- A weaker declaration's sums rise no more than a stronger one's. -/
theorem inner_weaker {mw ms : Int} (hm : ms ≤ mw) : ∀ (bs : List (Int × Int)) (ss : List ((Int × Int) × (Int × Int))), (∀ b ∈ bs, b.1 ≤ b.2) → (∀ s ∈ ss, s.1.1 - s.1.2 ≤ s.2.1 - s.2.2) → (innerI ms (bs.map Prod.snd) (ss.map Prod.snd)).1 = true →
    ∃ ss' : List ((Int × Int) × (Int × Int)), (∀ s ∈ ss', s.1.1 - s.1.2 ≤ s.2.1 - s.2.2) ∧ innerI mw (bs.map Prod.fst) (ss.map Prod.fst) = (true, ss'.map Prod.fst) ∧ innerI ms (bs.map Prod.snd) (ss.map Prod.snd) = (true, ss'.map Prod.snd)
 | [], ss, _, hs, _ => ⟨ss, hs, rfl, rfl⟩
 | _ :: _, [], _, _, h => absurd h (by simp [innerI])
 | b :: bs, s :: ss, hb, hs, h => by
   have hb0 := hb b (List.mem_cons_self ..)
   have hs0 := hs s (List.mem_cons_self ..)
   simp only [List.map_cons, innerI] at h ⊢
   by_cases k : s.2.1 + b.2 - lowI (s.2.1 + b.2) s.2.2 ≤ ms
   · rw [if_pos k] at h ⊢
     obtain ⟨ss', h1, h2, h3⟩ := inner_weaker hm bs ss (fun x hx => hb x (List.mem_cons_of_mem _ hx)) (fun x hx => hs x (List.mem_cons_of_mem _ hx)) h
     have k2 : s.1.1 + b.1 - lowI (s.1.1 + b.1) s.1.2 ≤ s.2.1 + b.2 - lowI (s.2.1 + b.2) s.2.2 := by
       unfold lowI
       split <;> split <;> omega
     rw [if_pos (by omega), h2, h3]
     refine ⟨((s.1.1 + b.1, lowI (s.1.1 + b.1) s.1.2), (s.2.1 + b.2, lowI (s.2.1 + b.2) s.2.2)) :: ss', ?_, rfl, rfl⟩
     intro x hx
     rcases List.mem_cons.1 hx with rfl | hx
     · exact k2
     · exact h1 x hx
   · rw [if_neg k] at h
     exact absurd h (by simp)
theorem loop_weaker {dw ds mw ms : Int} (hd : ds ≤ dw) (hm : ms ≤ mw) : ∀ (l : List S54) (ss : List ((Int × Int) × (Int × Int))), (∀ s ∈ ss, s.1.1 - s.1.2 ≤ s.2.1 - s.2.2) → loopI ds ms l (ss.map Prod.snd) = true → loopI dw mw l (ss.map Prod.fst) = true
 | [], _, _, _ => rfl
 | t :: ts, ss, hs, h => by
   simp only [loopI] at h ⊢
   by_cases k : (innerI ms (movesI ds t) (ss.map Prod.snd)).1 = true
   · rw [if_pos k] at h
     obtain ⟨ss', h1, h2, h3⟩ := inner_weaker hm ((movesI dw t).zip (movesI ds t)) ss (by
       intro b hb
       simp only [movesI, List.zip_cons_cons, List.zip_nil_right, List.mem_cons, List.not_mem_nil, or_false] at hb
       rcases hb with rfl | rfl | rfl | rfl | rfl | rfl <;> simp only <;> omega) hs k
     have e1 : ((movesI dw t).zip (movesI ds t)).map Prod.fst = movesI dw t := rfl
     have e2 : ((movesI dw t).zip (movesI ds t)).map Prod.snd = movesI ds t := rfl
     rw [e1] at h2
     rw [e2] at h3
     rw [h3] at h
     rw [h2, if_pos rfl]
     exact loop_weaker hd hm ts ss' h1 h
   · rw [if_neg k] at h
     exact absurd h (by decide)
theorem weaker {dw ds mw ms : Int} (hd : ds ≤ dw) (hm : ms ≤ mw) (l : List S54) (h : loopI ds ms l zeros = true) : loopI dw mw l zeros = true :=
  loop_weaker hd hm l [((0, 0), (0, 0)), ((0, 0), (0, 0)), ((0, 0), (0, 0)), ((0, 0), (0, 0)), ((0, 0), (0, 0)), ((0, 0), (0, 0))] (by intro s hs; simp at hs; subst hs; simp) h
end Go.Proofs.YtcnheiemajghiaaX
