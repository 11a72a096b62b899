/-
  control.Declared and its reference over plain integers, at every base and period: both hold exactly where each window of transfers keeps the bounds.
-/
import Derived.Test.YtcnheiemajghiaaPAx10
import Derived.Test.YtcnheiemajghiaaPAx11
import Derived.Test.YtcnheiemajghiaaPAx12
import Derived.Test.YtcnheiemajghiaaPAx4
import Derived.Test.YtcnheiemajghiaaPAx6
import Derived.Test.YtcnheiemajghiaaPAx7
import Derived.Test.YtcnheiemajghiaaPAx8
import Derived.Test.YtcnheiemajghiaaYDecl
import Derived.Test.YtcnheiemajghiaaYRef
namespace Go.Proofs.YtcnheiemajghiaaX
open Go.RowKit Go.Proofs.Ytcnheiemajghiaa.PA Go.Proofs.YtcnheiemajghiaaW.PrintWords Go.Proofs.YtcnheiemajghiaaW.PrintLast Go.Proofs.YtcnheiemajghiaaW.PrintMore
theorem below_big {x y : Int} (h0 : -10141204801825835211973625643008 ≤ x) (h1 : x ≤ 10141204801825835211973625643008) (h2 : -10141204801825835211973625643008 ≤ y) (h3 : y ≤ 10141204801825835211973625643008) :
    control_below.f (enc x).1 (enc x).2 (enc y).1 (enc y).2 = some (decide (x < y)) := by
  unfold control_below.f enc wrap64
  simp only
  split
  · rw [decide_eq_true (by omega)]
  · split
    · exact congrArg some (decide_eq_decide.2 (by omega))
    · rw [decide_eq_false (by omega)]
theorem move_big {n l b m : Int} (hn : -1267650600228229401496703205376 ≤ n ∧ n ≤ 1267650600228229401496703205376) (hl : -1267650600228229401496703205376 ≤ l ∧ l ≤ 1267650600228229401496703205376) (hb : -1267650600228229401496703205376 ≤ b ∧ b ≤ 1267650600228229401496703205376) (hm : 0 ≤ m ∧ m ≤ 1267650600228229401496703205376) :
    control_level_move.f (enc n).1 (enc n).2 (enc l).1 (enc l).2 (enc b).1 (enc b).2 (enc m).1 (enc m).2 = some (decide (n + b - lowI (n + b) l ≤ m), enc (n + b), enc (lowI (n + b) l)) := by
  unfold control_level_move.f
  have h0 := less_enc 0 b
  rw [enc0] at h0
  simp only at h0
  rw [h0]
  simp only [Option.bind_some]
  rw [less_enc n (0 - b), show n - (0 - b) = n + b by omega]
  simp only [Option.bind_some]
  rw [below_big (by omega) (by omega) (by omega) (by omega)]
  simp only [Option.bind_some]
  have key : control_less.f (enc (n + b)).1 (enc (n + b)).2 (if decide (n + b < l) = true then (enc (n + b)).1 else (enc l).1) (if decide (n + b < l) = true then (enc (n + b)).2 else (enc l).2) = some (enc (n + b - lowI (n + b) l)) ∧
      (if decide (n + b < l) = true then (enc (n + b)).1 else (enc l).1) = (enc (lowI (n + b) l)).1 ∧ (if decide (n + b < l) = true then (enc (n + b)).2 else (enc l).2) = (enc (lowI (n + b) l)).2 := by
    unfold lowI
    by_cases c : n + b < l
    · simp only [decide_eq_true c, if_true, if_pos c]
      exact ⟨less_enc _ _, by first | trivial | rfl, by first | trivial | rfl⟩
    · simp only [decide_eq_false c, Bool.false_eq_true, if_false, if_neg c]
      exact ⟨less_enc _ _, by first | trivial | rfl, by first | trivial | rfl⟩
  rw [key.1, key.2.1, key.2.2]
  simp only [Option.bind_some]
  have hw : -10141204801825835211973625643008 ≤ n + b - lowI (n + b) l ∧ n + b - lowI (n + b) l ≤ 10141204801825835211973625643008 := by
    unfold lowI
    split <;> omega
  rw [below_big (by omega) (by omega) hw.1 hw.2]
  simp only [Option.bind_some]
  refine congrArg some (Prod.ext ?_ rfl)
  simp only
  by_cases c : m < n + b - lowI (n + b) l
  · rw [decide_eq_true c, decide_eq_false (by omega)]
    rfl
  · rw [decide_eq_false c, decide_eq_true (by omega)]
    rfl
theorem inner_big {m C c : Int} (hm : 0 ≤ m ∧ m ≤ 1267650600228229401496703205376) (hC : 0 ≤ C ∧ C ≤ 1267650600228229401496703205376) (hc : 0 ≤ c ∧ c ≤ 1267650600228229401496703205376) : ∀ (bs : List Int) (ss : List (Int × Int)), (∀ b ∈ bs, -C ≤ b ∧ b ≤ C) → In c ss → bs.length = ss.length →
    control_Declared.inner (enc m).1 (enc m).2 (bs.map enc) (ss.map encS) = some ((innerI m bs ss).1, (innerI m bs ss).2.map encS) ∧ In (c + C) (innerI m bs ss).2 ∧ ((innerI m bs ss).1 = true → (innerI m bs ss).2.length = ss.length)
 | [], [], _, _, _ => ⟨rfl, fun s hs => absurd hs (by simp [innerI]), fun _ => rfl⟩
 | [], _ :: _, _, _, h => absurd h (by simp)
 | _ :: _, [], _, _, h => absurd h (by simp)
 | b :: bs, s :: ss, hb, hs, h => by
   have hb0 := hb b (List.mem_cons_self ..)
   have hs0 := hs s (List.mem_cons_self ..)
   obtain ⟨e, hin, hl⟩ := inner_big hm hC hc bs ss (fun x hx => hb x (List.mem_cons_of_mem _ hx)) (fun x hx => hs x (List.mem_cons_of_mem _ hx)) (by simpa using h)
   have hmv := move_big (n := s.1) (l := s.2) (b := b) (m := m) ⟨by omega, by omega⟩ ⟨by omega, by omega⟩ ⟨by omega, by omega⟩ hm
   simp only [List.map_cons, control_Declared.inner, innerI]
   rw [show (encS s).f0.f0 = (enc s.1).1 from rfl, show (encS s).f0.f1 = (enc s.1).2 from rfl, show (encS s).f1.f0 = (enc s.2).1 from rfl, show (encS s).f1.f1 = (enc s.2).2 from rfl, hmv]
   simp only [Option.bind_some]
   have hlow : -(c + C) ≤ lowI (s.1 + b) s.2 ∧ lowI (s.1 + b) s.2 ≤ c + C := by
     unfold lowI
     split <;> omega
   by_cases k : s.1 + b - lowI (s.1 + b) s.2 ≤ m
   · simp only [decide_eq_true k, if_true, if_pos k, e, Option.bind_some]
     refine ⟨rfl, ?_, fun hx => by rw [List.length_cons, List.length_cons, hl hx]⟩
     intro x hx
     rcases List.mem_cons.1 hx with rfl | hx
     · exact ⟨⟨by simp only; omega, by simp only; omega⟩, hlow⟩
     · exact hin x hx
   · simp only [decide_eq_false k, Bool.false_eq_true, if_false, if_neg k]
     exact ⟨rfl, fun x hx => absurd hx (by simp), fun hx => absurd hx (by simp)⟩
/-- The numbers of a declaration: base, period, drift and jitter. -/
structure Nums (a b p q d j : Int) : Prop where
  a0 : 1 ≤ a ∧ a ≤ 768000
  b0 : 1 ≤ b ∧ b ≤ 768000
  p0 : 1 ≤ p ∧ p ≤ 68719476736
  q0 : 1 ≤ q ∧ q ≤ 768000
  d0 : 0 ≤ d ∧ d ≤ 4096
  j0 : 0 ≤ j ∧ j ≤ 65536
/-- The six ways in which a transfer may differ from what was declared. -/
def c1 (a b p q d : Int) (t : S54) : Int := t.f0 * a * (q * 65536) - p * b * (65536 + d)
def c2 (a b p q d : Int) (t : S54) : Int := p * b * (65536 - d) - t.f0 * a * (q * 65536)
def c3 (b p q d : Int) (t : S54) : Int := t.f1 * b * (q * 65536) - p * b * (65536 + d)
def c4 (b p q d : Int) (t : S54) : Int := p * b * (65536 - d) - t.f1 * b * (q * 65536)
def c5 (a b p q d : Int) (t : S54) : Int := t.f0 * a * (q * 65536) - t.f1 * b * (q * 65536) - p * b * d
def c6 (a b p q d : Int) (t : S54) : Int := t.f1 * b * (q * 65536) - t.f0 * a * (q * 65536) - p * b * d
def cs (a b p q d : Int) : List (S54 → Int) := [c1 a b p q d, c2 a b p q d, c3 b p q d, c4 b p q d, c5 a b p q d, c6 a b p q d]
def limS (b q j : Int) : Int := b * (q * 65536) * j
def loopG (cs : List (S54 → Int)) (m : Int) : List S54 → List (Int × Int) → Bool
 | [], _ => true
 | t :: ts, ss => if soundserviceref18_Declared.check [t] = true then (if (innerI m (cs.map (· t)) ss).1 = true then loopG cs m ts (innerI m (cs.map (· t)) ss).2 else false) else false
theorem mul_in {a b A B : Int} (ha : 0 ≤ a) (ha' : a ≤ A) (hb : 0 ≤ b) (hb' : b ≤ B) : 0 ≤ a * b ∧ a * b ≤ A * B := ⟨Int.mul_nonneg ha hb, Int.mul_le_mul ha' hb' hb (by omega)⟩
theorem check_one {t : S54} : soundserviceref18_Declared.check [t] = true ↔ (0 ≤ t.f0 ∧ t.f0 ≤ 65536) ∧ 0 ≤ t.f1 ∧ t.f1 ≤ 65536 := by
  simp only [soundserviceref18_Declared.check]
  by_cases h1 : t.f0 < 0
  · rw [if_pos h1]; constructor <;> intro h <;> first | exact absurd h (by decide) | omega
  · rw [if_neg h1]
    by_cases h2 : t.f0 > 65536
    · rw [if_pos h2]; constructor <;> intro h <;> first | exact absurd h (by decide) | omega
    · rw [if_neg h2]
      by_cases h3 : t.f1 < 0
      · rw [if_pos h3]; constructor <;> intro h <;> first | exact absurd h (by decide) | omega
      · rw [if_neg h3]
        by_cases h4 : t.f1 > 65536
        · rw [if_pos h4]; constructor <;> intro h <;> first | exact absurd h (by decide) | omega
        · rw [if_neg h4]; constructor <;> intro h <;> first | rfl | omega
theorem check_cons (t : S54) (ts : List S54) : soundserviceref18_Declared.check (t :: ts) = (soundserviceref18_Declared.check [t] && soundserviceref18_Declared.check ts) := by
  simp only [soundserviceref18_Declared.check]
  split
  · rfl
  · split
    · rfl
    · split
      · rfl
      · split
        · rfl
        · rfl
/-- The products, and their bounds. -/
theorem prods {a b p q d j : Int} (N : Nums a b p q d j) : (0 ≤ p * b ∧ p * b ≤ 52776558133248000) ∧ (0 ≤ b * (q * 65536) ∧ b * (q * 65536) ≤ 38654705664000000) ∧ (0 ≤ limS b q j ∧ limS b q j ≤ 2533274790395904000000) ∧
    (0 ≤ p * b * (65536 + d) ∧ p * b * (65536 + d) ≤ 3674937295934324736000) ∧ (0 ≤ p * b * (65536 - d) ∧ p * b * (65536 - d) ≤ 3674937295934324736000) ∧ (0 ≤ p * b * d ∧ p * b * d ≤ 3674937295934324736000) := by
  have h1 := mul_in (A := 68719476736) (B := 768000) (show 0 ≤ p by have := N.p0; omega) N.p0.2 (show 0 ≤ b by have := N.b0; omega) N.b0.2
  have h2 := mul_in (A := 768000) (B := 50331648000) (show 0 ≤ b by have := N.b0; omega) N.b0.2 (show 0 ≤ q * 65536 by have := N.q0; omega) (by have := N.q0; omega)
  have h3 := mul_in (A := 38654705664000000) (B := 65536) h2.1 (by omega) N.j0.1 N.j0.2
  have h4 := mul_in (A := 52776558133248000) (B := 69632) h1.1 (by omega) (show 0 ≤ 65536 + d by have := N.d0; omega) (by have := N.d0; omega)
  have h5 := mul_in (A := 52776558133248000) (B := 69632) h1.1 (by omega) (show 0 ≤ 65536 - d by have := N.d0; omega) (by have := N.d0; omega)
  have h6 := mul_in (A := 52776558133248000) (B := 69632) h1.1 (by omega) N.d0.1 (by have := N.d0; omega)
  unfold limS
  exact ⟨⟨h1.1, by omega⟩, ⟨h2.1, by omega⟩, ⟨h3.1, by omega⟩, ⟨h4.1, by omega⟩, ⟨h5.1, by omega⟩, ⟨h6.1, by omega⟩⟩
theorem uv {x a q : Int} (hx : 0 ≤ x ∧ x ≤ 65536) (ha : 1 ≤ a ∧ a ≤ 768000) (hq : 1 ≤ q ∧ q ≤ 768000) : (0 ≤ x * a ∧ x * a ≤ 50331648000) ∧ 0 ≤ x * a * (q * 65536) ∧ x * a * (q * 65536) ≤ 2533274790395904000000 := by
  have h1 := mul_in (A := 65536) (B := 768000) hx.1 hx.2 (show 0 ≤ a by omega) ha.2
  have h2 := mul_in (A := 50331648000) (B := 50331648000) h1.1 (by omega) (show 0 ≤ q * 65536 by omega) (by omega)
  exact ⟨⟨h1.1, by omega⟩, h2.1, by omega⟩
theorem rnd_big {a b p q d j : Int} (N : Nums a b p q d j) {s : S54} (h : (0 ≤ s.f0 ∧ s.f0 ≤ 65536) ∧ 0 ≤ s.f1 ∧ s.f1 ≤ 65536) :
    control_Declared.rnd a b (q * 65536) (enc (p * b * (65536 + d))) (enc (p * b * (65536 - d))) (enc (p * b * d)) s = some (some (((cs a b p q d).map (· s)).map enc)) := by
  unfold control_Declared.rnd
  obtain ⟨⟨u0, u1⟩, u2, u3⟩ := uv h.1 N.a0 N.q0
  obtain ⟨⟨v0, v1⟩, v2, v3⟩ := uv h.2 N.b0 N.q0
  have hq := N.q0
  rw [if_neg (by omega), if_neg (by omega), if_neg (by omega), if_neg (by omega), w64 (n := s.f0 * a) (by omega) (by omega), w64 (n := s.f1 * b) (by omega) (by omega),
    product_enc (a := s.f0 * a) (by omega) (by omega) (by omega) (by omega) (by omega) (by omega), product_enc (a := s.f1 * b) (by omega) (by omega) (by omega) (by omega) (by omega) (by omega)]
  simp only [Option.bind_some]
  unfold control_Declared.moves
  simp only [less_enc, Option.bind_some]
  rfl
theorem loop_big {a b p q d j : Int} (N : Nums a b p q d j) : ∀ (l : List S54) (c : Int) (ss : List (Int × Int)), 0 ≤ c → c + l.length * 1208925819614629174706176 ≤ 1267650600228229401496703205376 → In c ss → ss.length = 6 →
    control_Declared.loop a b (q * 65536) (enc (limS b q j)) (enc (p * b * (65536 + d))) (enc (p * b * (65536 - d))) (enc (p * b * d)) l (ss.map encS) = some (loopG (cs a b p q d) (limS b q j) l ss)
 | [], _, _, _, _, _, _ => rfl
 | t :: ts, c, ss, hc0, hc, hs, h6 => by
   rw [List.length_cons] at hc
   obtain ⟨-, -, hl, hm, hle, hsp⟩ := prods N
   by_cases ht : soundserviceref18_Declared.check [t] = true
   · have ht' := check_one.1 ht
     obtain ⟨-, u2, u3⟩ := uv ht'.1 N.a0 N.q0
     obtain ⟨-, v2, v3⟩ := uv ht'.2 N.b0 N.q0
     obtain ⟨e, hin, hlen⟩ := inner_big (m := limS b q j) (C := 1208925819614629174706176) (c := c) (by omega) (by omega) (by omega) ((cs a b p q d).map (· t)) ss (by
       intro x hx
       simp only [cs, List.map_cons, List.map_nil, List.mem_cons, List.not_mem_nil, or_false] at hx
       rcases hx with rfl | rfl | rfl | rfl | rfl | rfl <;> simp only [c1, c2, c3, c4, c5, c6] <;> omega) hs (by rw [h6]; rfl)
     simp only [control_Declared.loop, rnd_big N ht', Option.bind_some, e, loopG]
     rw [if_pos ht]
     by_cases k : (innerI (limS b q j) ((cs a b p q d).map (· t)) ss).1 = true
     · rw [if_pos k, if_pos k]
       exact loop_big N ts (c + 1208925819614629174706176) _ (by omega) (by omega) hin (by rw [hlen k, h6])
     · rw [if_neg k, if_neg k]
   · simp only [control_Declared.loop, loopG]
     rw [if_neg ht]
     have hr : control_Declared.rnd a b (q * 65536) (enc (p * b * (65536 + d))) (enc (p * b * (65536 - d))) (enc (p * b * d)) t = some none := by
       unfold control_Declared.rnd
       by_cases h1 : t.f0 < 0
       · rw [if_pos h1]
       · rw [if_neg h1]
         by_cases h2 : t.f0 > 65536
         · rw [if_pos h2]
         · rw [if_neg h2]
           by_cases h3 : t.f1 < 0
           · rw [if_pos h3]
           · rw [if_neg h3, if_pos (show t.f1 > 65536 from Int.not_le.1 fun hn => ht (check_one.2 ⟨⟨by omega, by omega⟩, by omega, hn⟩))]
     rw [hr]
     rfl
end Go.Proofs.YtcnheiemajghiaaX
