/-
  What dice give, and what the statements about control make of them.
-/
import Derived.Test.YtcnheiemajghiaaPAx0
import Derived.Test.YtcnheiemajghiaaPAx2
import Derived.Test.YtcnheiemajghiaaPAx3
import Derived.Test.YtcnheiemajghiaaPAx4
import Derived.Test.YtcnheiemajghiaaXPlain
namespace Go.Proofs.YtcnheiemajghiaaX
open Go.RowKit Go.Proofs.Ytcnheiemajghiaa.PA Go.Proofs.YtcnheiemajghiaaW.PrintWords Go.Proofs.YtcnheiemajghiaaW.PrintLast Go.Proofs.YtcnheiemajghiaaW.PrintMore
theorem u8_of {a : Int} (h : (Lit.int .u8 a).wf = true) : 0 ≤ a ∧ a ≤ 255 := by
  simp [Lit.wf, IntKind.min, IntKind.max, IntKind.signed, IntKind.bits] at h; exact h
def Bytes (l : List Int) : Prop := ∀ x ∈ l, 0 ≤ x ∧ x ≤ 255
theorem bytes_of {l : List Int} (h : ∀ x ∈ l, (Lit.int .u8 x).wf = true) : Bytes l := fun x hx => u8_of (h x hx)
theorem Bytes.drop {l : List Int} (h : Bytes l) (n : Nat) : Bytes (l.drop n) := fun x hx => h x (List.mem_of_mem_drop hx)
theorem Bytes.take {l : List Int} (h : Bytes l) (n : Nat) : Bytes (l.take n) := fun x hx => h x (List.mem_of_mem_take hx)
theorem next_some {l : List Int} (h : Bytes l) {n : Int} (hn : 1 ≤ n) : ∃ r l', soundservicemade_Dice_Next.f l n = some (r, l') ∧ 0 ≤ r ∧ r < n ∧ Bytes l' := by
  unfold soundservicemade_Dice_Next.f
  by_cases c : (l.length : Int) = 0
  · rw [if_pos c]; exact ⟨0, l, rfl, by omega, by omega, h⟩
  · rw [if_neg c]
    by_cases c2 : n ≤ 1
    · rw [if_pos c2]; exact ⟨0, l, rfl, by omega, by omega, h⟩
    · rw [if_neg c2]
      have hm : rd l 0 ∈ l := by
        cases l with
        | nil => simp at c
        | cons a t => simp [rd]
      obtain ⟨b0, b1⟩ := h _ hm
      rw [w64 (n := rd l 0) (by omega) (by omega), tmod_pos b0]
      exact ⟨_, _, rfl, Int.emod_nonneg _ (by omega), Int.emod_lt_of_pos _ (by omega), h.drop 1⟩
theorem new_some {l : List Int} (h : Bytes l) : ∃ l', soundservicemade_New.f l = some l' ∧ Bytes l' := by
  unfold soundservicemade_New.f
  have : 0 ≤ mn (l.length : Int) 300 ∧ mn (l.length : Int) 300 ≤ (l.length : Int) := by unfold mn; split <;> omega
  rw [if_pos this.1, if_pos this.2]
  exact ⟨_, rfl, h.take _⟩
/-- Controls, periods, drifts and jitters that dice give. -/
structure Made (t d g m p q k j : Int) : Prop where
  target : 0 ≤ t ∧ t ≤ 2040
  dead : 0 ≤ d ∧ d ≤ 59
  gain : 1 ≤ g ∧ g ≤ 200
  most : m = 0 ∨ m = 100 ∨ m = 4096 ∨ m = 67
  period : p = 64 ∧ q = 1 ∨ p = 294 ∧ q = 5 ∨ p = 1 ∧ q = 64 ∨ p = 1024 ∧ q = 3
  drift : k = 0 ∨ k = 66 ∨ k = 100 ∨ k = 4096 ∨ k = 2000
  jitter : 0 ≤ j ∧ j ≤ 19
theorem made18_some {l : List Int} (h : Bytes l) : ∃ t d g m p q k j l', soundservicelaw18_made.f l = some (t, d, g, m, p, q, k, j, l') ∧ Made t d g m p q k j ∧ Bytes l' := by
  unfold soundservicelaw18_made.f
  obtain ⟨r1, l1, e1, a1, b1, h1⟩ := next_some h (n := 256) (by decide)
  obtain ⟨r2, l2, e2, a2, b2, h2⟩ := next_some h1 (n := 60) (by decide)
  obtain ⟨r3, l3, e3, a3, b3, h3⟩ := next_some h2 (n := 200) (by decide)
  obtain ⟨r4, l4, e4, a4, b4, h4⟩ := next_some h3 (n := 4) (by decide)
  obtain ⟨r5, l5, e5, a5, b5, h5⟩ := next_some h4 (n := 4) (by decide)
  obtain ⟨r6, l6, e6, a6, b6, h6⟩ := next_some h5 (n := 5) (by decide)
  obtain ⟨r7, l7, e7, a7, b7, h7⟩ := next_some h6 (n := 20) (by decide)
  rw [e1]; simp only [Option.bind_some]
  rw [e2]; simp only [Option.bind_some]
  rw [e3]; simp only [Option.bind_some]
  rw [e4]; simp only [Option.bind_some]
  rw [if_pos a4, if_pos (by simpa using b4), e5]; simp only [Option.bind_some]
  rw [if_pos a5, if_pos (by simpa using b5), e6]; simp only [Option.bind_some]
  rw [if_pos a6, if_pos (by simpa using b6), e7]; simp only [Option.bind_some]
  rw [w64 (n := r1 * 8) (by omega) (by omega), w64 (n := 1 + r3) (by omega) (by omega)]
  refine ⟨_, _, _, _, _, _, _, _, _, rfl, ⟨by omega, by omega, by omega, ?_, ?_, ?_, by omega⟩, h7⟩
  · have : r4 = 0 ∨ r4 = 1 ∨ r4 = 2 ∨ r4 = 3 := by omega
    rcases this with rfl | rfl | rfl | rfl <;> decide
  · have : r5 = 0 ∨ r5 = 1 ∨ r5 = 2 ∨ r5 = 3 := by omega
    rcases this with rfl | rfl | rfl | rfl <;> decide
  · have : r6 = 0 ∨ r6 = 1 ∨ r6 = 2 ∨ r6 = 3 ∨ r6 = 4 := by omega
    rcases this with rfl | rfl | rfl | rfl | rfl <;> decide
end Go.Proofs.YtcnheiemajghiaaX
