/-
  What dice give, and what the statements about control make of them.
-/
import Derived.Test.YthnmmiofhjbkeaaPAx0
import Derived.Test.YthnmmiofhjbkeaaPAx14
import Derived.Test.YthnmmiofhjbkeaaPAx16
import Derived.Test.YthnmmiofhjbkeaaXPlain
namespace Go.Proofs.YthnmmiofhjbkeaaX
open Go.RowKit Go.Proofs.Ythnmmiofhjbkeaa.PA Go.Proofs.YthnmmiofhjbkeaaW.PrintWords Go.Proofs.YthnmmiofhjbkeaaW.PrintLast Go.Proofs.YthnmmiofhjbkeaaW.PrintMore
theorem u8_of {a : Int} (h : (Lit.int .u8 a).wf = true) : 0 ≤ a ∧ a ≤ 255 := by
  simp [Lit.wf, IntKind.min, IntKind.max, IntKind.signed, IntKind.bits] at h; exact h
def Bytes (l : List Int) : Prop := ∀ x ∈ l, 0 ≤ x ∧ x ≤ 255
theorem bytes_of {l : List Int} (h : ∀ x ∈ l, (Lit.int .u8 x).wf = true) : Bytes l := fun x hx => u8_of (h x hx)
theorem Bytes.drop {l : List Int} (h : Bytes l) (n : Nat) : Bytes (l.drop n) := fun x hx => h x (List.mem_of_mem_drop hx)
theorem Bytes.take {l : List Int} (h : Bytes l) (n : Nat) : Bytes (l.take n) := fun x hx => h x (List.mem_of_mem_take hx)
theorem next_some {l : List Int} (h : Bytes l) {n : Int} (hn : 1 ≤ n) : ∃ r l', soundservicemade_Dice_Next.f l n = some (r, l') ∧ 0 ≤ r ∧ r < n ∧ Bytes l' := by
  unfold soundservicemade_Dice_Next.f
  by_cases c : (l.length : Int) = 0
  · rw [if_pos c]; exact ⟨0, l, rfl, by omega, by omega, h⟩
  · rw [if_neg c]
    by_cases c2 : n ≤ 1
    · rw [if_pos c2]; exact ⟨0, l, rfl, by omega, by omega, h⟩
    · rw [if_neg c2]
      have hm : rd l 0 ∈ l := by
        cases l with
        | nil => simp at c
        | cons a t => simp [rd]
      obtain ⟨b0, b1⟩ := h _ hm
      rw [w64 (n := rd l 0) (by omega) (by omega), tmod_pos b0]
      exact ⟨_, _, rfl, Int.emod_nonneg _ (by omega), Int.emod_lt_of_pos _ (by omega), h.drop 1⟩
theorem new_some {l : List Int} (h : Bytes l) : ∃ l', soundservicemade_New.f l = some l' ∧ Bytes l' := by
  unfold soundservicemade_New.f
  have : 0 ≤ mn (l.length : Int) 300 ∧ mn (l.length : Int) 300 ≤ (l.length : Int) := by unfold mn; split <;> omega
  rw [if_pos this.1, if_pos this.2]
  exact ⟨_, rfl, h.take _⟩
end Go.Proofs.YthnmmiofhjbkeaaX
