/-
  What dice give, for the statements about clocks: a rate that a clock may have.
-/
import Derived.Test.YthnmmiofhjbkeaaPAx16
import Derived.Test.YthnmmiofhjbkeaaYMade
import Derived.Test.YthnmmiofhjbkeaaKClock
namespace Go.Proofs.YthnmmiofhjbkeaaX
open Go.RowKit Go.Proofs.Ythnmmiofhjbkeaa.PA Go.Proofs.YthnmmiofhjbkeaaW.PrintWords Go.Proofs.YthnmmiofhjbkeaaW.PrintLast Go.Proofs.YthnmmiofhjbkeaaW.PrintMore
theorem u16_of {a : Int} (h : (Lit.int .u16 a).wf = true) : 0 ≤ a ∧ a ≤ 65535 := by
  simp [Lit.wf, IntKind.min, IntKind.max, IntKind.signed, IntKind.bits] at h; exact h
theorem rate_some {l : List Int} (h : Bytes l) : ∃ a b l', soundservicemade_Rate.f l = some (a, b, l') ∧ usualS a b = true ∧ Bytes l' := by
  unfold soundservicemade_Rate.f
  obtain ⟨r, l', e, r0, r1, hl⟩ := next_some h (n := 8) (by decide)
  simp only [Option.bind_some]
  rw [e]
  simp only [Option.bind_some]
  rw [if_pos r0, if_pos (by simpa using r1)]
  refine ⟨_, _, _, rfl, ?_, hl⟩
  rcases (show r = 0 ∨ r = 1 ∨ r = 2 ∨ r = 3 ∨ r = 4 ∨ r = 5 ∨ r = 6 ∨ r = 7 by omega) with rfl | rfl | rfl | rfl | rfl | rfl | rfl | rfl <;> decide +kernel
end Go.Proofs.YthnmmiofhjbkeaaX
