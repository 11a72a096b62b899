/-
  The plain law behind ControlDeclares: Declared answers as the reference does, at the raw base, period and transfers and at drawn ones.
  Conditions: none beyond the statement's own guards.
-/
import Derived.Test.YtcnheiemajghiaaPAx13
import Derived.Test.YtcnheiemajghiaaYSame
import Derived.Test.YtcnheiemajghiaaYMade
namespace Go.Proofs.Ytcnheiemajghiaa.Pure
open Go.RowKit Go.Proofs.Ytcnheiemajghiaa.PA Go.Proofs.YtcnheiemajghiaaX Go.Proofs.YtcnheiemajghiaaW.PrintWords Go.Proofs.YtcnheiemajghiaaW.PrintLast Go.Proofs.YtcnheiemajghiaaW.PrintMore
theorem loop_ev (a b p q d j : Int) (l : List S54) : ∀ (n : Nat) (xs : List S54) (dice : List Int), Bytes dice → xs.length + n ≤ 1000 → Ev (fun k => soundservicelaw18_ControlDeclares.l0 k l d j xs (n : Int) a b p q dice) true
 | 0, xs, dice, _, _ => by
   refine Ev.step (f := ?fa) (fun k => ?ha) ?ga
   case ha =>
     rw [soundservicelaw18_ControlDeclares.l0, if_neg (by omega)]
   case ga =>
     refine Ev.bind (own_ev a b p q d j l) (Ev.bind (ref_ev a b p q d j l) ?_)
     simp only [BEq.rfl, if_true]
     refine Ev.bind (own_ev 1 1 64 1 d j xs) (Ev.bind (ref_ev 1 1 64 1 d j xs) ?_)
     simp only [BEq.rfl, if_true]
     refine Ev.bind (own_ev 1 1 64 1 _ _ xs) (Ev.bind (ref_ev 1 1 64 1 _ _ xs) ?_)
     simp only [BEq.rfl]
     exact Ev.now _
 | n + 1, xs, dice, hd, hn => by
   obtain ⟨r1, l1, e1, _, _, b1⟩ := next_some hd (n := 5) (by decide)
   obtain ⟨r2, l2, e2, _, _, b2⟩ := next_some b1 (n := 5) (by decide)
   have ew : wrap64 (((n + 1 : Nat) : Int) - 1) = (n : Int) := by
     rw [w64 (by omega) (by omega)]
     omega
   refine Ev.step (f := fun k => soundservicelaw18_ControlDeclares.l0 k l d j (xs ++ [(⟨wrap64 (62 + r1), wrap64 (62 + r2)⟩ : S54)]) (n : Int) a b p q l2) (fun k => ?_) ?_
   · rw [soundservicelaw18_ControlDeclares.l0, if_pos (by omega), e1]
     simp only [Option.bind_some]
     rw [e2]
     simp only [Option.bind_some]
     rw [if_pos (by omega), ew]
   · exact loop_ev a b p q d j l n _ l2 b2 (by rw [List.length_append, List.length_singleton]; omega)
theorem ControlDeclares (a b p q : Int) (l : List S54) (l3 : List Int) (d j : Int) (h3 : Bytes l3) : ∃ k, soundservicelaw18_ControlDeclares.f k a b p q l l3 d j = some true := by
  refine Ev.rounds (g := fun k => soundservicelaw18_ControlDeclares.f k a b p q l l3 d j) ?_
  unfold soundservicelaw18_ControlDeclares.f
  rw [csane]
  simp only [Option.bind_some, if_true]
  by_cases hl : (l.length : Int) > 30
  · simp only [if_pos hl]
    exact Ev.now _
  simp only [if_neg hl]
  obtain ⟨l1, e1, b1⟩ := new_some h3
  obtain ⟨r, l2, e2, r0, r1, b2⟩ := next_some b1 (n := 20) (by decide)
  simp only [e1, Option.bind_some, e2]
  obtain ⟨n, rfl⟩ := Int.eq_ofNat_of_zero_le r0
  exact loop_ev a b p q d j l n [] l2 b2 (by simp; omega)
end Go.Proofs.Ytcnheiemajghiaa.Pure
