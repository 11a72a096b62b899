/-
  The plain law behind ClockMakes: clocks are made, changed and judged as the reference does it.
-/
import Derived.Test.YthnmmiofhjbkeaaPAx11
import Derived.Test.YthnmmiofhjbkeaaPAx14
import Derived.Test.YthnmmiofhjbkeaaPAx19
import Derived.Test.YthnmmiofhjbkeaaKSame
import Derived.Test.YthnmmiofhjbkeaaKSane
namespace Go.Proofs.Ythnmmiofhjbkeaa.Pure
open Go.RowKit Go.Proofs.Ythnmmiofhjbkeaa.PA Go.Proofs.YthnmmiofhjbkeaaX Go.Proofs.YthnmmiofhjbkeaaW.PrintWords Go.Proofs.YthnmmiofhjbkeaaW.PrintLast Go.Proofs.YthnmmiofhjbkeaaW.PrintMore
theorem change_len (l : List S61) (hl : (l.length : Int) ≤ 900) (t a b : Int) : ((changeS l t a b).1.length : Int) ≤ 1000 := by
  unfold changeS
  split
  · split
    · simp
    · split
      · split
        · simp
        · simp
          omega
      · simp
  · simp
theorem chg_ev (c : List S61) (hc : (c.length : Int) ≤ 900) (t n d : Int) : Ev (fun k => soundservicelaw13_ClockMakes.chg k c t n d) true := by
  unfold soundservicelaw13_ClockMakes.chg
  refine Ev.bind (change_ev c (by omega) t n d) (Ev.bind (change_ev' c (by omega) t n d) ?_)
  simp only [if_true]
  exact same_ev _ (change_len c hc t n d)
theorem rates_ev (c : List S61) (hc : (c.length : Int) ≤ 900) (t : Int) : ∀ qs : List (Int × Int), Ev (fun k => soundservicelaw13_ClockMakes.rates k c t qs) true
 | [] => Ev.now _
 | q :: qs => by
   simp only [soundservicelaw13_ClockMakes.rates]
   refine Ev.bind (chg_ev c hc t q.1 q.2) ?_
   simp only [if_true]
   exact rates_ev c hc t qs
theorem times_ev (c : List S61) (hc : (c.length : Int) ≤ 900) (rs : List (Int × Int)) : ∀ ts : List Int, Ev (fun k => soundservicelaw13_ClockMakes.times k c rs ts) true
 | [] => Ev.now _
 | t :: ts => by
   simp only [soundservicelaw13_ClockMakes.times]
   refine Ev.bind (rates_ev c hc t rs) ?_
   simp only [if_true]
   exact times_ev c hc rs ts
theorem clocks_ev (ts : List Int) (rs : List (Int × Int)) : ∀ cs : List (List S61), (∀ c ∈ cs, (c.length : Int) ≤ 900) → Ev (fun k => soundservicelaw13_ClockMakes.clocks k ts rs cs) true
 | [], _ => Ev.now _
 | c :: cs, h => by
   have hc := h c (List.mem_cons_self ..)
   simp only [soundservicelaw13_ClockMakes.clocks]
   refine Ev.bind (times_ev c hc rs ts) ?_
   simp only [if_true]
   refine Ev.bind (valid_clock c (by omega)) (Ev.bind (valid_clock' c (by omega)) ?_)
   simp only [if_true]
   exact clocks_ev ts rs cs fun x hx => h x (List.mem_cons_of_mem _ hx)
theorem ClockMakes (l : List S61) (l3 : List Int) (t n d : Int) (h3 : Bytes l3) : ∃ k, soundservicelaw13_ClockMakes.f k l l3 t n d = some true := by
  refine Ev.rounds (g := fun k => soundservicelaw13_ClockMakes.f k l l3 t n d) ?_
  unfold soundservicelaw13_ClockMakes.f
  refine Ev.bind sane13_ev ?_
  simp only [if_true, soundservicekeep_Clock.f, Option.bind_some, decide_eq_true_eq]
  by_cases hl : (l.length : Int) ≤ 66
  rotate_left
  · simp only [if_neg hl]
    exact Ev.now _
  simp only [if_pos hl]
  obtain ⟨m, hm, hv⟩ := made13 h3
  have hm2 := (vclockS_iff.1 hv).2
  refine Ev.bind (new_ev n d) (Ev.bind (new_ev' n d) (Ev.bind (same_ev _ (by split <;> simp)) ?_))
  simp only [if_true]
  refine Ev.bind hm (clocks_ev _ _ _ ?_)
  intro c hc
  simp only [List.mem_cons, List.not_mem_nil, or_false] at hc
  rcases hc with rfl | rfl <;> omega
end Go.Proofs.Ythnmmiofhjbkeaa.Pure
