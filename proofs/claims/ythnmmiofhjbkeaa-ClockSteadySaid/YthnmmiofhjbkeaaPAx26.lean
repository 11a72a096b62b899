/- Walks of functions of the program: each does what its Lean function says. Written by a program of this session (wip/xprint), which runs the printer of the kit with changes. -/
import Derived.Test.YthnmmiofhjbkeaaPAx0
import Derived.Test.YthnmmiofhjbkeaaPAx4
namespace Go.Proofs.Ythnmmiofhjbkeaa.PA
open Go.RowKit Go.Proofs.YthnmmiofhjbkeaaW.PrintWords Go.Proofs.YthnmmiofhjbkeaaW.PrintLast Go.Proofs.YthnmmiofhjbkeaaW.PrintMore
attribute [local go_sem] max2_int min2_int max_two min_two max_three min_three max_four min_four   -- for this text's walks alone
set_option linter.unusedVariables false
set_option linter.unusedSimpArgs false

/-! ### clock_product: function 41 -/
def clock_product.f (a0:Int) (a1:Int):Option (Int × Int):=(bits_Mul64.f (IntKind.u64.wrap (a0)) (IntKind.u64.wrap (a1))).bind fun bt398=>(some (bt398.1,bt398.2))
set_option maxHeartbeats 8000000 in
set_option maxRecDepth 100000 in
theorem clock_product.calls (a0:Int) (a1:Int) (r1:Int) (r2:Int) (w:World) (h:clock_product.f a0 a1=some (r1,r2)) :
  Calls Try.prog 41 #[.int .i64 a0, .int .i64 a1] w fun e w'=>e=.returned (.agg #[.int .u64 r1, .int .u64 r2])∧Below w.heap.size w w':=by
 have hu78:=Try.underlying78
 have HB:=Am (Below.refl w.heap.size w)
 have H:((bits_Mul64.f (IntKind.u64.wrap (a0)) (IntKind.u64.wrap (a1))).bind fun bt398=>(some (bt398.1,bt398.2)))=some (r1,r2):=h
 clear h
 replace H:=Option.bind_eq_some_iff.mp H
 obtain ⟨⟨t398,t399⟩,A30,H⟩:=H
 replace H:(some (t398,t399))=some (r1,r2):=H
 have A3:=Am A30
 clear A30
 simp only [Option.some.injEq,Prod.mk.injEq] at H
 obtain ⟨rfl,rfl⟩:=H
 go_enter Try.func41,Try.ntmps41
 go_wp2_with (first|((with_reducible refine gate_dst (N:=4) rfl ?_);refine box_event ?hg (N:=4) ?hd (cs:=#[.int .u64 0, .int .u64 0]) (t:=78) ?hr ?_;(case hd=>rfl);(case hg=>rfl);(case hr=>first|(go_simp;done)|(go_simp;rfl));intro gb397 hg w4 hbox hb;have n0_:=Am (below_step (by repeat (first|(with_reducible first|exact HB.out|apply bA|apply bN|apply bD)|exact HB.out)) hb);have n1_:=Am (hbox);have n2_:=Am ((by rw [hg];exact (below_size (by repeat (first|(with_reducible first|exact HB.out|apply bA|apply bN|apply bD)|exact HB.out))):w.heap.size≤gb397));have n3_:=Am ((by rw [hg];exact (below_size (by repeat (first|(with_reducible first|exact HB.out|apply bA|apply bN|apply bD)|exact HB.out))):w.heap.size≤gb397));clear HB;have HB:=n0_;have BK397:=n1_;have GW397:=n2_;have GE397:=n3_;clear n0_ n1_ n2_ n3_ hb hbox hg)|((with_reducible refine gate_callee (f:=52) rfl ?_);refine goesL_ (some 12) rfl rfl Try.func52 (by kernel_rfl) rfl #[.int .u64 (IntKind.u64.wrap (a0)), .int .u64 (IntKind.u64.wrap (a1))] rfl (by (try simp only [List.map_toArray,List.map_cons,List.map_nil]);first|done|rfl|(simp only [List.length_drop,List.length_take];rfl)) ?_;(with_reducible refine (bits_Mul64.calls (IntKind.u64.wrap (a0)) (IntKind.u64.wrap (a1)) t398 t399 _ A3.out).mono ?_);rintro e w' ⟨rfl,⟨nd,rfl⟩⟩;refine ⟨_,rfl,?_⟩;(try (rw [drewN_self w4];generalize hq_:World.drewN w4 _=w4;have n0_:Aside0 (w4.heap[gb397]?=some (.cells #[.int .u64 0, .int .u64 0] 78 (0,0))):=⟨by rw [← hq_];exact (by (with_reducible repeat first|apply kN|apply kD|apply kA);exact BK397.out)⟩;have n1_:Aside0 (Below w.heap.size w w4):=⟨by rw [← hq_];exact (by repeat (first|(with_reducible first|exact HB.out|apply bA|apply bN|apply bD|refine bS ?_ GE397.out)|exact HB.out))⟩;clear BK397 HB hq_;have BK397:=n0_;have HB:=n1_;clear n0_ n1_));have hcz5_0:w4.cell? ⟨gb397,0,none⟩=some (.int .u64 0):=(blk_cell BK397.out 0).trans rfl;have hcz5_1:w4.cell? ⟨gb397,1,none⟩=some (.int .u64 0):=(blk_cell BK397.out 1).trans rfl;have hfz5_0:=blk_frozen BK397.out 0;have hfz5_1:=blk_frozen BK397.out 1))
 refine bodyPost_ret (results_cell_row rfl _ _ gb397 78 #[.int .u64 t398, .int .u64 t399] (0,0) _ rfl (by (with_reducible repeat first|apply kN|apply kD|apply kA);refine blk_put (cs:=#[.int .u64 t398, .int .u64 0]) ?_ 1 _ rfl;(with_reducible repeat first|apply kN|apply kD|apply kA);refine blk_put (cs:=#[.int .u64 0, .int .u64 0]) ?_ 0 _ rfl;(with_reducible repeat first|apply kN|apply kD|apply kA);exact BK397.out) Try.underlying78 rfl (by kernel_rfl)) rfl ?_
 exact ⟨by first|rfl|(simp [errW_none,errW_some] <;> rfl)|(simp [*,errW_none,errW_some] <;> rfl),by repeat (first|(with_reducible first|exact HB.out|apply bA|apply bN|apply bD|refine bS ?_ GE397.out)|exact HB.out)⟩

-- function 53 (bits_Sub64): told where it is used


/-! ### clock_less: function 42 -/
/-- The borrow of the lower words. -/
def clock_less.carry (x y:Int):Int:=if x < y then 1 else 0
/-- A difference of two numbers of two words each. -/
def clock_less.f (a0_0:Int) (a0_1:Int) (a1_0:Int) (a1_1:Int):Option (Int × Int):=if (0≤a0_0∧a0_0 < 18446744073709551616)∧(0≤a0_1∧a0_1 < 18446744073709551616)∧(0≤a1_0∧a1_0 < 18446744073709551616)∧(0≤a1_1∧a1_1 < 18446744073709551616) then some ((a0_0 - a1_0 - clock_less.carry a0_1 a1_1) % 18446744073709551616,(a0_1 - a1_1) % 18446744073709551616) else none
theorem clock_less.ext (x y b:Int) (hx:0≤x) (hy:0≤y) (hy':y < 18446744073709551616) (hb0:0≤b) (hb:b≤1) (w:World):(callFunc 53 #[.int .u64 x, .int .u64 y, .int .u64 b]).run Try.prog w =
    .ok (.value (.tuple #[.int .u64 ((x - y - b) % 18446744073709551616), .int .u64 (if x < y+b then 1 else 0)])) w:=by
  obtain ⟨x,rfl⟩:=Int.eq_ofNat_of_zero_le hx
  obtain ⟨y,rfl⟩:=Int.eq_ofNat_of_zero_le hy
  obtain ⟨b,rfl⟩:=Int.eq_ofNat_of_zero_le hb0
  have e1:(((x+18446744073709551616 - y - b) % 18446744073709551616:Nat):Int)=((x:Int) - y - b) % 18446744073709551616:=by omega
  have e2:((if x < y+b then 1 else 0:Nat):Int)=if (x:Int) < y+b then 1 else 0:=by split <;> split <;> omega
  rw [← e1, ← e2]
  rw [run_callFunc_extern (P:=Try.prog) (f:=53) Try.func53 (by kernel_rfl) (by kernel_rfl) (by kernel_rfl) (e:=sub64Entry) (by kernel_rfl),run_sub64 x y b (by omega)]
  rfl
theorem clock_less.ext0 (x y:Int) (hx:0≤x) (hy:0≤y) (hy':y < 18446744073709551616) (w:World):(callFunc 53 #[.int .u64 x, .int .u64 y, .int .u64 0]).run Try.prog w =
    .ok (.value (.tuple #[.int .u64 ((x - y) % 18446744073709551616), .int .u64 (clock_less.carry x y)])) w:=by
  simpa [clock_less.carry] using clock_less.ext x y 0 hx hy hy' (Int.le_refl 0) (by decide) w
set_option maxHeartbeats 1600000 in
set_option maxRecDepth 100000 in
theorem clock_less.calls (a0_0:Int) (a0_1:Int) (a1_0:Int) (a1_1:Int) (r1:Int) (r2:Int) (w:World) (h:clock_less.f a0_0 a0_1 a1_0 a1_1=some (r1,r2)) :
    Calls Try.prog 42 #[.agg #[.int .u64 a0_0, .int .u64 a0_1], .agg #[.int .u64 a1_0, .int .u64 a1_1]] w fun e w'=>e=.returned (.agg #[.int .u64 r1, .int .u64 r2])∧Below w.heap.size w w':=by
  have hu:=Try.underlying78
  unfold clock_less.f at h
  split at h
  case isFalse=>cases h
  case isTrue hh =>
    obtain ⟨⟨a1,a2⟩,⟨b1,b2⟩,⟨c1,c2⟩,d1,d2⟩:=hh
    simp only [Option.some.injEq,Prod.mk.injEq] at h
    obtain ⟨h1,h2⟩:=h
    have k0:0≤clock_less.carry a0_1 a1_1:=by unfold clock_less.carry;split <;> decide
    have k1:clock_less.carry a0_1 a1_1≤1:=by unfold clock_less.carry;split <;> decide
    have E0:∀ w,(callFunc 53 #[.int .u64 a0_1, .int .u64 a1_1, .int .u64 0]).run Try.prog w=.ok (.value (.tuple #[.int .u64 r2, .int .u64 (clock_less.carry a0_1 a1_1)])) w:=fun w=>by rw [← h2];exact clock_less.ext0 a0_1 a1_1 b1 d1 d2 w
    obtain ⟨x,hx⟩:∃ x,x=clock_less.carry a0_1 a1_1:=⟨_,rfl⟩
    have h1':(a0_0 - a1_0 - x) % 18446744073709551616=r1:=by rw [hx];exact h1
    obtain ⟨y,hy⟩:∃ y:Int, ∀ w,(callFunc 53 #[.int .u64 a0_0, .int .u64 a1_0, .int .u64 x]).run Try.prog w=.ok (.value (.tuple #[.int .u64 r1, .int .u64 y])) w:=by
      refine ⟨if a0_0 < a1_0+x then 1 else 0,fun w=>?_⟩
      rw [← h1']
      exact clock_less.ext a0_0 a1_0 x a1 c1 c2 (by omega) (by omega) w
    rw [← hx] at E0
    clear hx h1 h1' h2 k0 k1 a1 a2 b1 b2 c1 c2 d1 d2
    go_enter Try.func42,Try.ntmps42
    go_wp2_with (first|simp only [E0]|simp only [hy])
    simp [bodyPost,results,Try.results42,go_sem]
    exact (((Below.refl _ _).alloc (Nat.le_refl _) _).alloc (by simp <;> omega) _).alloc (by simp <;> omega) _

/-! ### clock_below: function 54 -/
def clock_below.f (a0_0:Int) (a0_1:Int) (a1_0:Int) (a1_1:Int):Option (Bool):=if (wrap64 (a0_0)) < (wrap64 (a1_0)) then (some true) else (if a0_0=a1_0 then (some (decide (a0_1 < a1_1))) else (some false))
set_option maxHeartbeats 8000000 in
set_option maxRecDepth 100000 in
theorem clock_below.calls (a0_0:Int) (a0_1:Int) (a1_0:Int) (a1_1:Int) (r:Bool) (w:World) (h:clock_below.f a0_0 a0_1 a1_0 a1_1=some r) :
  Calls Try.prog 54 #[.agg #[.int .u64 a0_0, .int .u64 a0_1], .agg #[.int .u64 a1_0, .int .u64 a1_1]] w fun e w'=>e=.returned (.bool r)∧Below w.heap.size w w':=by
 have hu78:=Try.underlying78
 have HB:=Am (Below.refl w.heap.size w)
 have H:(if (wrap64 (a0_0)) < (wrap64 (a1_0)) then (some true) else (if a0_0=a1_0 then (some (decide (a0_1 < a1_1))) else (some false)))=some r:=h
 clear h
 by_cases c3:(wrap64 (a0_0)) < (wrap64 (a1_0))
 ·rw [if_pos c3] at H
  have c3b0:decide ((wrap64 (a0_0)) < (wrap64 (a1_0)))=true:=decide_eq_true c3
  clear c3
  obtain rfl:=Option.some.inj H
  go_enter Try.func54,Try.ntmps54
  go_wp2_with (first|((with_reducible refine gate_dst (N:=2) rfl ?_);refine box_event ?hg (N:=2) ?hd (cs:=#[.int .u64 a0_0, .int .u64 a0_1]) (t:=78) ?hr ?_;(case hd=>rfl);(case hg=>rfl);(case hr=>first|(go_simp;done)|(go_simp;rfl));intro gb400 hg w4 hbox hb;have n0_:=Am (below_step (by repeat (first|(with_reducible first|exact HB.out|apply bA|apply bN|apply bD)|exact HB.out)) hb);have n1_:=Am (hbox);have n2_:=Am ((by rw [hg];exact (below_size (by repeat (first|(with_reducible first|exact HB.out|apply bA|apply bN|apply bD)|exact HB.out))):w.heap.size≤gb400));have n3_:=Am ((by rw [hg];exact (below_size (by repeat (first|(with_reducible first|exact HB.out|apply bA|apply bN|apply bD)|exact HB.out))):w.heap.size≤gb400));clear HB;have HB:=n0_;have BK400:=n1_;have GW400:=n2_;have GE400:=n3_;clear n0_ n1_ n2_ n3_ hb hbox hg)|((with_reducible refine gate_dst (N:=3) rfl ?_);refine box_event ?hg (N:=3) ?hd (cs:=#[.int .u64 a1_0, .int .u64 a1_1]) (t:=78) ?hr ?_;(case hd=>rfl);(case hg=>rfl);(case hr=>first|(go_simp;done)|(go_simp;rfl));intro gb401 hg w5 hbox hb;have n0_:=Am (blk_below (g:=gb400) (o:=.cells #[.int .u64 a0_0, .int .u64 a0_1] 78 (0,0)) (by (with_reducible repeat first|apply kN|apply kD|apply kA);exact BK400.out) hb);have n1_:=Am (below_step (by repeat (first|(with_reducible first|exact HB.out|apply bA|apply bN|apply bD|refine bS ?_ GE400.out)|exact HB.out)) hb);have n2_:=Am (hbox);have n3_:=Am ((by rw [hg];exact (below_size (by repeat (first|(with_reducible first|exact HB.out|apply bA|apply bN|apply bD|refine bS ?_ GE400.out)|exact HB.out))):w.heap.size≤gb401));have n4_:=Am ((by rw [hg];exact (below_size (by repeat (first|(with_reducible first|exact HB.out|apply bA|apply bN|apply bD|refine bS ?_ GE400.out)|exact HB.out))):w.heap.size≤gb401));have n5_:=Am ((by rw [hg];exact Nat.ne_of_lt (blk_lt (g:=gb400) (o:=.cells #[.int .u64 a0_0, .int .u64 a0_1] 78 (0,0)) (by (with_reducible repeat first|apply kN|apply kD|apply kA);exact BK400.out)):gb400≠gb401));have n6_:=Am (n5_.out.symm);clear BK400 HB;have BK400:=n0_;have HB:=n1_;have BK401:=n2_;have GW401:=n3_;have GE401:=n4_;have NB400_401:=n5_;have NB401_400:=n6_;clear n0_ n1_ n2_ n3_ n4_ n5_ n6_ hb hbox hg;have hnb6:=NB400_401.out;have hnc6:=NB401_400.out;have hcz7_0:w5.cell? ⟨gb400,0,none⟩=some (.int .u64 a0_0):=(blk_cell BK400.out 0).trans rfl;have hcz7_1:w5.cell? ⟨gb400,1,none⟩=some (.int .u64 a0_1):=(blk_cell BK400.out 1).trans rfl;have hfz7_0:=blk_frozen BK400.out 0;have hfz7_1:=blk_frozen BK400.out 1;have hcz8_0:w5.cell? ⟨gb401,0,none⟩=some (.int .u64 a1_0):=(blk_cell BK401.out 0).trans rfl;have hcz8_1:w5.cell? ⟨gb401,1,none⟩=some (.int .u64 a1_1):=(blk_cell BK401.out 1).trans rfl;have hfz8_0:=blk_frozen BK401.out 0;have hfz8_1:=blk_frozen BK401.out 1))
  go_ret
  exact ⟨by first|rfl|(simp [errW_none,errW_some] <;> rfl)|(simp [*,errW_none,errW_some] <;> rfl),by repeat (first|(with_reducible first|exact HB.out|apply bA|apply bN|apply bD|refine bS ?_ GE400.out|refine bS ?_ GE401.out)|exact HB.out)⟩
 ·rw [if_neg c3] at H
  have c3b0:decide ((wrap64 (a0_0)) < (wrap64 (a1_0)))=false:=decide_eq_false c3
  clear c3
  by_cases c9:a0_0=a1_0
  ·rw [if_pos c9] at H
   have c9b0:(a0_0 == a1_0)=true:=beq_iff_eq.mpr c9
   have c9b1:(a0_0 != a1_0)=false:=bne_eq_false_iff_eq.mpr c9
   clear c9
   obtain rfl:=Option.some.inj H
   go_enter Try.func54,Try.ntmps54
   go_wp2_with (first|((with_reducible refine gate_dst (N:=2) rfl ?_);refine box_event ?hg (N:=2) ?hd (cs:=#[.int .u64 a0_0, .int .u64 a0_1]) (t:=78) ?hr ?_;(case hd=>rfl);(case hg=>rfl);(case hr=>first|(go_simp;done)|(go_simp;rfl));intro gb400 hg w10 hbox hb;have n0_:=Am (below_step (by repeat (first|(with_reducible first|exact HB.out|apply bA|apply bN|apply bD)|exact HB.out)) hb);have n1_:=Am (hbox);have n2_:=Am ((by rw [hg];exact (below_size (by repeat (first|(with_reducible first|exact HB.out|apply bA|apply bN|apply bD)|exact HB.out))):w.heap.size≤gb400));have n3_:=Am ((by rw [hg];exact (below_size (by repeat (first|(with_reducible first|exact HB.out|apply bA|apply bN|apply bD)|exact HB.out))):w.heap.size≤gb400));clear HB;have HB:=n0_;have BK400:=n1_;have GW400:=n2_;have GE400:=n3_;clear n0_ n1_ n2_ n3_ hb hbox hg)|((with_reducible refine gate_dst (N:=3) rfl ?_);refine box_event ?hg (N:=3) ?hd (cs:=#[.int .u64 a1_0, .int .u64 a1_1]) (t:=78) ?hr ?_;(case hd=>rfl);(case hg=>rfl);(case hr=>first|(go_simp;done)|(go_simp;rfl));intro gb401 hg w11 hbox hb;have n0_:=Am (blk_below (g:=gb400) (o:=.cells #[.int .u64 a0_0, .int .u64 a0_1] 78 (0,0)) (by (with_reducible repeat first|apply kN|apply kD|apply kA);exact BK400.out) hb);have n1_:=Am (below_step (by repeat (first|(with_reducible first|exact HB.out|apply bA|apply bN|apply bD|refine bS ?_ GE400.out)|exact HB.out)) hb);have n2_:=Am (hbox);have n3_:=Am ((by rw [hg];exact (below_size (by repeat (first|(with_reducible first|exact HB.out|apply bA|apply bN|apply bD|refine bS ?_ GE400.out)|exact HB.out))):w.heap.size≤gb401));have n4_:=Am ((by rw [hg];exact (below_size (by repeat (first|(with_reducible first|exact HB.out|apply bA|apply bN|apply bD|refine bS ?_ GE400.out)|exact HB.out))):w.heap.size≤gb401));have n5_:=Am ((by rw [hg];exact Nat.ne_of_lt (blk_lt (g:=gb400) (o:=.cells #[.int .u64 a0_0, .int .u64 a0_1] 78 (0,0)) (by (with_reducible repeat first|apply kN|apply kD|apply kA);exact BK400.out)):gb400≠gb401));have n6_:=Am (n5_.out.symm);clear BK400 HB;have BK400:=n0_;have HB:=n1_;have BK401:=n2_;have GW401:=n3_;have GE401:=n4_;have NB400_401:=n5_;have NB401_400:=n6_;clear n0_ n1_ n2_ n3_ n4_ n5_ n6_ hb hbox hg;have hnb12:=NB400_401.out;have hnc12:=NB401_400.out;have hcz13_0:w11.cell? ⟨gb400,0,none⟩=some (.int .u64 a0_0):=(blk_cell BK400.out 0).trans rfl;have hcz13_1:w11.cell? ⟨gb400,1,none⟩=some (.int .u64 a0_1):=(blk_cell BK400.out 1).trans rfl;have hfz13_0:=blk_frozen BK400.out 0;have hfz13_1:=blk_frozen BK400.out 1;have hcz14_0:w11.cell? ⟨gb401,0,none⟩=some (.int .u64 a1_0):=(blk_cell BK401.out 0).trans rfl;have hcz14_1:w11.cell? ⟨gb401,1,none⟩=some (.int .u64 a1_1):=(blk_cell BK401.out 1).trans rfl;have hfz14_0:=blk_frozen BK401.out 0;have hfz14_1:=blk_frozen BK401.out 1))
   go_ret
   exact ⟨by first|rfl|(simp [errW_none,errW_some] <;> rfl)|(simp [*,errW_none,errW_some] <;> rfl),by repeat (first|(with_reducible first|exact HB.out|apply bA|apply bN|apply bD|refine bS ?_ GE400.out|refine bS ?_ GE401.out)|exact HB.out)⟩
  ·rw [if_neg c9] at H
   have c9b0:(a0_0 == a1_0)=false:=beq_eq_false_iff_ne.mpr c9
   have c9b1:(a0_0 != a1_0)=true:=bne_iff_ne.mpr c9
   obtain rfl:=Option.some.inj H
   go_enter Try.func54,Try.ntmps54
   go_wp2_with (first|((with_reducible refine gate_dst (N:=2) rfl ?_);refine box_event ?hg (N:=2) ?hd (cs:=#[.int .u64 a0_0, .int .u64 a0_1]) (t:=78) ?hr ?_;(case hd=>rfl);(case hg=>rfl);(case hr=>first|(go_simp;done)|(go_simp;rfl));intro gb400 hg w15 hbox hb;have n0_:=Am (below_step (by repeat (first|(with_reducible first|exact HB.out|apply bA|apply bN|apply bD)|exact HB.out)) hb);have n1_:=Am (hbox);have n2_:=Am ((by rw [hg];exact (below_size (by repeat (first|(with_reducible first|exact HB.out|apply bA|apply bN|apply bD)|exact HB.out))):w.heap.size≤gb400));have n3_:=Am ((by rw [hg];exact (below_size (by repeat (first|(with_reducible first|exact HB.out|apply bA|apply bN|apply bD)|exact HB.out))):w.heap.size≤gb400));clear HB;have HB:=n0_;have BK400:=n1_;have GW400:=n2_;have GE400:=n3_;clear n0_ n1_ n2_ n3_ hb hbox hg)|((with_reducible refine gate_dst (N:=3) rfl ?_);refine box_event ?hg (N:=3) ?hd (cs:=#[.int .u64 a1_0, .int .u64 a1_1]) (t:=78) ?hr ?_;(case hd=>rfl);(case hg=>rfl);(case hr=>first|(go_simp;done)|(go_simp;rfl));intro gb401 hg w16 hbox hb;have n0_:=Am (blk_below (g:=gb400) (o:=.cells #[.int .u64 a0_0, .int .u64 a0_1] 78 (0,0)) (by (with_reducible repeat first|apply kN|apply kD|apply kA);exact BK400.out) hb);have n1_:=Am (below_step (by repeat (first|(with_reducible first|exact HB.out|apply bA|apply bN|apply bD|refine bS ?_ GE400.out)|exact HB.out)) hb);have n2_:=Am (hbox);have n3_:=Am ((by rw [hg];exact (below_size (by repeat (first|(with_reducible first|exact HB.out|apply bA|apply bN|apply bD|refine bS ?_ GE400.out)|exact HB.out))):w.heap.size≤gb401));have n4_:=Am ((by rw [hg];exact (below_size (by repeat (first|(with_reducible first|exact HB.out|apply bA|apply bN|apply bD|refine bS ?_ GE400.out)|exact HB.out))):w.heap.size≤gb401));have n5_:=Am ((by rw [hg];exact Nat.ne_of_lt (blk_lt (g:=gb400) (o:=.cells #[.int .u64 a0_0, .int .u64 a0_1] 78 (0,0)) (by (with_reducible repeat first|apply kN|apply kD|apply kA);exact BK400.out)):gb400≠gb401));have n6_:=Am (n5_.out.symm);clear BK400 HB;have BK400:=n0_;have HB:=n1_;have BK401:=n2_;have GW401:=n3_;have GE401:=n4_;have NB400_401:=n5_;have NB401_400:=n6_;clear n0_ n1_ n2_ n3_ n4_ n5_ n6_ hb hbox hg;have hnb17:=NB400_401.out;have hnc17:=NB401_400.out;have hcz18_0:w16.cell? ⟨gb400,0,none⟩=some (.int .u64 a0_0):=(blk_cell BK400.out 0).trans rfl;have hcz18_1:w16.cell? ⟨gb400,1,none⟩=some (.int .u64 a0_1):=(blk_cell BK400.out 1).trans rfl;have hfz18_0:=blk_frozen BK400.out 0;have hfz18_1:=blk_frozen BK400.out 1;have hcz19_0:w16.cell? ⟨gb401,0,none⟩=some (.int .u64 a1_0):=(blk_cell BK401.out 0).trans rfl;have hcz19_1:w16.cell? ⟨gb401,1,none⟩=some (.int .u64 a1_1):=(blk_cell BK401.out 1).trans rfl;have hfz19_0:=blk_frozen BK401.out 0;have hfz19_1:=blk_frozen BK401.out 1))
   go_ret
   exact ⟨by first|rfl|(simp [errW_none,errW_some] <;> rfl)|(simp [*,errW_none,errW_some] <;> rfl),by repeat (first|(with_reducible first|exact HB.out|apply bA|apply bN|apply bD|refine bS ?_ GE400.out|refine bS ?_ GE401.out)|exact HB.out)⟩

/-! ### clock_rises: function 43 -/
def clock_rises.l0:Nat→List (S78)→Int→Int→Int→Int→Int→Int→Option (Bool)
 | 0,_,_,_,_,_,_,_=>none
 | k+1,x11,x12,x13,x403000,x403001,x405000,x405001=>if x13 < x12 then (if 0≤x13 then (if x13 < (x11.length:Int) then ((clock_less.f ((rd_T78 x11 x13).f0) ((rd_T78 x11 x13).f1) x405000 x405001).bind fun bt407=>((clock_below.f x403000 x403001 bt407.1 bt407.2).bind fun t409=>(if t409=true then (some true) else ((clock_below.f ((rd_T78 x11 x13).f0) ((rd_T78 x11 x13).f1) x405000 x405001).bind fun t410=>(if t410=true then (clock_rises.l0 k x11 x12 (wrap64 (x13+1)) x403000 x403001 ((rd_T78 x11 x13).f0) ((rd_T78 x11 x13).f1)) else (clock_rises.l0 k x11 x12 (wrap64 (x13+1)) x403000 x403001 x405000 x405001)))))) else (none)) else (none)) else (some false)
def clock_rises.f (k:Nat) (l0:List (S78)) (a1_0:Int) (a1_1:Int):Option (Bool):=if 0 < (l0.length:Int) then (clock_rises.l0 k l0 (l0.length:Int) 0 a1_0 a1_1 ((rd_T78 l0 0).f0) ((rd_T78 l0 0).f1)) else (none)
theorem clock_rises.mono_l:∀ k,(∀ y0 y1 y2 y3 y4 y5 y6,LeO (clock_rises.l0 k y0 y1 y2 y3 y4 y5 y6) (clock_rises.l0 (k+1) y0 y1 y2 y3 y4 y5 y6))
 | 0=>fun _ _ _ _ _ _ _ r h=>by simp [clock_rises.l0] at h
 | k+1=>by
  have ih0:=clock_rises.mono_l k
  ·intro y0 y1 y2 y3 y4 y5 y6
   unfold clock_rises.l0
   repeat' first
   | (with_reducible exact ih0 _ _ _ _ _ _ _)
   | (with_reducible exact LeO.refl _)
   | (with_reducible exact LeO.none _)
   | (with_reducible refine LeO.ite ?_ ?_)
   | (with_reducible refine LeO.bind ?_ (fun _=>?_))
   | exact ih0 _ _ _ _ _ _ _
   | exact LeO.none _
   | refine LeO.ite ?_ ?_
   | refine LeO.bind ?_ (fun _=>?_)
theorem clock_rises.mono:∀ a0 a1 a2 k,LeO (clock_rises.f k a0 a1 a2) (clock_rises.f (k+1) a0 a1 a2):=by
 intro a0 a1 a2 k
 have ih0:=clock_rises.mono_l k
 unfold clock_rises.f
 repeat' first
   | (with_reducible exact ih0 _ _ _ _ _ _ _)
   | (with_reducible exact LeO.refl _)
   | (with_reducible exact LeO.none _)
   | (with_reducible refine LeO.ite ?_ ?_)
   | (with_reducible refine LeO.bind ?_ (fun _=>?_))
   | exact ih0 _ _ _ _ _ _ _
   | exact LeO.none _
   | refine LeO.ite ?_ ?_
   | refine LeO.bind ?_ (fun _=>?_)
set_option maxHeartbeats 8000000 in
set_option maxRecDepth 100000 in
theorem clock_rises.calls (k:Nat) (A0:Option Addr) (c0:Nat) (l0:List (S78)) (a1_0:Int) (a1_1:Int) (r:Bool) (w:World) (hr0:Kd.C k78 w A0 l0.length l0) (hc0:l0.length≤c0) (h:clock_rises.f k l0 a1_0 a1_1=some r) :
  Calls Try.prog 43 #[.slice A0 l0.length c0, .agg #[.int .u64 a1_0, .int .u64 a1_1]] w fun e w'=>e=.returned (.bool r)∧Below w.heap.size w w':=by
 have hu78:=Try.underlying78
 have HR0:=Am hr0
 have HC0:=Am hc0
 clear hr0 hc0
 have HB:=Am (Below.refl w.heap.size w)
 have H:(if 0 < (l0.length:Int) then (clock_rises.l0 k l0 (l0.length:Int) 0 a1_0 a1_1 ((rd_T78 l0 0).f0) ((rd_T78 l0 0).f1)) else (none))=some r:=h
 clear h
 by_cases c3:0 < (l0.length:Int)
 ·rw [if_pos c3] at H
  have c3b0:decide (0 < (l0.length:Int))=true:=decide_eq_true c3
  have c3b1:decide (0 < l0.length)=true:=decide_eq_true (by omega)
  clear c3
  have H':=Am H
  clear H
  go_enter Try.func43,Try.ntmps43
  go_wp2_with (first|((with_reducible refine gate_dst (N:=3) rfl ?_);refine box_event ?hg (N:=3) ?hd (cs:=#[.int .u64 a1_0, .int .u64 a1_1]) (t:=78) ?hr ?_;(case hd=>rfl);(case hg=>rfl);(case hr=>first|(go_simp;done)|(go_simp;rfl));intro gb402 hg w4 hbox hb;have n0_:=Am (below_step (by repeat (first|(with_reducible first|exact HB.out|apply bA|apply bN|apply bD)|exact HB.out)) hb);have n1_:=Am (hbox);have n2_:=Am ((by rw [hg];exact (below_size (by repeat (first|(with_reducible first|exact HB.out|apply bA|apply bN|apply bD)|exact HB.out))):w.heap.size≤gb402));have n3_:=Am ((by rw [hg];exact (below_size (by repeat (first|(with_reducible first|exact HB.out|apply bA|apply bN|apply bD)|exact HB.out))):w.heap.size≤gb402));clear HB;have HB:=n0_;have BK402:=n1_;have GW402:=n2_;have GE402:=n3_;clear n0_ n1_ n2_ n3_ hb hbox hg;have p403:0≤(0:Int):=(by omega);have q403:0 < (l0.length:Int):=of_decide_eq_true (by first|(with_reducible assumption)|assumption);obtain ⟨ad403,e403,hx403_0,hx403_1⟩:=at_T78 HR0.out 0 p403 q403;cases e403;have qi403:(0 < l0.length)=True:=eq_true (by omega);(try rw [show ((0:Int)).toNat=0 from rfl] at hx403_0);(try rw [show 0 * 2=0 from rfl] at hx403_0);(try rw [Addr.add_zero'] at hx403_0);(try rw [show ((0:Int)).toNat=0 from rfl] at hx403_1);(try rw [show 0 * 2=0 from rfl] at hx403_1);(try rw [Addr.add_zero'] at hx403_1);replace hx403_0:=(HB.out.cell (World.block_lt_of_cell? w _ hx403_0)).trans hx403_0;replace hx403_1:=(HB.out.cell (World.block_lt_of_cell? w _ hx403_1)).trans hx403_1;replace p403:=eq_true p403;replace q403:=eq_true q403)|((with_reducible refine gate_dst (N:=5) rfl ?_);refine box_event ?hg (N:=5) ?hd (cs:=#[.int .u64 0, .int .u64 0]) (t:=78) ?hr ?_;(case hd=>rfl);(case hg=>rfl);(case hr=>first|(go_simp;done)|(go_simp;rfl));intro gb404 hg w5 hbox hb;have n0_:=Am (blk_below (g:=gb402) (o:=.cells #[.int .u64 a1_0, .int .u64 a1_1] 78 (0,0)) (by (with_reducible repeat first|apply kN|apply kD|apply kA);exact BK402.out) hb);have n1_:=Am (below_step (by repeat (first|(with_reducible first|exact HB.out|apply bA|apply bN|apply bD|refine bS ?_ GE402.out)|exact HB.out)) hb);have n2_:=Am (hbox);have n3_:=Am ((by rw [hg];exact (below_size (by repeat (first|(with_reducible first|exact HB.out|apply bA|apply bN|apply bD|refine bS ?_ GE402.out)|exact HB.out))):w.heap.size≤gb404));have n4_:=Am ((by rw [hg];exact (below_size (by repeat (first|(with_reducible first|exact HB.out|apply bA|apply bN|apply bD|refine bS ?_ GE402.out)|exact HB.out))):w.heap.size≤gb404));have n5_:=Am ((by rw [hg];exact Nat.ne_of_lt (blk_lt (g:=gb402) (o:=.cells #[.int .u64 a1_0, .int .u64 a1_1] 78 (0,0)) (by (with_reducible repeat first|apply kN|apply kD|apply kA);exact BK402.out)):gb402≠gb404));have n6_:=Am (n5_.out.symm);clear BK402 HB;have BK402:=n0_;have HB:=n1_;have BK404:=n2_;have GW404:=n3_;have GE404:=n4_;have NB402_404:=n5_;have NB404_402:=n6_;clear n0_ n1_ n2_ n3_ n4_ n5_ n6_ hb hbox hg;have hnb6:=NB404_402.out;have hnc6:=NB402_404.out;have hcz7_0:w5.cell? ⟨gb404,0,none⟩=some (.int .u64 0):=(blk_cell BK404.out 0).trans rfl;have hcz7_1:w5.cell? ⟨gb404,1,none⟩=some (.int .u64 0):=(blk_cell BK404.out 1).trans rfl;have hfz7_0:=blk_frozen BK404.out 0;have hfz7_1:=blk_frozen BK404.out 1))
  go_loopg [13] k (fun kq v13 w'=>∃ (x13_1:Int) (x405000_1:Int) (x405001_1:Int),v13=.int .i64 x13_1∧Aside0 (clock_rises.l0 kq l0 (l0.length:Int) x13_1 a1_0 a1_1 x405000_1 x405001_1=some r)∧Aside0 (kq≤k)∧Aside0 (w'.heap[gb402]?=some (.cells #[.int .u64 a1_0, .int .u64 a1_1] 78 (0,0)))∧Aside0 (w'.heap[gb404]?=some (.cells #[.int .u64 x405000_1, .int .u64 x405001_1] 78 (0,0)))∧Aside0 (Below w.heap.size w w'))
  case atStart=>exact ⟨(0),((rd_T78 l0 0).f0),((rd_T78 l0 0).f1),(by first|rfl|(simp;done)|(simp [*];done)),H',⟨Nat.le_refl _⟩,⟨by (with_reducible repeat first|apply kN|apply kD|apply kA);refine blk_far ?_ NB402_404.out _;(with_reducible repeat first|apply kN|apply kD|apply kA);refine blk_far ?_ NB402_404.out _;(with_reducible repeat first|apply kN|apply kD|apply kA);exact BK402.out⟩,⟨by (with_reducible repeat first|apply kN|apply kD|apply kA);refine blk_put (cs:=#[.int .u64 ((rd_T78 l0 0).f0), .int .u64 0]) ?_ 1 _ rfl;(with_reducible repeat first|apply kN|apply kD|apply kA);refine blk_put (cs:=#[.int .u64 0, .int .u64 0]) ?_ 0 _ rfl;(with_reducible repeat first|apply kN|apply kD|apply kA);exact BK404.out⟩,⟨by repeat (first|(with_reducible first|exact HB.out|apply bA|apply bN|apply bD|refine bS ?_ GE402.out|refine bS ?_ GE404.out)|exact HB.out)⟩⟩
  case round =>
   clear H'
   (try clear p2);(try clear c3);(try clear c3b0);(try clear c3b1);(try clear c4);(try clear p4);(try clear q4);(try clear hx4);(try clear qi4);(try clear c6);(try clear hcz7_0);(try clear hcz7_1);(try clear hfz7_0);(try clear hfz7_1);(try clear hx403_0);(try clear hx403_1);(try clear p403);(try clear q403)
   obtain ⟨x13_1,x405000_1,x405001_1,rfl,HA,HK1,BK402,BK404,HB⟩:=hrel
   cases gk with
   | zero=>exact absurd HA.out (by simp [clock_rises.l0])
   | succ k1 =>
    have H:=HA.out
    clear HA
    simp only [clock_rises.l0] at H
    by_cases c8:x13_1 < (l0.length:Int)
    ·rw [if_pos c8] at H
     have c8b0:decide (x13_1 < (l0.length:Int))=true:=decide_eq_true c8
     clear c8
     by_cases c9:0≤x13_1
     ·rw [if_pos c9] at H
      have c9b0:decide (0≤x13_1)=true:=decide_eq_true c9
      clear c9
      by_cases c10:x13_1 < (l0.length:Int)
      ·rw [if_pos c10] at H
       have c10b0:decide (x13_1 < (l0.length:Int))=true:=decide_eq_true c10
       clear c10
       replace H:=Option.bind_eq_some_iff.mp H
       obtain ⟨⟨t407,t408⟩,A110,H⟩:=H
       replace H:((clock_below.f a1_0 a1_1 t407 t408).bind fun t409=>(if t409=true then (some true) else ((clock_below.f ((rd_T78 l0 x13_1).f0) ((rd_T78 l0 x13_1).f1) x405000_1 x405001_1).bind fun t410=>(if t410=true then (clock_rises.l0 k1 l0 (l0.length:Int) (wrap64 (x13_1+1)) a1_0 a1_1 ((rd_T78 l0 x13_1).f0) ((rd_T78 l0 x13_1).f1)) else (clock_rises.l0 k1 l0 (l0.length:Int) (wrap64 (x13_1+1)) a1_0 a1_1 x405000_1 x405001_1)))))=some r:=H
       have A11:=Am A110
       clear A110
       replace H:=Option.bind_eq_some_iff.mp H
       obtain ⟨t409,A120,H⟩:=H
       replace H:(if t409=true then (some true) else ((clock_below.f ((rd_T78 l0 x13_1).f0) ((rd_T78 l0 x13_1).f1) x405000_1 x405001_1).bind fun t410=>(if t410=true then (clock_rises.l0 k1 l0 (l0.length:Int) (wrap64 (x13_1+1)) a1_0 a1_1 ((rd_T78 l0 x13_1).f0) ((rd_T78 l0 x13_1).f1)) else (clock_rises.l0 k1 l0 (l0.length:Int) (wrap64 (x13_1+1)) a1_0 a1_1 x405000_1 x405001_1))))=some r:=H
       have A12:=Am A120
       clear A120
       by_cases c13:t409=true
       ·subst c13
        have H1:(some true)=some r:=by rw [if_pos rfl] at H;exact H
        clear H;have H:=H1;clear H1
        obtain rfl:=Option.some.inj H
        have p405:0≤(x13_1:Int):=of_decide_eq_true (by first|(with_reducible assumption)|assumption)
        have q405:x13_1 < (l0.length:Int):=of_decide_eq_true (by first|(with_reducible assumption)|assumption)
        obtain ⟨ad405,e405,hx405_0,hx405_1⟩:=at_T78 HR0.out x13_1 p405 q405
        obtain rfl:ad403=ad405:=(by injection e405)
        replace hx405_0:=(HB.out.cell (World.block_lt_of_cell? w _ hx405_0)).trans hx405_0
        replace hx405_1:=(HB.out.cell (World.block_lt_of_cell? w _ hx405_1)).trans hx405_1
        replace p405:=eq_true p405
        replace q405:=eq_true q405
        try go_wp2_with (first|((with_reducible refine gate_dst (N:=7) rfl ?_);refine box_event ?hg (N:=7) ?hd (cs:=#[.int .u64 0, .int .u64 0]) (t:=78) ?hr ?_;(case hd=>rfl);(case hg=>rfl);(case hr=>first|(go_simp;done)|(go_simp;rfl));intro gb406 hg w14 hbox hb;have n0_:=Am (blk_below (g:=gb402) (o:=.cells #[.int .u64 a1_0, .int .u64 a1_1] 78 (0,0)) (by (with_reducible repeat first|apply kN|apply kD|apply kA);exact BK402.out) hb);have n1_:=Am (blk_below (g:=gb404) (o:=.cells #[.int .u64 x405000_1, .int .u64 x405001_1] 78 (0,0)) (by (with_reducible repeat first|apply kN|apply kD|apply kA);exact BK404.out) hb);have n2_:=Am (below_step (by repeat (first|(with_reducible first|exact HB.out|apply bA|apply bN|apply bD|refine bS ?_ GE402.out|refine bS ?_ GE404.out)|exact HB.out)) hb);have n3_:=Am (hbox);have n4_:=Am ((by rw [hg];exact (below_size (by repeat (first|(with_reducible first|exact HB.out|apply bA|apply bN|apply bD|refine bS ?_ GE402.out|refine bS ?_ GE404.out)|exact HB.out))):w.heap.size≤gb406));have n5_:=Am ((by rw [hg];exact (below_size (by repeat (first|(with_reducible first|exact HB.out|apply bA|apply bN|apply bD|refine bS ?_ GE402.out|refine bS ?_ GE404.out)|exact HB.out))):w.heap.size≤gb406));have n6_:=Am ((by rw [hg];exact Nat.ne_of_lt (blk_lt (g:=gb402) (o:=.cells #[.int .u64 a1_0, .int .u64 a1_1] 78 (0,0)) (by (with_reducible repeat first|apply kN|apply kD|apply kA);exact BK402.out)):gb402≠gb406));have n7_:=Am (n6_.out.symm);have n8_:=Am ((by rw [hg];exact Nat.ne_of_lt (blk_lt (g:=gb404) (o:=.cells #[.int .u64 x405000_1, .int .u64 x405001_1] 78 (0,0)) (by (with_reducible repeat first|apply kN|apply kD|apply kA);exact BK404.out)):gb404≠gb406));have n9_:=Am (n8_.out.symm);clear BK402 BK404 HB;have BK402:=n0_;have BK404:=n1_;have HB:=n2_;have BK406:=n3_;have GW406:=n4_;have GE406:=n5_;have NB402_406:=n6_;have NB406_402:=n7_;have NB404_406:=n8_;have NB406_404:=n9_;clear n0_ n1_ n2_ n3_ n4_ n5_ n6_ n7_ n8_ n9_ hb hbox hg;have hnb15:=NB406_402.out;have hnc15:=NB402_406.out;have hnb16:=NB406_404.out;have hnc16:=NB404_406.out;have hcz17_0:w14.cell? ⟨gb406,0,none⟩=some (.int .u64 0):=(blk_cell BK406.out 0).trans rfl;have hcz17_1:w14.cell? ⟨gb406,1,none⟩=some (.int .u64 0):=(blk_cell BK406.out 1).trans rfl;have hfz17_0:=blk_frozen BK406.out 0;have hfz17_1:=blk_frozen BK406.out 1))
        have n0_:Aside0 (((w14.setCell ⟨gb406,0,none⟩ (.int .u64 ((rd_T78 l0 x13_1).f0))).setCell ⟨gb406,1,none⟩ (.int .u64 ((rd_T78 l0 x13_1).f1))).heap[gb402]?=some (.cells #[.int .u64 a1_0, .int .u64 a1_1] 78 (0,0))):=⟨by (with_reducible repeat first|apply kN|apply kD|apply kA);refine blk_far ?_ NB402_406.out _;(with_reducible repeat first|apply kN|apply kD|apply kA);refine blk_far ?_ NB402_406.out _;(with_reducible repeat first|apply kN|apply kD|apply kA);exact BK402.out⟩
        have n1_:Aside0 (((w14.setCell ⟨gb406,0,none⟩ (.int .u64 ((rd_T78 l0 x13_1).f0))).setCell ⟨gb406,1,none⟩ (.int .u64 ((rd_T78 l0 x13_1).f1))).heap[gb404]?=some (.cells #[.int .u64 x405000_1, .int .u64 x405001_1] 78 (0,0))):=⟨by (with_reducible repeat first|apply kN|apply kD|apply kA);refine blk_far ?_ NB404_406.out _;(with_reducible repeat first|apply kN|apply kD|apply kA);refine blk_far ?_ NB404_406.out _;(with_reducible repeat first|apply kN|apply kD|apply kA);exact BK404.out⟩
        have n2_:Aside0 (((w14.setCell ⟨gb406,0,none⟩ (.int .u64 ((rd_T78 l0 x13_1).f0))).setCell ⟨gb406,1,none⟩ (.int .u64 ((rd_T78 l0 x13_1).f1))).heap[gb406]?=some (.cells #[.int .u64 ((rd_T78 l0 x13_1).f0), .int .u64 ((rd_T78 l0 x13_1).f1)] 78 (0,0))):=⟨by (with_reducible repeat first|apply kN|apply kD|apply kA);refine blk_put (cs:=#[.int .u64 ((rd_T78 l0 x13_1).f0), .int .u64 0]) ?_ 1 _ rfl;(with_reducible repeat first|apply kN|apply kD|apply kA);refine blk_put (cs:=#[.int .u64 0, .int .u64 0]) ?_ 0 _ rfl;(with_reducible repeat first|apply kN|apply kD|apply kA);exact BK406.out⟩
        have n3_:Aside0 (Below w.heap.size w ((w14.setCell ⟨gb406,0,none⟩ (.int .u64 ((rd_T78 l0 x13_1).f0))).setCell ⟨gb406,1,none⟩ (.int .u64 ((rd_T78 l0 x13_1).f1)))):=⟨by repeat (first|(with_reducible first|exact HB.out|apply bA|apply bN|apply bD|refine bS ?_ GE402.out|refine bS ?_ GE404.out|refine bS ?_ GE406.out)|exact HB.out)⟩
        (try clear BK402);(try clear BK404);(try clear BK406);(try clear HB)
        generalize ((w14.setCell ⟨gb406,0,none⟩ (.int .u64 ((rd_T78 l0 x13_1).f0))).setCell ⟨gb406,1,none⟩ (.int .u64 ((rd_T78 l0 x13_1).f1)))=w18 at n0_ n1_ n2_ n3_ ⊢
        have BK402:=n0_;have BK404:=n1_;have BK406:=n2_;have HB:=n3_;clear n0_ n1_ n2_ n3_
        have n0_:=Am (kD BK402.out)
        have n1_:=Am (kD BK404.out)
        have n2_:=Am (kD BK406.out)
        have n3_:=Am (bD HB.out)
        clear BK402 BK404 BK406 HB;have BK402:=n0_;have BK404:=n1_;have BK406:=n2_;have HB:=n3_;clear n0_ n1_ n2_ n3_
        refine start_ (n:=5) (S:=fun w'=>w'.cell? ⟨gb402,0,none⟩=some (.int .u64 a1_0)∧w'.cell? ⟨gb402,1,none⟩=some (.int .u64 a1_1)∧w'.cell? ⟨gb406,0,none⟩=some (.int .u64 ((rd_T78 l0 x13_1).f0))∧w'.cell? ⟨gb406,1,none⟩=some (.int .u64 ((rd_T78 l0 x13_1).f1))∧w'.cell? ⟨gb404,0,none⟩=some (.int .u64 x405000_1)∧w'.cell? ⟨gb404,1,none⟩=some (.int .u64 x405001_1)) (ds:=[]) #[false,false,false,false,false] (by kernel_rfl) rfl rfl ⟨(blk_cell BK402.out 0).trans rfl,(blk_cell BK402.out 1).trans rfl,(blk_cell BK406.out 0).trans rfl,(blk_cell BK406.out 1).trans rfl,(blk_cell BK404.out 0).trans rfl,(blk_cell BK404.out 1).trans rfl⟩ (fun hHeld=>?_)
        generalize w18.drew=w19 at BK402 BK404 BK406 HB hHeld ⊢
        refine take_ (i:=0) (N:=some 17) (v:=?_) (a':=?_) #[true,false,false,false,false] rfl rfl (by kernel_rfl) (fun _ _ _ h=>h) (Or.inl ⟨by rfl,?_⟩) hHeld ?_ ?_
        rotate_left;(· rintro w' ⟨s0,s1,s2,s3,s4,s5⟩;go_simp;with_reducible rfl);rotate_left;(· simp only [pL,i64_w,i32_w];rfl)
        refine take_ (i:=1) (N:=some 18) (v:=?_) (a':=?_) #[true,true,false,false,false] rfl rfl (by kernel_rfl) (fun _ _ _ h=>h) (Or.inl ⟨by rfl,?_⟩) hHeld ?_ ?_
        rotate_left;(· rintro w' ⟨s0,s1,s2,s3,s4,s5⟩;go_simp;with_reducible rfl);rotate_left;(· simp only [pL,i64_w,i32_w];rfl)
        refine take_ (i:=2) (N:=some 19) (v:=?_) (a':=?_) #[true,true,true,false,false] rfl rfl (by kernel_rfl) (fun _ _ _ h=>h) (Or.inl ⟨by rfl,?_⟩) hHeld ?_ ?_
        rotate_left;(· rintro w' ⟨s0,s1,s2,s3,s4,s5⟩;go_simp;with_reducible rfl);rotate_left;(· simp only [pL,i64_w,i32_w];rfl)
        refine one_ (i:=3) (N:=some 20) #[true,true,true,true,false] rfl rfl (by kernel_rfl) (by decide) (fun K hK=>?_)
        refine goes_ Try.func42 (by kernel_rfl) rfl #[.agg #[.int .u64 ((rd_T78 l0 x13_1).f0), .int .u64 ((rd_T78 l0 x13_1).f1)], .agg #[.int .u64 x405000_1, .int .u64 x405001_1]] (by rfl) rfl rfl (by (try simp only [List.map_toArray,List.map_cons,List.map_nil]);first|done|rfl|(simp only [List.length_drop,List.length_take];rfl)) ?_
        with_reducible refine (clock_less.calls ((rd_T78 l0 x13_1).f0) ((rd_T78 l0 x13_1).f1) x405000_1 x405001_1 t407 t408 _ A11.out).mono ?_
        rintro e w20 ⟨rfl,hb⟩
        refine ⟨_,rfl,?_⟩
        have n0_:=Am (blk_below (g:=gb402) (o:=.cells #[.int .u64 a1_0, .int .u64 a1_1] 78 (0,0)) (by (with_reducible repeat first|apply kN|apply kD|apply kA);exact BK402.out) hb)
        have n1_:=Am (blk_below (g:=gb404) (o:=.cells #[.int .u64 x405000_1, .int .u64 x405001_1] 78 (0,0)) (by (with_reducible repeat first|apply kN|apply kD|apply kA);exact BK404.out) hb)
        have n2_:=Am (blk_below (g:=gb406) (o:=.cells #[.int .u64 ((rd_T78 l0 x13_1).f0), .int .u64 ((rd_T78 l0 x13_1).f1)] 78 (0,0)) (by (with_reducible repeat first|apply kN|apply kD|apply kA);exact BK406.out) hb)
        have n3_:=Am (below_step (by repeat (first|(with_reducible first|exact HB.out|apply bA|apply bN|apply bD|refine bS ?_ GE402.out|refine bS ?_ GE404.out|refine bS ?_ GE406.out)|exact HB.out)) hb)
        clear BK402 BK404 BK406 HB;have BK402:=n0_;have BK404:=n1_;have BK406:=n2_;have HB:=n3_;clear n0_ n1_ n2_ n3_;(try clear hb)
        refine hK.out _ _ ⟨(blk_cell BK402.out 0).trans rfl,(blk_cell BK402.out 1).trans rfl,(blk_cell BK406.out 0).trans rfl,(blk_cell BK406.out 1).trans rfl,(blk_cell BK404.out 0).trans rfl,(blk_cell BK404.out 1).trans rfl⟩ (fun hHeld=>?_)
        clear hK K
        refine norm_ (a':=?_) ?_ ?_
        rotate_left
        ·show Act.put _ (some 20) _=_
         simp only [pL,i64_w,i32_w]
         rfl
        refine one_ (i:=4) (N:=some 21) #[true,true,true,true,true] rfl rfl (by kernel_rfl) (by decide) (fun K hK=>?_)
        refine goes_ Try.func54 (by kernel_rfl) rfl #[.agg #[.int .u64 a1_0, .int .u64 a1_1], .agg #[.int .u64 t407, .int .u64 t408]] (by rfl) rfl rfl (by (try simp only [List.map_toArray,List.map_cons,List.map_nil]);first|done|rfl|(simp only [List.length_drop,List.length_take];rfl)) ?_
        with_reducible refine (clock_below.calls a1_0 a1_1 t407 t408 true _ A12.out).mono ?_
        rintro e w21 ⟨rfl,hb⟩
        refine ⟨_,rfl,?_⟩
        have n0_:=Am (blk_below (g:=gb402) (o:=.cells #[.int .u64 a1_0, .int .u64 a1_1] 78 (0,0)) (by (with_reducible repeat first|apply kN|apply kD|apply kA);exact BK402.out) hb)
        have n1_:=Am (blk_below (g:=gb404) (o:=.cells #[.int .u64 x405000_1, .int .u64 x405001_1] 78 (0,0)) (by (with_reducible repeat first|apply kN|apply kD|apply kA);exact BK404.out) hb)
        have n2_:=Am (blk_below (g:=gb406) (o:=.cells #[.int .u64 ((rd_T78 l0 x13_1).f0), .int .u64 ((rd_T78 l0 x13_1).f1)] 78 (0,0)) (by (with_reducible repeat first|apply kN|apply kD|apply kA);exact BK406.out) hb)
        have n3_:=Am (below_step (by repeat (first|(with_reducible first|exact HB.out|apply bA|apply bN|apply bD|refine bS ?_ GE402.out|refine bS ?_ GE404.out|refine bS ?_ GE406.out)|exact HB.out)) hb)
        clear BK402 BK404 BK406 HB;have BK402:=n0_;have BK404:=n1_;have BK406:=n2_;have HB:=n3_;clear n0_ n1_ n2_ n3_;(try clear hb)
        refine hK.out _ _ ⟨(blk_cell BK402.out 0).trans rfl,(blk_cell BK402.out 1).trans rfl,(blk_cell BK406.out 0).trans rfl,(blk_cell BK406.out 1).trans rfl,(blk_cell BK404.out 0).trans rfl,(blk_cell BK404.out 1).trans rfl⟩ (fun hHeld=>?_)
        clear hK K
        refine norm_ (a':=?_) ?_ ?_
        rotate_left
        ·show Act.put _ (some 21) _=_
         simp only [pL,i64_w,i32_w]
         rfl
        refine done_ (by kernel_rfl) ?_
        try go_wp2
        go_ret
        exact ⟨by first|rfl|(simp [errW_none,errW_some] <;> rfl)|(simp [*,errW_none,errW_some] <;> rfl),by repeat (first|(with_reducible first|exact HB.out|apply bA|apply bN|apply bD|refine bS ?_ GE402.out|refine bS ?_ GE404.out|refine bS ?_ GE406.out)|exact HB.out)⟩
       ·replace c13:=Bool.eq_false_iff.mpr c13
        subst c13
        have H1:((clock_below.f ((rd_T78 l0 x13_1).f0) ((rd_T78 l0 x13_1).f1) x405000_1 x405001_1).bind fun t410=>(if t410=true then (clock_rises.l0 k1 l0 (l0.length:Int) (wrap64 (x13_1+1)) a1_0 a1_1 ((rd_T78 l0 x13_1).f0) ((rd_T78 l0 x13_1).f1)) else (clock_rises.l0 k1 l0 (l0.length:Int) (wrap64 (x13_1+1)) a1_0 a1_1 x405000_1 x405001_1)))=some r:=by rw [if_neg (show ¬ (false=true) by decide)] at H;exact H
        clear H;have H:=H1;clear H1
        replace H:=Option.bind_eq_some_iff.mp H
        obtain ⟨t410,A220,H⟩:=H
        replace H:(if t410=true then (clock_rises.l0 k1 l0 (l0.length:Int) (wrap64 (x13_1+1)) a1_0 a1_1 ((rd_T78 l0 x13_1).f0) ((rd_T78 l0 x13_1).f1)) else (clock_rises.l0 k1 l0 (l0.length:Int) (wrap64 (x13_1+1)) a1_0 a1_1 x405000_1 x405001_1))=some r:=H
        have A22:=Am A220
        clear A220
        by_cases c23:t410=true
        ·subst c23
         have H1:(clock_rises.l0 k1 l0 (l0.length:Int) (wrap64 (x13_1+1)) a1_0 a1_1 ((rd_T78 l0 x13_1).f0) ((rd_T78 l0 x13_1).f1))=some r:=by rw [if_pos rfl] at H;exact H
         clear H;have H:=H1;clear H1
         have H':=Am H
         clear H
         have p405:0≤(x13_1:Int):=of_decide_eq_true (by first|(with_reducible assumption)|assumption)
         have q405:x13_1 < (l0.length:Int):=of_decide_eq_true (by first|(with_reducible assumption)|assumption)
         obtain ⟨ad405,e405,hx405_0,hx405_1⟩:=at_T78 HR0.out x13_1 p405 q405
         obtain rfl:ad403=ad405:=(by injection e405)
         replace hx405_0:=(HB.out.cell (World.block_lt_of_cell? w _ hx405_0)).trans hx405_0
         replace hx405_1:=(HB.out.cell (World.block_lt_of_cell? w _ hx405_1)).trans hx405_1
         replace p405:=eq_true p405
         replace q405:=eq_true q405
         try go_wp2_with (first|((with_reducible refine gate_dst (N:=7) rfl ?_);refine box_event ?hg (N:=7) ?hd (cs:=#[.int .u64 0, .int .u64 0]) (t:=78) ?hr ?_;(case hd=>rfl);(case hg=>rfl);(case hr=>first|(go_simp;done)|(go_simp;rfl));intro gb406 hg w24 hbox hb;have n0_:=Am (blk_below (g:=gb402) (o:=.cells #[.int .u64 a1_0, .int .u64 a1_1] 78 (0,0)) (by (with_reducible repeat first|apply kN|apply kD|apply kA);exact BK402.out) hb);have n1_:=Am (blk_below (g:=gb404) (o:=.cells #[.int .u64 x405000_1, .int .u64 x405001_1] 78 (0,0)) (by (with_reducible repeat first|apply kN|apply kD|apply kA);exact BK404.out) hb);have n2_:=Am (below_step (by repeat (first|(with_reducible first|exact HB.out|apply bA|apply bN|apply bD|refine bS ?_ GE402.out|refine bS ?_ GE404.out)|exact HB.out)) hb);have n3_:=Am (hbox);have n4_:=Am ((by rw [hg];exact (below_size (by repeat (first|(with_reducible first|exact HB.out|apply bA|apply bN|apply bD|refine bS ?_ GE402.out|refine bS ?_ GE404.out)|exact HB.out))):w.heap.size≤gb406));have n5_:=Am ((by rw [hg];exact (below_size (by repeat (first|(with_reducible first|exact HB.out|apply bA|apply bN|apply bD|refine bS ?_ GE402.out|refine bS ?_ GE404.out)|exact HB.out))):w.heap.size≤gb406));have n6_:=Am ((by rw [hg];exact Nat.ne_of_lt (blk_lt (g:=gb402) (o:=.cells #[.int .u64 a1_0, .int .u64 a1_1] 78 (0,0)) (by (with_reducible repeat first|apply kN|apply kD|apply kA);exact BK402.out)):gb402≠gb406));have n7_:=Am (n6_.out.symm);have n8_:=Am ((by rw [hg];exact Nat.ne_of_lt (blk_lt (g:=gb404) (o:=.cells #[.int .u64 x405000_1, .int .u64 x405001_1] 78 (0,0)) (by (with_reducible repeat first|apply kN|apply kD|apply kA);exact BK404.out)):gb404≠gb406));have n9_:=Am (n8_.out.symm);clear BK402 BK404 HB;have BK402:=n0_;have BK404:=n1_;have HB:=n2_;have BK406:=n3_;have GW406:=n4_;have GE406:=n5_;have NB402_406:=n6_;have NB406_402:=n7_;have NB404_406:=n8_;have NB406_404:=n9_;clear n0_ n1_ n2_ n3_ n4_ n5_ n6_ n7_ n8_ n9_ hb hbox hg;have hnb25:=NB406_402.out;have hnc25:=NB402_406.out;have hnb26:=NB406_404.out;have hnc26:=NB404_406.out;have hcz27_0:w24.cell? ⟨gb406,0,none⟩=some (.int .u64 0):=(blk_cell BK406.out 0).trans rfl;have hcz27_1:w24.cell? ⟨gb406,1,none⟩=some (.int .u64 0):=(blk_cell BK406.out 1).trans rfl;have hfz27_0:=blk_frozen BK406.out 0;have hfz27_1:=blk_frozen BK406.out 1))
         have n0_:Aside0 (((w24.setCell ⟨gb406,0,none⟩ (.int .u64 ((rd_T78 l0 x13_1).f0))).setCell ⟨gb406,1,none⟩ (.int .u64 ((rd_T78 l0 x13_1).f1))).heap[gb402]?=some (.cells #[.int .u64 a1_0, .int .u64 a1_1] 78 (0,0))):=⟨by (with_reducible repeat first|apply kN|apply kD|apply kA);refine blk_far ?_ NB402_406.out _;(with_reducible repeat first|apply kN|apply kD|apply kA);refine blk_far ?_ NB402_406.out _;(with_reducible repeat first|apply kN|apply kD|apply kA);exact BK402.out⟩
         have n1_:Aside0 (((w24.setCell ⟨gb406,0,none⟩ (.int .u64 ((rd_T78 l0 x13_1).f0))).setCell ⟨gb406,1,none⟩ (.int .u64 ((rd_T78 l0 x13_1).f1))).heap[gb404]?=some (.cells #[.int .u64 x405000_1, .int .u64 x405001_1] 78 (0,0))):=⟨by (with_reducible repeat first|apply kN|apply kD|apply kA);refine blk_far ?_ NB404_406.out _;(with_reducible repeat first|apply kN|apply kD|apply kA);refine blk_far ?_ NB404_406.out _;(with_reducible repeat first|apply kN|apply kD|apply kA);exact BK404.out⟩
         have n2_:Aside0 (((w24.setCell ⟨gb406,0,none⟩ (.int .u64 ((rd_T78 l0 x13_1).f0))).setCell ⟨gb406,1,none⟩ (.int .u64 ((rd_T78 l0 x13_1).f1))).heap[gb406]?=some (.cells #[.int .u64 ((rd_T78 l0 x13_1).f0), .int .u64 ((rd_T78 l0 x13_1).f1)] 78 (0,0))):=⟨by (with_reducible repeat first|apply kN|apply kD|apply kA);refine blk_put (cs:=#[.int .u64 ((rd_T78 l0 x13_1).f0), .int .u64 0]) ?_ 1 _ rfl;(with_reducible repeat first|apply kN|apply kD|apply kA);refine blk_put (cs:=#[.int .u64 0, .int .u64 0]) ?_ 0 _ rfl;(with_reducible repeat first|apply kN|apply kD|apply kA);exact BK406.out⟩
         have n3_:Aside0 (Below w.heap.size w ((w24.setCell ⟨gb406,0,none⟩ (.int .u64 ((rd_T78 l0 x13_1).f0))).setCell ⟨gb406,1,none⟩ (.int .u64 ((rd_T78 l0 x13_1).f1)))):=⟨by repeat (first|(with_reducible first|exact HB.out|apply bA|apply bN|apply bD|refine bS ?_ GE402.out|refine bS ?_ GE404.out|refine bS ?_ GE406.out)|exact HB.out)⟩
         (try clear BK402);(try clear BK404);(try clear BK406);(try clear HB)
         generalize ((w24.setCell ⟨gb406,0,none⟩ (.int .u64 ((rd_T78 l0 x13_1).f0))).setCell ⟨gb406,1,none⟩ (.int .u64 ((rd_T78 l0 x13_1).f1)))=w28 at n0_ n1_ n2_ n3_ ⊢
         have BK402:=n0_;have BK404:=n1_;have BK406:=n2_;have HB:=n3_;clear n0_ n1_ n2_ n3_
         have n0_:=Am (kD BK402.out)
         have n1_:=Am (kD BK404.out)
         have n2_:=Am (kD BK406.out)
         have n3_:=Am (bD HB.out)
         clear BK402 BK404 BK406 HB;have BK402:=n0_;have BK404:=n1_;have BK406:=n2_;have HB:=n3_;clear n0_ n1_ n2_ n3_
         refine start_ (n:=5) (S:=fun w'=>w'.cell? ⟨gb402,0,none⟩=some (.int .u64 a1_0)∧w'.cell? ⟨gb402,1,none⟩=some (.int .u64 a1_1)∧w'.cell? ⟨gb406,0,none⟩=some (.int .u64 ((rd_T78 l0 x13_1).f0))∧w'.cell? ⟨gb406,1,none⟩=some (.int .u64 ((rd_T78 l0 x13_1).f1))∧w'.cell? ⟨gb404,0,none⟩=some (.int .u64 x405000_1)∧w'.cell? ⟨gb404,1,none⟩=some (.int .u64 x405001_1)) (ds:=[]) #[false,false,false,false,false] (by kernel_rfl) rfl rfl ⟨(blk_cell BK402.out 0).trans rfl,(blk_cell BK402.out 1).trans rfl,(blk_cell BK406.out 0).trans rfl,(blk_cell BK406.out 1).trans rfl,(blk_cell BK404.out 0).trans rfl,(blk_cell BK404.out 1).trans rfl⟩ (fun hHeld=>?_)
         generalize w28.drew=w29 at BK402 BK404 BK406 HB hHeld ⊢
         refine take_ (i:=0) (N:=some 17) (v:=?_) (a':=?_) #[true,false,false,false,false] rfl rfl (by kernel_rfl) (fun _ _ _ h=>h) (Or.inl ⟨by rfl,?_⟩) hHeld ?_ ?_
         rotate_left;(· rintro w' ⟨s0,s1,s2,s3,s4,s5⟩;go_simp;with_reducible rfl);rotate_left;(· simp only [pL,i64_w,i32_w];rfl)
         refine take_ (i:=1) (N:=some 18) (v:=?_) (a':=?_) #[true,true,false,false,false] rfl rfl (by kernel_rfl) (fun _ _ _ h=>h) (Or.inl ⟨by rfl,?_⟩) hHeld ?_ ?_
         rotate_left;(· rintro w' ⟨s0,s1,s2,s3,s4,s5⟩;go_simp;with_reducible rfl);rotate_left;(· simp only [pL,i64_w,i32_w];rfl)
         refine take_ (i:=2) (N:=some 19) (v:=?_) (a':=?_) #[true,true,true,false,false] rfl rfl (by kernel_rfl) (fun _ _ _ h=>h) (Or.inl ⟨by rfl,?_⟩) hHeld ?_ ?_
         rotate_left;(· rintro w' ⟨s0,s1,s2,s3,s4,s5⟩;go_simp;with_reducible rfl);rotate_left;(· simp only [pL,i64_w,i32_w];rfl)
         refine one_ (i:=3) (N:=some 20) #[true,true,true,true,false] rfl rfl (by kernel_rfl) (by decide) (fun K hK=>?_)
         refine goes_ Try.func42 (by kernel_rfl) rfl #[.agg #[.int .u64 ((rd_T78 l0 x13_1).f0), .int .u64 ((rd_T78 l0 x13_1).f1)], .agg #[.int .u64 x405000_1, .int .u64 x405001_1]] (by rfl) rfl rfl (by (try simp only [List.map_toArray,List.map_cons,List.map_nil]);first|done|rfl|(simp only [List.length_drop,List.length_take];rfl)) ?_
         with_reducible refine (clock_less.calls ((rd_T78 l0 x13_1).f0) ((rd_T78 l0 x13_1).f1) x405000_1 x405001_1 t407 t408 _ A11.out).mono ?_
         rintro e w30 ⟨rfl,hb⟩
         refine ⟨_,rfl,?_⟩
         have n0_:=Am (blk_below (g:=gb402) (o:=.cells #[.int .u64 a1_0, .int .u64 a1_1] 78 (0,0)) (by (with_reducible repeat first|apply kN|apply kD|apply kA);exact BK402.out) hb)
         have n1_:=Am (blk_below (g:=gb404) (o:=.cells #[.int .u64 x405000_1, .int .u64 x405001_1] 78 (0,0)) (by (with_reducible repeat first|apply kN|apply kD|apply kA);exact BK404.out) hb)
         have n2_:=Am (blk_below (g:=gb406) (o:=.cells #[.int .u64 ((rd_T78 l0 x13_1).f0), .int .u64 ((rd_T78 l0 x13_1).f1)] 78 (0,0)) (by (with_reducible repeat first|apply kN|apply kD|apply kA);exact BK406.out) hb)
         have n3_:=Am (below_step (by repeat (first|(with_reducible first|exact HB.out|apply bA|apply bN|apply bD|refine bS ?_ GE402.out|refine bS ?_ GE404.out|refine bS ?_ GE406.out)|exact HB.out)) hb)
         clear BK402 BK404 BK406 HB;have BK402:=n0_;have BK404:=n1_;have BK406:=n2_;have HB:=n3_;clear n0_ n1_ n2_ n3_;(try clear hb)
         refine hK.out _ _ ⟨(blk_cell BK402.out 0).trans rfl,(blk_cell BK402.out 1).trans rfl,(blk_cell BK406.out 0).trans rfl,(blk_cell BK406.out 1).trans rfl,(blk_cell BK404.out 0).trans rfl,(blk_cell BK404.out 1).trans rfl⟩ (fun hHeld=>?_)
         clear hK K
         refine norm_ (a':=?_) ?_ ?_
         rotate_left
         ·show Act.put _ (some 20) _=_
          simp only [pL,i64_w,i32_w]
          rfl
         refine one_ (i:=4) (N:=some 21) #[true,true,true,true,true] rfl rfl (by kernel_rfl) (by decide) (fun K hK=>?_)
         refine goes_ Try.func54 (by kernel_rfl) rfl #[.agg #[.int .u64 a1_0, .int .u64 a1_1], .agg #[.int .u64 t407, .int .u64 t408]] (by rfl) rfl rfl (by (try simp only [List.map_toArray,List.map_cons,List.map_nil]);first|done|rfl|(simp only [List.length_drop,List.length_take];rfl)) ?_
         with_reducible refine (clock_below.calls a1_0 a1_1 t407 t408 false _ A12.out).mono ?_
         rintro e w31 ⟨rfl,hb⟩
         refine ⟨_,rfl,?_⟩
         have n0_:=Am (blk_below (g:=gb402) (o:=.cells #[.int .u64 a1_0, .int .u64 a1_1] 78 (0,0)) (by (with_reducible repeat first|apply kN|apply kD|apply kA);exact BK402.out) hb)
         have n1_:=Am (blk_below (g:=gb404) (o:=.cells #[.int .u64 x405000_1, .int .u64 x405001_1] 78 (0,0)) (by (with_reducible repeat first|apply kN|apply kD|apply kA);exact BK404.out) hb)
         have n2_:=Am (blk_below (g:=gb406) (o:=.cells #[.int .u64 ((rd_T78 l0 x13_1).f0), .int .u64 ((rd_T78 l0 x13_1).f1)] 78 (0,0)) (by (with_reducible repeat first|apply kN|apply kD|apply kA);exact BK406.out) hb)
         have n3_:=Am (below_step (by repeat (first|(with_reducible first|exact HB.out|apply bA|apply bN|apply bD|refine bS ?_ GE402.out|refine bS ?_ GE404.out|refine bS ?_ GE406.out)|exact HB.out)) hb)
         clear BK402 BK404 BK406 HB;have BK402:=n0_;have BK404:=n1_;have BK406:=n2_;have HB:=n3_;clear n0_ n1_ n2_ n3_;(try clear hb)
         refine hK.out _ _ ⟨(blk_cell BK402.out 0).trans rfl,(blk_cell BK402.out 1).trans rfl,(blk_cell BK406.out 0).trans rfl,(blk_cell BK406.out 1).trans rfl,(blk_cell BK404.out 0).trans rfl,(blk_cell BK404.out 1).trans rfl⟩ (fun hHeld=>?_)
         clear hK K
         refine norm_ (a':=?_) ?_ ?_
         rotate_left
         ·show Act.put _ (some 21) _=_
          simp only [pL,i64_w,i32_w]
          rfl
         refine done_ (by kernel_rfl) ?_
         have hcz32_0:w31.cell? ⟨gb406,0,none⟩=some (.int .u64 ((rd_T78 l0 x13_1).f0)):=(blk_cell BK406.out 0).trans rfl
         have hcz32_1:w31.cell? ⟨gb406,1,none⟩=some (.int .u64 ((rd_T78 l0 x13_1).f1)):=(blk_cell BK406.out 1).trans rfl
         have hfz32_0:=blk_frozen BK406.out 0
         have hfz32_1:=blk_frozen BK406.out 1
         have hnb33:=NB404_402.out
         have hnc33:=NB402_404.out
         have hcz34_0:w31.cell? ⟨gb404,0,none⟩=some (.int .u64 x405000_1):=(blk_cell BK404.out 0).trans rfl
         have hcz34_1:w31.cell? ⟨gb404,1,none⟩=some (.int .u64 x405001_1):=(blk_cell BK404.out 1).trans rfl
         have hfz34_0:=blk_frozen BK404.out 0
         have hfz34_1:=blk_frozen BK404.out 1
         try go_wp2_with (first|((with_reducible refine gate_callee (f:=54) rfl ?_);refine goesL_ (some 24) rfl rfl Try.func54 (by kernel_rfl) rfl #[.agg #[.int .u64 ((rd_T78 l0 x13_1).f0), .int .u64 ((rd_T78 l0 x13_1).f1)], .agg #[.int .u64 x405000_1, .int .u64 x405001_1]] rfl (by (try simp only [List.map_toArray,List.map_cons,List.map_nil]);first|done|rfl|(simp only [List.length_drop,List.length_take];rfl)) ?_;(with_reducible refine (clock_below.calls ((rd_T78 l0 x13_1).f0) ((rd_T78 l0 x13_1).f1) x405000_1 x405001_1 true _ A22.out).mono ?_);rintro e w35 ⟨rfl,hb⟩;refine ⟨_,rfl,?_⟩;have n0_:=Am (blk_below (g:=gb402) (o:=.cells #[.int .u64 a1_0, .int .u64 a1_1] 78 (0,0)) (by (with_reducible repeat first|apply kN|apply kD|apply kA);exact BK402.out) hb);have n1_:=Am (blk_below (g:=gb404) (o:=.cells #[.int .u64 x405000_1, .int .u64 x405001_1] 78 (0,0)) (by (with_reducible repeat first|apply kN|apply kD|apply kA);exact BK404.out) hb);have n2_:=Am (blk_below (g:=gb406) (o:=.cells #[.int .u64 ((rd_T78 l0 x13_1).f0), .int .u64 ((rd_T78 l0 x13_1).f1)] 78 (0,0)) (by (with_reducible repeat first|apply kN|apply kD|apply kA);exact BK406.out) hb);have n3_:=Am (below_step (by repeat (first|(with_reducible first|exact HB.out|apply bA|apply bN|apply bD|refine bS ?_ GE402.out|refine bS ?_ GE404.out|refine bS ?_ GE406.out)|exact HB.out)) hb);clear BK402 BK404 BK406 HB;have BK402:=n0_;have BK404:=n1_;have BK406:=n2_;have HB:=n3_;clear n0_ n1_ n2_ n3_;(try clear hb);have hcz36_0:w35.cell? ⟨gb406,0,none⟩=some (.int .u64 ((rd_T78 l0 x13_1).f0)):=(blk_cell BK406.out 0).trans rfl;have hcz36_1:w35.cell? ⟨gb406,1,none⟩=some (.int .u64 ((rd_T78 l0 x13_1).f1)):=(blk_cell BK406.out 1).trans rfl;have hfz36_0:=blk_frozen BK406.out 0;have hfz36_1:=blk_frozen BK406.out 1;have hcz37_0:w35.cell? ⟨gb404,0,none⟩=some (.int .u64 x405000_1):=(blk_cell BK404.out 0).trans rfl;have hcz37_1:w35.cell? ⟨gb404,1,none⟩=some (.int .u64 x405001_1):=(blk_cell BK404.out 1).trans rfl;have hfz37_0:=blk_frozen BK404.out 0;have hfz37_1:=blk_frozen BK404.out 1))
         go_roundg k1
         case measure=>have:=HK1.out;omega
         case rel=>exact ⟨(wrap64 (x13_1+1)),((rd_T78 l0 x13_1).f0),((rd_T78 l0 x13_1).f1),(by first|rfl|(simp;done)|(simp [*];done)),H',⟨by have:=HK1.out;omega⟩,⟨by (with_reducible repeat first|apply kN|apply kD|apply kA);refine blk_far ?_ NB402_404.out _;(with_reducible repeat first|apply kN|apply kD|apply kA);refine blk_far ?_ NB402_404.out _;(with_reducible repeat first|apply kN|apply kD|apply kA);exact BK402.out⟩,⟨by (with_reducible repeat first|apply kN|apply kD|apply kA);refine blk_put (cs:=#[.int .u64 ((rd_T78 l0 x13_1).f0), .int .u64 x405001_1]) ?_ 1 _ rfl;(with_reducible repeat first|apply kN|apply kD|apply kA);refine blk_put (cs:=#[.int .u64 x405000_1, .int .u64 x405001_1]) ?_ 0 _ rfl;(with_reducible repeat first|apply kN|apply kD|apply kA);exact BK404.out⟩,⟨by repeat (first|(with_reducible first|exact HB.out|apply bA|apply bN|apply bD|refine bS ?_ GE402.out|refine bS ?_ GE404.out|refine bS ?_ GE406.out)|exact HB.out)⟩⟩
        ·replace c23:=Bool.eq_false_iff.mpr c23
         subst c23
         have H1:(clock_rises.l0 k1 l0 (l0.length:Int) (wrap64 (x13_1+1)) a1_0 a1_1 x405000_1 x405001_1)=some r:=by rw [if_neg (show ¬ (false=true) by decide)] at H;exact H
         clear H;have H:=H1;clear H1
         have H':=Am H
         clear H
         have p405:0≤(x13_1:Int):=of_decide_eq_true (by first|(with_reducible assumption)|assumption)
         have q405:x13_1 < (l0.length:Int):=of_decide_eq_true (by first|(with_reducible assumption)|assumption)
         obtain ⟨ad405,e405,hx405_0,hx405_1⟩:=at_T78 HR0.out x13_1 p405 q405
         obtain rfl:ad403=ad405:=(by injection e405)
         replace hx405_0:=(HB.out.cell (World.block_lt_of_cell? w _ hx405_0)).trans hx405_0
         replace hx405_1:=(HB.out.cell (World.block_lt_of_cell? w _ hx405_1)).trans hx405_1
         replace p405:=eq_true p405
         replace q405:=eq_true q405
         try go_wp2_with (first|((with_reducible refine gate_dst (N:=7) rfl ?_);refine box_event ?hg (N:=7) ?hd (cs:=#[.int .u64 0, .int .u64 0]) (t:=78) ?hr ?_;(case hd=>rfl);(case hg=>rfl);(case hr=>first|(go_simp;done)|(go_simp;rfl));intro gb406 hg w38 hbox hb;have n0_:=Am (blk_below (g:=gb402) (o:=.cells #[.int .u64 a1_0, .int .u64 a1_1] 78 (0,0)) (by (with_reducible repeat first|apply kN|apply kD|apply kA);exact BK402.out) hb);have n1_:=Am (blk_below (g:=gb404) (o:=.cells #[.int .u64 x405000_1, .int .u64 x405001_1] 78 (0,0)) (by (with_reducible repeat first|apply kN|apply kD|apply kA);exact BK404.out) hb);have n2_:=Am (below_step (by repeat (first|(with_reducible first|exact HB.out|apply bA|apply bN|apply bD|refine bS ?_ GE402.out|refine bS ?_ GE404.out)|exact HB.out)) hb);have n3_:=Am (hbox);have n4_:=Am ((by rw [hg];exact (below_size (by repeat (first|(with_reducible first|exact HB.out|apply bA|apply bN|apply bD|refine bS ?_ GE402.out|refine bS ?_ GE404.out)|exact HB.out))):w.heap.size≤gb406));have n5_:=Am ((by rw [hg];exact (below_size (by repeat (first|(with_reducible first|exact HB.out|apply bA|apply bN|apply bD|refine bS ?_ GE402.out|refine bS ?_ GE404.out)|exact HB.out))):w.heap.size≤gb406));have n6_:=Am ((by rw [hg];exact Nat.ne_of_lt (blk_lt (g:=gb402) (o:=.cells #[.int .u64 a1_0, .int .u64 a1_1] 78 (0,0)) (by (with_reducible repeat first|apply kN|apply kD|apply kA);exact BK402.out)):gb402≠gb406));have n7_:=Am (n6_.out.symm);have n8_:=Am ((by rw [hg];exact Nat.ne_of_lt (blk_lt (g:=gb404) (o:=.cells #[.int .u64 x405000_1, .int .u64 x405001_1] 78 (0,0)) (by (with_reducible repeat first|apply kN|apply kD|apply kA);exact BK404.out)):gb404≠gb406));have n9_:=Am (n8_.out.symm);clear BK402 BK404 HB;have BK402:=n0_;have BK404:=n1_;have HB:=n2_;have BK406:=n3_;have GW406:=n4_;have GE406:=n5_;have NB402_406:=n6_;have NB406_402:=n7_;have NB404_406:=n8_;have NB406_404:=n9_;clear n0_ n1_ n2_ n3_ n4_ n5_ n6_ n7_ n8_ n9_ hb hbox hg;have hnb39:=NB406_402.out;have hnc39:=NB402_406.out;have hnb40:=NB406_404.out;have hnc40:=NB404_406.out;have hcz41_0:w38.cell? ⟨gb406,0,none⟩=some (.int .u64 0):=(blk_cell BK406.out 0).trans rfl;have hcz41_1:w38.cell? ⟨gb406,1,none⟩=some (.int .u64 0):=(blk_cell BK406.out 1).trans rfl;have hfz41_0:=blk_frozen BK406.out 0;have hfz41_1:=blk_frozen BK406.out 1))
         have n0_:Aside0 (((w38.setCell ⟨gb406,0,none⟩ (.int .u64 ((rd_T78 l0 x13_1).f0))).setCell ⟨gb406,1,none⟩ (.int .u64 ((rd_T78 l0 x13_1).f1))).heap[gb402]?=some (.cells #[.int .u64 a1_0, .int .u64 a1_1] 78 (0,0))):=⟨by (with_reducible repeat first|apply kN|apply kD|apply kA);refine blk_far ?_ NB402_406.out _;(with_reducible repeat first|apply kN|apply kD|apply kA);refine blk_far ?_ NB402_406.out _;(with_reducible repeat first|apply kN|apply kD|apply kA);exact BK402.out⟩
         have n1_:Aside0 (((w38.setCell ⟨gb406,0,none⟩ (.int .u64 ((rd_T78 l0 x13_1).f0))).setCell ⟨gb406,1,none⟩ (.int .u64 ((rd_T78 l0 x13_1).f1))).heap[gb404]?=some (.cells #[.int .u64 x405000_1, .int .u64 x405001_1] 78 (0,0))):=⟨by (with_reducible repeat first|apply kN|apply kD|apply kA);refine blk_far ?_ NB404_406.out _;(with_reducible repeat first|apply kN|apply kD|apply kA);refine blk_far ?_ NB404_406.out _;(with_reducible repeat first|apply kN|apply kD|apply kA);exact BK404.out⟩
         have n2_:Aside0 (((w38.setCell ⟨gb406,0,none⟩ (.int .u64 ((rd_T78 l0 x13_1).f0))).setCell ⟨gb406,1,none⟩ (.int .u64 ((rd_T78 l0 x13_1).f1))).heap[gb406]?=some (.cells #[.int .u64 ((rd_T78 l0 x13_1).f0), .int .u64 ((rd_T78 l0 x13_1).f1)] 78 (0,0))):=⟨by (with_reducible repeat first|apply kN|apply kD|apply kA);refine blk_put (cs:=#[.int .u64 ((rd_T78 l0 x13_1).f0), .int .u64 0]) ?_ 1 _ rfl;(with_reducible repeat first|apply kN|apply kD|apply kA);refine blk_put (cs:=#[.int .u64 0, .int .u64 0]) ?_ 0 _ rfl;(with_reducible repeat first|apply kN|apply kD|apply kA);exact BK406.out⟩
         have n3_:Aside0 (Below w.heap.size w ((w38.setCell ⟨gb406,0,none⟩ (.int .u64 ((rd_T78 l0 x13_1).f0))).setCell ⟨gb406,1,none⟩ (.int .u64 ((rd_T78 l0 x13_1).f1)))):=⟨by repeat (first|(with_reducible first|exact HB.out|apply bA|apply bN|apply bD|refine bS ?_ GE402.out|refine bS ?_ GE404.out|refine bS ?_ GE406.out)|exact HB.out)⟩
         (try clear BK402);(try clear BK404);(try clear BK406);(try clear HB)
         generalize ((w38.setCell ⟨gb406,0,none⟩ (.int .u64 ((rd_T78 l0 x13_1).f0))).setCell ⟨gb406,1,none⟩ (.int .u64 ((rd_T78 l0 x13_1).f1)))=w42 at n0_ n1_ n2_ n3_ ⊢
         have BK402:=n0_;have BK404:=n1_;have BK406:=n2_;have HB:=n3_;clear n0_ n1_ n2_ n3_
         have n0_:=Am (kD BK402.out)
         have n1_:=Am (kD BK404.out)
         have n2_:=Am (kD BK406.out)
         have n3_:=Am (bD HB.out)
         clear BK402 BK404 BK406 HB;have BK402:=n0_;have BK404:=n1_;have BK406:=n2_;have HB:=n3_;clear n0_ n1_ n2_ n3_
         refine start_ (n:=5) (S:=fun w'=>w'.cell? ⟨gb402,0,none⟩=some (.int .u64 a1_0)∧w'.cell? ⟨gb402,1,none⟩=some (.int .u64 a1_1)∧w'.cell? ⟨gb406,0,none⟩=some (.int .u64 ((rd_T78 l0 x13_1).f0))∧w'.cell? ⟨gb406,1,none⟩=some (.int .u64 ((rd_T78 l0 x13_1).f1))∧w'.cell? ⟨gb404,0,none⟩=some (.int .u64 x405000_1)∧w'.cell? ⟨gb404,1,none⟩=some (.int .u64 x405001_1)) (ds:=[]) #[false,false,false,false,false] (by kernel_rfl) rfl rfl ⟨(blk_cell BK402.out 0).trans rfl,(blk_cell BK402.out 1).trans rfl,(blk_cell BK406.out 0).trans rfl,(blk_cell BK406.out 1).trans rfl,(blk_cell BK404.out 0).trans rfl,(blk_cell BK404.out 1).trans rfl⟩ (fun hHeld=>?_)
         generalize w42.drew=w43 at BK402 BK404 BK406 HB hHeld ⊢
         refine take_ (i:=0) (N:=some 17) (v:=?_) (a':=?_) #[true,false,false,false,false] rfl rfl (by kernel_rfl) (fun _ _ _ h=>h) (Or.inl ⟨by rfl,?_⟩) hHeld ?_ ?_
         rotate_left;(· rintro w' ⟨s0,s1,s2,s3,s4,s5⟩;go_simp;with_reducible rfl);rotate_left;(· simp only [pL,i64_w,i32_w];rfl)
         refine take_ (i:=1) (N:=some 18) (v:=?_) (a':=?_) #[true,true,false,false,false] rfl rfl (by kernel_rfl) (fun _ _ _ h=>h) (Or.inl ⟨by rfl,?_⟩) hHeld ?_ ?_
         rotate_left;(· rintro w' ⟨s0,s1,s2,s3,s4,s5⟩;go_simp;with_reducible rfl);rotate_left;(· simp only [pL,i64_w,i32_w];rfl)
         refine take_ (i:=2) (N:=some 19) (v:=?_) (a':=?_) #[true,true,true,false,false] rfl rfl (by kernel_rfl) (fun _ _ _ h=>h) (Or.inl ⟨by rfl,?_⟩) hHeld ?_ ?_
         rotate_left;(· rintro w' ⟨s0,s1,s2,s3,s4,s5⟩;go_simp;with_reducible rfl);rotate_left;(· simp only [pL,i64_w,i32_w];rfl)
         refine one_ (i:=3) (N:=some 20) #[true,true,true,true,false] rfl rfl (by kernel_rfl) (by decide) (fun K hK=>?_)
         refine goes_ Try.func42 (by kernel_rfl) rfl #[.agg #[.int .u64 ((rd_T78 l0 x13_1).f0), .int .u64 ((rd_T78 l0 x13_1).f1)], .agg #[.int .u64 x405000_1, .int .u64 x405001_1]] (by rfl) rfl rfl (by (try simp only [List.map_toArray,List.map_cons,List.map_nil]);first|done|rfl|(simp only [List.length_drop,List.length_take];rfl)) ?_
         with_reducible refine (clock_less.calls ((rd_T78 l0 x13_1).f0) ((rd_T78 l0 x13_1).f1) x405000_1 x405001_1 t407 t408 _ A11.out).mono ?_
         rintro e w44 ⟨rfl,hb⟩
         refine ⟨_,rfl,?_⟩
         have n0_:=Am (blk_below (g:=gb402) (o:=.cells #[.int .u64 a1_0, .int .u64 a1_1] 78 (0,0)) (by (with_reducible repeat first|apply kN|apply kD|apply kA);exact BK402.out) hb)
         have n1_:=Am (blk_below (g:=gb404) (o:=.cells #[.int .u64 x405000_1, .int .u64 x405001_1] 78 (0,0)) (by (with_reducible repeat first|apply kN|apply kD|apply kA);exact BK404.out) hb)
         have n2_:=Am (blk_below (g:=gb406) (o:=.cells #[.int .u64 ((rd_T78 l0 x13_1).f0), .int .u64 ((rd_T78 l0 x13_1).f1)] 78 (0,0)) (by (with_reducible repeat first|apply kN|apply kD|apply kA);exact BK406.out) hb)
         have n3_:=Am (below_step (by repeat (first|(with_reducible first|exact HB.out|apply bA|apply bN|apply bD|refine bS ?_ GE402.out|refine bS ?_ GE404.out|refine bS ?_ GE406.out)|exact HB.out)) hb)
         clear BK402 BK404 BK406 HB;have BK402:=n0_;have BK404:=n1_;have BK406:=n2_;have HB:=n3_;clear n0_ n1_ n2_ n3_;(try clear hb)
         refine hK.out _ _ ⟨(blk_cell BK402.out 0).trans rfl,(blk_cell BK402.out 1).trans rfl,(blk_cell BK406.out 0).trans rfl,(blk_cell BK406.out 1).trans rfl,(blk_cell BK404.out 0).trans rfl,(blk_cell BK404.out 1).trans rfl⟩ (fun hHeld=>?_)
         clear hK K
         refine norm_ (a':=?_) ?_ ?_
         rotate_left
         ·show Act.put _ (some 20) _=_
          simp only [pL,i64_w,i32_w]
          rfl
         refine one_ (i:=4) (N:=some 21) #[true,true,true,true,true] rfl rfl (by kernel_rfl) (by decide) (fun K hK=>?_)
         refine goes_ Try.func54 (by kernel_rfl) rfl #[.agg #[.int .u64 a1_0, .int .u64 a1_1], .agg #[.int .u64 t407, .int .u64 t408]] (by rfl) rfl rfl (by (try simp only [List.map_toArray,List.map_cons,List.map_nil]);first|done|rfl|(simp only [List.length_drop,List.length_take];rfl)) ?_
         with_reducible refine (clock_below.calls a1_0 a1_1 t407 t408 false _ A12.out).mono ?_
         rintro e w45 ⟨rfl,hb⟩
         refine ⟨_,rfl,?_⟩
         have n0_:=Am (blk_below (g:=gb402) (o:=.cells #[.int .u64 a1_0, .int .u64 a1_1] 78 (0,0)) (by (with_reducible repeat first|apply kN|apply kD|apply kA);exact BK402.out) hb)
         have n1_:=Am (blk_below (g:=gb404) (o:=.cells #[.int .u64 x405000_1, .int .u64 x405001_1] 78 (0,0)) (by (with_reducible repeat first|apply kN|apply kD|apply kA);exact BK404.out) hb)
         have n2_:=Am (blk_below (g:=gb406) (o:=.cells #[.int .u64 ((rd_T78 l0 x13_1).f0), .int .u64 ((rd_T78 l0 x13_1).f1)] 78 (0,0)) (by (with_reducible repeat first|apply kN|apply kD|apply kA);exact BK406.out) hb)
         have n3_:=Am (below_step (by repeat (first|(with_reducible first|exact HB.out|apply bA|apply bN|apply bD|refine bS ?_ GE402.out|refine bS ?_ GE404.out|refine bS ?_ GE406.out)|exact HB.out)) hb)
         clear BK402 BK404 BK406 HB;have BK402:=n0_;have BK404:=n1_;have BK406:=n2_;have HB:=n3_;clear n0_ n1_ n2_ n3_;(try clear hb)
         refine hK.out _ _ ⟨(blk_cell BK402.out 0).trans rfl,(blk_cell BK402.out 1).trans rfl,(blk_cell BK406.out 0).trans rfl,(blk_cell BK406.out 1).trans rfl,(blk_cell BK404.out 0).trans rfl,(blk_cell BK404.out 1).trans rfl⟩ (fun hHeld=>?_)
         clear hK K
         refine norm_ (a':=?_) ?_ ?_
         rotate_left
         ·show Act.put _ (some 21) _=_
          simp only [pL,i64_w,i32_w]
          rfl
         refine done_ (by kernel_rfl) ?_
         have hcz46_0:w45.cell? ⟨gb406,0,none⟩=some (.int .u64 ((rd_T78 l0 x13_1).f0)):=(blk_cell BK406.out 0).trans rfl
         have hcz46_1:w45.cell? ⟨gb406,1,none⟩=some (.int .u64 ((rd_T78 l0 x13_1).f1)):=(blk_cell BK406.out 1).trans rfl
         have hfz46_0:=blk_frozen BK406.out 0
         have hfz46_1:=blk_frozen BK406.out 1
         have hnb47:=NB404_402.out
         have hnc47:=NB402_404.out
         have hcz48_0:w45.cell? ⟨gb404,0,none⟩=some (.int .u64 x405000_1):=(blk_cell BK404.out 0).trans rfl
         have hcz48_1:w45.cell? ⟨gb404,1,none⟩=some (.int .u64 x405001_1):=(blk_cell BK404.out 1).trans rfl
         have hfz48_0:=blk_frozen BK404.out 0
         have hfz48_1:=blk_frozen BK404.out 1
         try go_wp2_with (first|((with_reducible refine gate_callee (f:=54) rfl ?_);refine goesL_ (some 24) rfl rfl Try.func54 (by kernel_rfl) rfl #[.agg #[.int .u64 ((rd_T78 l0 x13_1).f0), .int .u64 ((rd_T78 l0 x13_1).f1)], .agg #[.int .u64 x405000_1, .int .u64 x405001_1]] rfl (by (try simp only [List.map_toArray,List.map_cons,List.map_nil]);first|done|rfl|(simp only [List.length_drop,List.length_take];rfl)) ?_;(with_reducible refine (clock_below.calls ((rd_T78 l0 x13_1).f0) ((rd_T78 l0 x13_1).f1) x405000_1 x405001_1 false _ A22.out).mono ?_);rintro e w49 ⟨rfl,hb⟩;refine ⟨_,rfl,?_⟩;have n0_:=Am (blk_below (g:=gb402) (o:=.cells #[.int .u64 a1_0, .int .u64 a1_1] 78 (0,0)) (by (with_reducible repeat first|apply kN|apply kD|apply kA);exact BK402.out) hb);have n1_:=Am (blk_below (g:=gb404) (o:=.cells #[.int .u64 x405000_1, .int .u64 x405001_1] 78 (0,0)) (by (with_reducible repeat first|apply kN|apply kD|apply kA);exact BK404.out) hb);have n2_:=Am (blk_below (g:=gb406) (o:=.cells #[.int .u64 ((rd_T78 l0 x13_1).f0), .int .u64 ((rd_T78 l0 x13_1).f1)] 78 (0,0)) (by (with_reducible repeat first|apply kN|apply kD|apply kA);exact BK406.out) hb);have n3_:=Am (below_step (by repeat (first|(with_reducible first|exact HB.out|apply bA|apply bN|apply bD|refine bS ?_ GE402.out|refine bS ?_ GE404.out|refine bS ?_ GE406.out)|exact HB.out)) hb);clear BK402 BK404 BK406 HB;have BK402:=n0_;have BK404:=n1_;have BK406:=n2_;have HB:=n3_;clear n0_ n1_ n2_ n3_;(try clear hb)))
         go_roundg k1
         case measure=>have:=HK1.out;omega
         case rel=>exact ⟨(wrap64 (x13_1+1)),(x405000_1),(x405001_1),(by first|rfl|(simp;done)|(simp [*];done)),H',⟨by have:=HK1.out;omega⟩,⟨by (with_reducible repeat first|apply kN|apply kD|apply kA);exact BK402.out⟩,⟨by (with_reducible repeat first|apply kN|apply kD|apply kA);exact BK404.out⟩,⟨by repeat (first|(with_reducible first|exact HB.out|apply bA|apply bN|apply bD|refine bS ?_ GE402.out|refine bS ?_ GE404.out|refine bS ?_ GE406.out)|exact HB.out)⟩⟩
      ·rw [if_neg c10] at H
       exact absurd H (by simp)
     ·rw [if_neg c9] at H
      exact absurd H (by simp)
    ·rw [if_neg c8] at H
     have c8b0:decide (x13_1 < (l0.length:Int))=false:=decide_eq_false c8
     clear c8
     obtain rfl:=Option.some.inj H
     go_wp2
     go_ret
     exact ⟨by first|rfl|(simp [errW_none,errW_some] <;> rfl)|(simp [*,errW_none,errW_some] <;> rfl),by repeat (first|(with_reducible first|exact HB.out|apply bA|apply bN|apply bD|refine bS ?_ GE402.out|refine bS ?_ GE404.out)|exact HB.out)⟩
 ·rw [if_neg c3] at H
  exact absurd H (by simp)

end Go.Proofs.Ythnmmiofhjbkeaa.PA
