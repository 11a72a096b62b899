/- Walks of functions of the program: each does what its Lean function says. Written by a program of this session (wip/xprint), which runs the printer of the kit with changes. -/
import Derived.Test.YthnmmiofhjbkeaaPAx0
import Derived.Test.YthnmmiofhjbkeaaPAx2
import Derived.Test.YthnmmiofhjbkeaaPAx11
import Derived.Test.YthnmmiofhjbkeaaPAx14
import Derived.Test.YthnmmiofhjbkeaaPAx16
import Derived.Test.YthnmmiofhjbkeaaPAx17
import Derived.Test.YthnmmiofhjbkeaaPAx20
import Derived.Test.YthnmmiofhjbkeaaPAx27
namespace Go.Proofs.Ythnmmiofhjbkeaa.PA
open Go.RowKit Go.Proofs.YthnmmiofhjbkeaaW.PrintWords Go.Proofs.YthnmmiofhjbkeaaW.PrintLast Go.Proofs.YthnmmiofhjbkeaaW.PrintMore
attribute [local go_sem] max2_int min2_int max_two min_two max_three min_three max_four min_four   -- for this text's walks alone
set_option linter.unusedVariables false
set_option linter.unusedSimpArgs false

/-! ### soundservicelaw13_ClockSteady: function 8 -/
mutual
def soundservicelaw13_ClockSteady.j0:Nat→Int→Int→Int→Int→Bool→List Int→Option (Bool)
 | 0,_,_,_,_,_,_=>none
 | k+1,x3,x4,x15,x16,x49,x444000=>if x49=true then (some false) else ((soundservicemade_Clock.f k x444000).bind fun bt454=>((soundserviceref03_Make.f k 1 1).bind fun bt459=>((clock_Keeps.f k bt454.1 bt459.1 bt459.2.1 (wrap64 (x3)) 5 x15 0 (wrap64 (x16 * x15))).bind fun t463=>(if t463=true then ((clock_Keeps.f k bt454.1 bt459.1 bt459.2.1 (wrap64 ((wrap64 (x3))+(wrap64 (x4)))) 6 x15 0 (wrap64 (x16 * x15))).bind fun t464=>(soundservicelaw13_ClockSteady.j1 k t464)) else (soundservicelaw13_ClockSteady.j1 k true)))))
def soundservicelaw13_ClockSteady.j2:Nat→Bool→Option (Bool)
 | 0,_=>none
 | k+1,x10=>some x10
def soundservicelaw13_ClockSteady.j1:Nat→Bool→Option (Bool)
 | 0,_=>none
 | k+1,x10=>soundservicelaw13_ClockSteady.j2 k x10
end
def soundservicelaw13_ClockSteady.f (k:Nat) (l0:List Int) (a1:Int) (a2:Int) (a3:Int) (a4:Int):Option (Bool):=(soundservicelaw13_sane.f k).bind fun t441=>(if t441=true then ((soundservicemade_New.f l0).bind fun t442=>((soundservicemade_Rate.f t442).bind fun bt444=>((clock_New.f k bt444.1 bt444.2.1).bind fun bt448=>(if bt448.2=0 then ((clock_Keeps.f k bt448.1 bt444.1 bt444.2.1 0 1 (wrap64 (1+(wrap64 (a1)))) 3 (wrap64 (3+(wrap64 ((wrap64 (Int.tmod a2 20)) * (wrap64 (1+(wrap64 (a1))))))))).bind fun t453=>(soundservicelaw13_ClockSteady.j0 k a3 a4 (wrap64 (1+(wrap64 (a1)))) (wrap64 (Int.tmod a2 20)) (!t453) bt444.2.2)) else (soundservicelaw13_ClockSteady.j0 k a3 a4 (wrap64 (1+(wrap64 (a1)))) (wrap64 (Int.tmod a2 20)) true bt444.2.2))))) else (some false))
theorem soundservicelaw13_ClockSteady.mono_l:∀ k,(∀ y0 y1 y2 y3 y4 y5,LeO (soundservicelaw13_ClockSteady.j0 k y0 y1 y2 y3 y4 y5) (soundservicelaw13_ClockSteady.j0 (k+1) y0 y1 y2 y3 y4 y5))∧(∀ y0,LeO (soundservicelaw13_ClockSteady.j2 k y0) (soundservicelaw13_ClockSteady.j2 (k+1) y0))∧(∀ y0,LeO (soundservicelaw13_ClockSteady.j1 k y0) (soundservicelaw13_ClockSteady.j1 (k+1) y0))
 | 0=>⟨fun _ _ _ _ _ _ r h=>by simp [soundservicelaw13_ClockSteady.j0] at h,fun _ r h=>by simp [soundservicelaw13_ClockSteady.j2] at h,fun _ r h=>by simp [soundservicelaw13_ClockSteady.j1] at h⟩
 | k+1=>by
  obtain ⟨ih0,ih1,ih2⟩:=soundservicelaw13_ClockSteady.mono_l k
  refine ⟨?_,?_,?_⟩
  ·intro y0 y1 y2 y3 y4 y5
   unfold soundservicelaw13_ClockSteady.j0
   repeat' first
   | (with_reducible exact ih0 _ _ _ _ _ _)
   | (with_reducible exact ih1 _)
   | (with_reducible exact ih2 _)
   | (with_reducible exact clock_Keeps.mono _ _ _ _ _ _ _ _ _)
   | (with_reducible exact clock_New.mono _ _ _)
   | (with_reducible exact soundservicelaw13_sane.mono _)
   | (with_reducible exact soundservicemade_Clock.mono _ _)
   | (with_reducible exact soundserviceref03_Make.mono _ _ _)
   | (with_reducible exact LeO.refl _)
   | (with_reducible exact LeO.none _)
   | (with_reducible refine LeO.ite ?_ ?_)
   | (with_reducible refine LeO.bind ?_ (fun _=>?_))
   | exact ih0 _ _ _ _ _ _
   | exact ih1 _
   | exact ih2 _
   | exact clock_Keeps.mono _ _ _ _ _ _ _ _ _
   | exact clock_New.mono _ _ _
   | exact soundservicelaw13_sane.mono _
   | exact soundservicemade_Clock.mono _ _
   | exact soundserviceref03_Make.mono _ _ _
   | exact LeO.none _
   | refine LeO.ite ?_ ?_
   | refine LeO.bind ?_ (fun _=>?_)
  ·intro y0
   unfold soundservicelaw13_ClockSteady.j2
   repeat' first
   | (with_reducible exact ih0 _ _ _ _ _ _)
   | (with_reducible exact ih1 _)
   | (with_reducible exact ih2 _)
   | (with_reducible exact clock_Keeps.mono _ _ _ _ _ _ _ _ _)
   | (with_reducible exact clock_New.mono _ _ _)
   | (with_reducible exact soundservicelaw13_sane.mono _)
   | (with_reducible exact soundservicemade_Clock.mono _ _)
   | (with_reducible exact soundserviceref03_Make.mono _ _ _)
   | (with_reducible exact LeO.refl _)
   | (with_reducible exact LeO.none _)
   | (with_reducible refine LeO.ite ?_ ?_)
   | (with_reducible refine LeO.bind ?_ (fun _=>?_))
   | exact ih0 _ _ _ _ _ _
   | exact ih1 _
   | exact ih2 _
   | exact clock_Keeps.mono _ _ _ _ _ _ _ _ _
   | exact clock_New.mono _ _ _
   | exact soundservicelaw13_sane.mono _
   | exact soundservicemade_Clock.mono _ _
   | exact soundserviceref03_Make.mono _ _ _
   | exact LeO.none _
   | refine LeO.ite ?_ ?_
   | refine LeO.bind ?_ (fun _=>?_)
  ·intro y0
   unfold soundservicelaw13_ClockSteady.j1
   repeat' first
   | (with_reducible exact ih0 _ _ _ _ _ _)
   | (with_reducible exact ih1 _)
   | (with_reducible exact ih2 _)
   | (with_reducible exact clock_Keeps.mono _ _ _ _ _ _ _ _ _)
   | (with_reducible exact clock_New.mono _ _ _)
   | (with_reducible exact soundservicelaw13_sane.mono _)
   | (with_reducible exact soundservicemade_Clock.mono _ _)
   | (with_reducible exact soundserviceref03_Make.mono _ _ _)
   | (with_reducible exact LeO.refl _)
   | (with_reducible exact LeO.none _)
   | (with_reducible refine LeO.ite ?_ ?_)
   | (with_reducible refine LeO.bind ?_ (fun _=>?_))
   | exact ih0 _ _ _ _ _ _
   | exact ih1 _
   | exact ih2 _
   | exact clock_Keeps.mono _ _ _ _ _ _ _ _ _
   | exact clock_New.mono _ _ _
   | exact soundservicelaw13_sane.mono _
   | exact soundservicemade_Clock.mono _ _
   | exact soundserviceref03_Make.mono _ _ _
   | exact LeO.none _
   | refine LeO.ite ?_ ?_
   | refine LeO.bind ?_ (fun _=>?_)
theorem soundservicelaw13_ClockSteady.mono:∀ a0 a1 a2 a3 a4 k,LeO (soundservicelaw13_ClockSteady.f k a0 a1 a2 a3 a4) (soundservicelaw13_ClockSteady.f (k+1) a0 a1 a2 a3 a4):=by
 intro a0 a1 a2 a3 a4 k
 obtain ⟨ih0,ih1,ih2⟩:=soundservicelaw13_ClockSteady.mono_l k
 unfold soundservicelaw13_ClockSteady.f
 repeat' first
   | (with_reducible exact ih0 _ _ _ _ _ _)
   | (with_reducible exact ih1 _)
   | (with_reducible exact ih2 _)
   | (with_reducible exact clock_Keeps.mono _ _ _ _ _ _ _ _ _)
   | (with_reducible exact clock_New.mono _ _ _)
   | (with_reducible exact soundservicelaw13_sane.mono _)
   | (with_reducible exact soundservicemade_Clock.mono _ _)
   | (with_reducible exact soundserviceref03_Make.mono _ _ _)
   | (with_reducible exact LeO.refl _)
   | (with_reducible exact LeO.none _)
   | (with_reducible refine LeO.ite ?_ ?_)
   | (with_reducible refine LeO.bind ?_ (fun _=>?_))
   | exact ih0 _ _ _ _ _ _
   | exact ih1 _
   | exact ih2 _
   | exact clock_Keeps.mono _ _ _ _ _ _ _ _ _
   | exact clock_New.mono _ _ _
   | exact soundservicelaw13_sane.mono _
   | exact soundservicemade_Clock.mono _ _
   | exact soundserviceref03_Make.mono _ _ _
   | exact LeO.none _
   | refine LeO.ite ?_ ?_
   | refine LeO.bind ?_ (fun _=>?_)
set_option maxHeartbeats 8000000 in
set_option maxRecDepth 100000 in
theorem soundservicelaw13_ClockSteady.calls (k:Nat) (A0:Option Addr) (c0:Nat) (l0:List Int) (a1:Int) (a2:Int) (a3:Int) (a4:Int) (r:Bool) (w:World) (hr0:Kd.C (Kd.int .u8) w A0 l0.length l0) (hc0:l0.length≤c0) (h:soundservicelaw13_ClockSteady.f k l0 a1 a2 a3 a4=some r) :
  Calls Try.prog 8 #[.slice A0 l0.length c0, .int .u8 a1, .int .u8 a2, .int .u8 a3, .int .u8 a4] w fun e w'=>e=.returned (.bool r)∧Below w.heap.size w w':=by
 have hu27:=Try.underlying27
 have hu24:=Try.underlying24
 have HR0:=Am hr0
 have HC0:=Am hc0
 clear hr0 hc0
 have HB:=Am (Below.refl w.heap.size w)
 have H:((soundservicelaw13_sane.f k).bind fun t441=>(if t441=true then ((soundservicemade_New.f l0).bind fun t442=>((soundservicemade_Rate.f t442).bind fun bt444=>((clock_New.f k bt444.1 bt444.2.1).bind fun bt448=>(if bt448.2=0 then ((clock_Keeps.f k bt448.1 bt444.1 bt444.2.1 0 1 (wrap64 (1+(wrap64 (a1)))) 3 (wrap64 (3+(wrap64 ((wrap64 (Int.tmod a2 20)) * (wrap64 (1+(wrap64 (a1))))))))).bind fun t453=>(soundservicelaw13_ClockSteady.j0 k a3 a4 (wrap64 (1+(wrap64 (a1)))) (wrap64 (Int.tmod a2 20)) (!t453) bt444.2.2)) else (soundservicelaw13_ClockSteady.j0 k a3 a4 (wrap64 (1+(wrap64 (a1)))) (wrap64 (Int.tmod a2 20)) true bt444.2.2))))) else (some false)))=some r:=h
 clear h
 replace H:=Option.bind_eq_some_iff.mp H
 obtain ⟨t441,A60,H⟩:=H
 replace H:(if t441=true then ((soundservicemade_New.f l0).bind fun t442=>((soundservicemade_Rate.f t442).bind fun bt444=>((clock_New.f k bt444.1 bt444.2.1).bind fun bt448=>(if bt448.2=0 then ((clock_Keeps.f k bt448.1 bt444.1 bt444.2.1 0 1 (wrap64 (1+(wrap64 (a1)))) 3 (wrap64 (3+(wrap64 ((wrap64 (Int.tmod a2 20)) * (wrap64 (1+(wrap64 (a1))))))))).bind fun t453=>(soundservicelaw13_ClockSteady.j0 k a3 a4 (wrap64 (1+(wrap64 (a1)))) (wrap64 (Int.tmod a2 20)) (!t453) bt444.2.2)) else (soundservicelaw13_ClockSteady.j0 k a3 a4 (wrap64 (1+(wrap64 (a1)))) (wrap64 (Int.tmod a2 20)) true bt444.2.2))))) else (some false))=some r:=H
 have A6:=Am A60
 clear A60
 by_cases c7:t441=true
 ·subst c7
  have H1:((soundservicemade_New.f l0).bind fun t442=>((soundservicemade_Rate.f t442).bind fun bt444=>((clock_New.f k bt444.1 bt444.2.1).bind fun bt448=>(if bt448.2=0 then ((clock_Keeps.f k bt448.1 bt444.1 bt444.2.1 0 1 (wrap64 (1+(wrap64 (a1)))) 3 (wrap64 (3+(wrap64 ((wrap64 (Int.tmod a2 20)) * (wrap64 (1+(wrap64 (a1))))))))).bind fun t453=>(soundservicelaw13_ClockSteady.j0 k a3 a4 (wrap64 (1+(wrap64 (a1)))) (wrap64 (Int.tmod a2 20)) (!t453) bt444.2.2)) else (soundservicelaw13_ClockSteady.j0 k a3 a4 (wrap64 (1+(wrap64 (a1)))) (wrap64 (Int.tmod a2 20)) true bt444.2.2)))))=some r:=by rw [if_pos rfl] at H;exact H
  clear H;have H:=H1;clear H1
  replace H:=Option.bind_eq_some_iff.mp H
  obtain ⟨t442,A80,H⟩:=H
  replace H:((soundservicemade_Rate.f t442).bind fun bt444=>((clock_New.f k bt444.1 bt444.2.1).bind fun bt448=>(if bt448.2=0 then ((clock_Keeps.f k bt448.1 bt444.1 bt444.2.1 0 1 (wrap64 (1+(wrap64 (a1)))) 3 (wrap64 (3+(wrap64 ((wrap64 (Int.tmod a2 20)) * (wrap64 (1+(wrap64 (a1))))))))).bind fun t453=>(soundservicelaw13_ClockSteady.j0 k a3 a4 (wrap64 (1+(wrap64 (a1)))) (wrap64 (Int.tmod a2 20)) (!t453) bt444.2.2)) else (soundservicelaw13_ClockSteady.j0 k a3 a4 (wrap64 (1+(wrap64 (a1)))) (wrap64 (Int.tmod a2 20)) true bt444.2.2))))=some r:=H
  have A8:=Am A80
  clear A80
  replace H:=Option.bind_eq_some_iff.mp H
  obtain ⟨⟨t444,t445,t446⟩,A90,H⟩:=H
  replace H:((clock_New.f k t444 t445).bind fun bt448=>(if bt448.2=0 then ((clock_Keeps.f k bt448.1 t444 t445 0 1 (wrap64 (1+(wrap64 (a1)))) 3 (wrap64 (3+(wrap64 ((wrap64 (Int.tmod a2 20)) * (wrap64 (1+(wrap64 (a1))))))))).bind fun t453=>(soundservicelaw13_ClockSteady.j0 k a3 a4 (wrap64 (1+(wrap64 (a1)))) (wrap64 (Int.tmod a2 20)) (!t453) t446)) else (soundservicelaw13_ClockSteady.j0 k a3 a4 (wrap64 (1+(wrap64 (a1)))) (wrap64 (Int.tmod a2 20)) true t446)))=some r:=H
  have A9:=Am A90
  clear A90
  replace H:=Option.bind_eq_some_iff.mp H
  obtain ⟨⟨t448,t451⟩,A100,H⟩:=H
  replace H:(if t451=0 then ((clock_Keeps.f k t448 t444 t445 0 1 (wrap64 (1+(wrap64 (a1)))) 3 (wrap64 (3+(wrap64 ((wrap64 (Int.tmod a2 20)) * (wrap64 (1+(wrap64 (a1))))))))).bind fun t453=>(soundservicelaw13_ClockSteady.j0 k a3 a4 (wrap64 (1+(wrap64 (a1)))) (wrap64 (Int.tmod a2 20)) (!t453) t446)) else (soundservicelaw13_ClockSteady.j0 k a3 a4 (wrap64 (1+(wrap64 (a1)))) (wrap64 (Int.tmod a2 20)) true t446))=some r:=H
  have A10:=Am A100
  clear A100
  have HC11:=Am H
  clear H
  go_enter Try.func8,Try.ntmps8
  go_upto_region 7 with (first|((with_reducible refine gate_callee (f:=9) rfl ?_);refine goesL_ (some 20) rfl rfl Try.func9 (by kernel_rfl) rfl #[] rfl (by (try simp only [List.map_toArray,List.map_cons,List.map_nil]);first|done|rfl|(simp only [List.length_drop,List.length_take];rfl)) ?_;(with_reducible refine (soundservicelaw13_sane.calls k  true _ A6.out).mono ?_);rintro e w12 ⟨rfl,hb⟩;refine ⟨_,rfl,?_⟩;have n0_:=Am (below_step (by repeat (first|(with_reducible first|exact HB.out|apply bA|apply bN|apply bD)|exact HB.out)) hb);clear HB;have HB:=n0_;clear n0_;(try clear hb);(try clear hb2);(try clear hk);(try clear hi))|((with_reducible refine gate_callee (f:=19) rfl ?_);refine goesL_ (some 23) rfl rfl Try.func19 (by kernel_rfl) rfl #[.slice A0 l0.length c0] rfl (by (try simp only [List.map_toArray,List.map_cons,List.map_nil]);first|done|rfl|(simp only [List.length_drop,List.length_take];rfl)) ?_;(with_reducible refine (soundservicemade_New.calls _ _ l0 t442 w _ ?side1 ?side2 ?side3 A8.out).mono ?_);(case side1=>repeat (first|(with_reducible first|exact HB.out|apply bA|apply bN|apply bD)|exact HB.out));(case side2=>exact HR0.out);(case side3=>exact HC0.out);rintro e w13 ⟨g443,rfl,hi,hb,hb2⟩;refine ⟨_,rfl,?_⟩;have n0_:=Am (hb);have n1_:=Am (hi);clear HB;have HB:=n0_;have HI443:=n1_;clear n0_ n1_;(try clear hb);(try clear hb2);(try clear hk);(try clear hi))|((with_reducible refine gate_callee (f:=20) rfl ?_);refine goesL_ (some 25) rfl rfl Try.func20 (by kernel_rfl) rfl #[.pointer (some ⟨g443,0,none⟩)] rfl (by (try simp only [List.map_toArray,List.map_cons,List.map_nil]);first|done|rfl|(simp only [List.length_drop,List.length_take];rfl)) ?_;(with_reducible refine (soundservicemade_Rate.calls g443 t442 t444 t445 t446 w _ ?side1 ?side2 A9.out).mono ?_);(case side1=>repeat (first|(with_reducible first|exact HI443.out|apply IsS63.alloc|apply IsS63.drewN|apply IsS63.drew)|exact HI443.out));(case side2=>repeat (first|(with_reducible first|exact HB.out|apply bA|apply bN|apply bD|refine bS ?_ (IsS63.ge HI443.out))|exact HB.out));rintro e w14 ⟨rfl,hi,hb,hk⟩;refine ⟨_,rfl,?_⟩;have n0_:=Am (hb);have n1_:=Am (hi);clear HB HI443;have HB:=n0_;have HI443:=n1_;clear n0_ n1_;(try clear hb);(try clear hb2);(try clear hk);(try clear hi))|((with_reducible refine gate_dst (N:=12) rfl ?_);refine box_event ?hg (N:=12) ?hd (cs:=#[.int .i64 0, .int .i64 0]) (t:=27) ?hr ?_;(case hd=>rfl);(case hg=>rfl);(case hr=>first|(go_simp;done)|(go_simp;rfl));intro gb447 hg w15 hbox hb;have n0_:=Am (IsS63.below (by repeat (first|(with_reducible first|exact HI443.out|apply IsS63.alloc|apply IsS63.drewN|apply IsS63.drew)|exact HI443.out)) hb);have n1_:=Am (below_step (by repeat (first|(with_reducible first|exact HB.out|apply bA|apply bN|apply bD|refine bS ?_ (IsS63.ge HI443.out))|exact HB.out)) hb);have n2_:=Am (hbox);have n3_:=Am ((by rw [hg];exact (below_size (by repeat (first|(with_reducible first|exact HB.out|apply bA|apply bN|apply bD|refine bS ?_ (IsS63.ge HI443.out))|exact HB.out))):w.heap.size≤gb447));have n4_:=Am ((by rw [hg];exact (below_size (by repeat (first|(with_reducible first|exact HB.out|apply bA|apply bN|apply bD|refine bS ?_ (IsS63.ge HI443.out))|exact HB.out))):w.heap.size≤gb447));have n5_:=Am ((by rw [hg];exact Nat.ne_of_lt (IsS63.lt (show IsS63 w _ g443 t446 from by repeat (first|(with_reducible first|exact HI443.out|apply IsS63.alloc|apply IsS63.drewN|apply IsS63.drew)|exact HI443.out))):g443≠gb447));have n6_:=Am (n5_.out.symm);clear HI443 HB;have HI443:=n0_;have HB:=n1_;have BK447:=n2_;have GW447:=n3_;have GE447:=n4_;have NB443_447:=n5_;have NB447_443:=n6_;clear n0_ n1_ n2_ n3_ n4_ n5_ n6_ hb hbox hg;have hnb16:=NB447_443.out;have hnc16:=NB443_447.out;have hcz17_0:w15.cell? ⟨gb447,0,none⟩=some (.int .i64 0):=(blk_cell BK447.out 0).trans rfl;have hcz17_1:w15.cell? ⟨gb447,1,none⟩=some (.int .i64 0):=(blk_cell BK447.out 1).trans rfl;have hfz17_0:=blk_frozen BK447.out 0;have hfz17_1:=blk_frozen BK447.out 1)|((with_reducible refine gate_callee (f:=11) rfl ?_);refine goesL_ (some 28) rfl rfl Try.func11 (by kernel_rfl) rfl #[.agg #[.int .i64 t444, .int .i64 t445]] rfl (by (try simp only [List.map_toArray,List.map_cons,List.map_nil]);first|done|rfl|(simp only [List.length_drop,List.length_take];rfl)) ?_;(with_reducible refine (clock_New.calls k t444 t445 t448 t451 _ A10.out).mono ?_);rintro e w18 ⟨v449,rfl,ho0,hb⟩;refine ⟨_,rfl,?_⟩;have n0_:=Am (Kd.R_lower ho0 (below_size (by repeat (first|(with_reducible first|exact HB.out|apply bA|apply bN|apply bD|refine bS ?_ (IsS63.ge HI443.out)|refine bS ?_ GE447.out)|exact HB.out))));have n1_:=Am (IsS63.below (show IsS63 w ((w15.setCell ⟨gb447,0,none⟩ (.int .i64 t444)).setCell ⟨gb447,1,none⟩ (.int .i64 t445)) g443 t446 from by repeat (first|(with_reducible first|exact HI443.out|apply IsS63.alloc|apply IsS63.drewN|apply IsS63.drew|refine IsS63.far ?_ NB443_447.out _)|exact HI443.out)) hb);have n2_:=Am (blk_below (g:=gb447) (o:=.cells #[.int .i64 t444, .int .i64 t445] 27 (0,0)) (by (with_reducible repeat first|apply kN|apply kD|apply kA);refine blk_put (cs:=#[.int .i64 t444, .int .i64 0]) ?_ 1 _ rfl;(with_reducible repeat first|apply kN|apply kD|apply kA);refine blk_put (cs:=#[.int .i64 0, .int .i64 0]) ?_ 0 _ rfl;(with_reducible repeat first|apply kN|apply kD|apply kA);exact BK447.out) hb);have n3_:=Am (below_step (by repeat (first|(with_reducible first|exact HB.out|apply bA|apply bN|apply bD|refine bS ?_ (IsS63.ge HI443.out)|refine bS ?_ GE447.out)|exact HB.out)) hb);clear HI443 BK447 HB;have HO450:=n0_;have HI443:=n1_;have BK447:=n2_;have HB:=n3_;clear n0_ n1_ n2_ n3_;(try clear hb);(try clear hb2);(try clear hk);(try clear hi);(try clear ho0))|((with_reducible refine gate_dst (N:=13) rfl ?_);refine box_event ?hg (N:=13) ?hd (cs:=#[.slice none 0 0]) (t:=24) ?hr ?_;(case hd=>rfl);(case hg=>rfl);(case hr=>first|(go_simp;done)|(go_simp;rfl));intro gb452 hg w19 hbox hb;have n0_:=Am (Kd.R_below (by (with_reducible repeat first|apply Kd.R_alloc|apply Kd.R_drewN|apply Kd.R_drew);exact HO450.out) hb);have n1_:=Am (IsS63.below (by repeat (first|(with_reducible first|exact HI443.out|apply IsS63.alloc|apply IsS63.drewN|apply IsS63.drew|refine IsS63.far ?_ NB443_447.out _)|exact HI443.out)) hb);have n2_:=Am (blk_below (g:=gb447) (o:=.cells #[.int .i64 t444, .int .i64 t445] 27 (0,0)) (by (with_reducible repeat first|apply kN|apply kD|apply kA);exact BK447.out) hb);have n3_:=Am (below_step (by repeat (first|(with_reducible first|exact HB.out|apply bA|apply bN|apply bD|refine bS ?_ (IsS63.ge HI443.out)|refine bS ?_ GE447.out)|exact HB.out)) hb);have n4_:=Am (hbox);have n5_:=Am ((by rw [hg];exact (below_size (by repeat (first|(with_reducible first|exact HB.out|apply bA|apply bN|apply bD|refine bS ?_ (IsS63.ge HI443.out)|refine bS ?_ GE447.out)|exact HB.out))):w.heap.size≤gb452));have n6_:=Am ((by rw [hg];exact (below_size (by repeat (first|(with_reducible first|exact HB.out|apply bA|apply bN|apply bD|refine bS ?_ (IsS63.ge HI443.out)|refine bS ?_ GE447.out)|exact HB.out))):w.heap.size≤gb452));have n7_:=Am ((by rw [hg];exact Nat.ne_of_lt (blk_lt (g:=gb447) (o:=.cells #[.int .i64 t444, .int .i64 t445] 27 (0,0)) (by (with_reducible repeat first|apply kN|apply kD|apply kA);exact BK447.out)):gb447≠gb452));have n8_:=Am (n7_.out.symm);have n9_:=Am ((by rw [hg];exact Nat.ne_of_lt (IsS63.lt (show IsS63 w _ g443 t446 from by repeat (first|(with_reducible first|exact HI443.out|apply IsS63.alloc|apply IsS63.drewN|apply IsS63.drew|refine IsS63.far ?_ NB443_447.out _)|exact HI443.out))):g443≠gb452));have n10_:=Am (n9_.out.symm);clear HO450 HI443 BK447 HB;have HO450:=n0_;have HI443:=n1_;have BK447:=n2_;have HB:=n3_;have BK452:=n4_;have GW452:=n5_;have GE452:=n6_;have NB447_452:=n7_;have NB452_447:=n8_;have NB443_452:=n9_;have NB452_443:=n10_;clear n0_ n1_ n2_ n3_ n4_ n5_ n6_ n7_ n8_ n9_ n10_ hb hbox hg;obtain ⟨Ao20,co20,eo20⟩:=Kd.R_slice HO450.out;subst eo20;have hnb21:=NB452_447.out;have hnc21:=NB447_452.out;have hnb22:=NB452_443.out;have hnc22:=NB443_452.out;have hcz23_0:w19.cell? ⟨gb452,0,none⟩=some (.slice none 0 0):=(blk_cell BK452.out 0).trans rfl;have hfz23_0:=blk_frozen BK452.out 0))
  (try simp only [pL])
  go_cut [49] (fun v49 wc=>∃ (kq:Nat) (x49_10:Bool),v49=.bool x49_10∧Aside0 (soundservicelaw13_ClockSteady.j0 kq a3 a4 (wrap64 (1+(wrap64 (a1)))) (wrap64 (Int.tmod a2 20)) x49_10 t446=some r)∧Aside0 (kq≤k)∧Aside0 (Kd.R k61 61 wc w.heap.size (fun _=>True) (.slice Ao20 t448.length co20) t448)∧Aside0 (wc.heap[gb447]?=some (.cells #[.int .i64 t444, .int .i64 t445] 27 (0,0)))∧Aside0 (wc.heap[gb452]?=some (.cells #[(.slice Ao20 t448.length co20)] 24 (0,0)))∧Aside0 (IsS63 w wc g443 t446)∧Aside0 (Below w.heap.size w wc))
  case first =>
   have H:=HC11.out
   clear HC11
   by_cases c24:t451=0
   ·rw [if_pos c24] at H
    have c24b0:(t451 == 0)=true:=beq_iff_eq.mpr c24
    have c24b1:(t451 != 0)=false:=bne_eq_false_iff_eq.mpr c24
    clear c24
    (first|rw [c24b0]|(simp only [i64_w,i32_w];rw [c24b0])|skip)
    replace H:=Option.bind_eq_some_iff.mp H
    obtain ⟨t453,A250,H⟩:=H
    replace H:(soundservicelaw13_ClockSteady.j0 k a3 a4 (wrap64 (1+(wrap64 (a1)))) (wrap64 (Int.tmod a2 20)) (!t453) t446)=some r:=H
    have A25:=Am A250
    clear A250
    have H':=Am H
    clear H
    have hnb26:=NB452_447.out
    have hnc26:=NB447_452.out
    have hnb27:=NB452_443.out
    have hnc27:=NB443_452.out
    have hcz28_0:w19.cell? ⟨gb452,0,none⟩=some (.slice none 0 0):=(blk_cell BK452.out 0).trans rfl
    have hfz28_0:=blk_frozen BK452.out 0
    have hnb29:=NB447_443.out
    have hnc29:=NB443_447.out
    have hcz30_0:w19.cell? ⟨gb447,0,none⟩=some (.int .i64 t444):=(blk_cell BK447.out 0).trans rfl
    have hcz30_1:w19.cell? ⟨gb447,1,none⟩=some (.int .i64 t445):=(blk_cell BK447.out 1).trans rfl
    have hfz30_0:=blk_frozen BK447.out 0
    have hfz30_1:=blk_frozen BK447.out 1
    go_wp2_with (first|(go_at_call 28;(with_reducible refine (clock_Keeps.calls k _ _ t448 t444 t445 0 1 (wrap64 (1+(wrap64 (a1)))) 3 (wrap64 (3+(wrap64 ((wrap64 (Int.tmod a2 20)) * (wrap64 (1+(wrap64 (a1)))))))) t453 _ ?side1 ?side2 A25.out).mono ?_);(case side1=>refine (Kd.R_reads' (e:=61) (base:=w.heap.size) (ok:=fun k_=>True) (n:=t448.length) (c:=co20) ?_).2.2;exact (by (with_reducible repeat first|apply Kd.R_alloc|apply Kd.R_drewN|apply Kd.R_drew);exact (Kd.R_mono (Kd.R_far (p:=⟨gb452,0,none⟩) (Kd.R_types HO450.out BK452.out (by decide)) (fun _ hk=>hk.2) (.slice Ao20 t448.length co20)) (fun _ h_=>h_.1))));(case side2=>exact (Kd.R_reads' HO450.out).2.1);rintro e w31 ⟨rfl,hb⟩;have n0_:=Am (Kd.R_below (by (with_reducible repeat first|apply Kd.R_alloc|apply Kd.R_drewN|apply Kd.R_drew);exact (Kd.R_mono (Kd.R_far (p:=⟨gb452,0,none⟩) (Kd.R_types HO450.out BK452.out (by decide)) (fun _ hk=>hk.2) (.slice Ao20 t448.length co20)) (fun _ h_=>h_.1))) hb);have n1_:=Am (IsS63.below (show IsS63 w (w19.setCell ⟨gb452,0,none⟩ (.slice Ao20 t448.length co20)) g443 t446 from by repeat (first|(with_reducible first|exact HI443.out|apply IsS63.alloc|apply IsS63.drewN|apply IsS63.drew|refine IsS63.far ?_ NB443_447.out _|refine IsS63.far ?_ NB443_452.out _)|exact HI443.out)) hb);have n2_:=Am (blk_below (g:=gb447) (o:=.cells #[.int .i64 t444, .int .i64 t445] 27 (0,0)) (by (with_reducible repeat first|apply kN|apply kD|apply kA);refine blk_far ?_ NB447_452.out _;(with_reducible repeat first|apply kN|apply kD|apply kA);exact BK447.out) hb);have n3_:=Am (blk_below (g:=gb452) (o:=.cells #[.slice Ao20 t448.length co20] 24 (0,0)) (by (with_reducible repeat first|apply kN|apply kD|apply kA);refine blk_put (cs:=#[.slice none 0 0]) ?_ 0 _ rfl;(with_reducible repeat first|apply kN|apply kD|apply kA);exact BK452.out) hb);have n4_:=Am (below_step (by repeat (first|(with_reducible first|exact HB.out|apply bA|apply bN|apply bD|refine bS ?_ (IsS63.ge HI443.out)|refine bS ?_ GE447.out|refine bS ?_ GE452.out)|exact HB.out)) hb);clear HO450 HI443 BK447 BK452 HB;have HO450:=n0_;have HI443:=n1_;have BK447:=n2_;have BK452:=n3_;have HB:=n4_;clear n0_ n1_ n2_ n3_ n4_;(try clear hb);(try clear hb2);(try clear hk);(try clear hi)))
    go_meet
    case rel=>exact ⟨_,(!t453),(by first|rfl|(simp;done)|(simp [*];done)),H',⟨by first|omega|exact Nat.le_refl _⟩,⟨by (with_reducible repeat first|apply Kd.R_alloc|apply Kd.R_drewN|apply Kd.R_drew);exact HO450.out⟩,⟨by (with_reducible repeat first|apply kN|apply kD|apply kA);exact BK447.out⟩,⟨by (with_reducible repeat first|apply kN|apply kD|apply kA);exact BK452.out⟩,⟨by repeat (first|(with_reducible first|exact HI443.out|apply IsS63.alloc|apply IsS63.drewN|apply IsS63.drew|refine IsS63.far ?_ NB443_447.out _|refine IsS63.far ?_ NB443_452.out _)|exact HI443.out)⟩,⟨by repeat (first|(with_reducible first|exact HB.out|apply bA|apply bN|apply bD|refine bS ?_ (IsS63.ge HI443.out)|refine bS ?_ GE447.out|refine bS ?_ GE452.out)|exact HB.out)⟩⟩
   ·rw [if_neg c24] at H
    have c24b0:(t451 == 0)=false:=beq_eq_false_iff_ne.mpr c24
    have c24b1:(t451 != 0)=true:=bne_iff_ne.mpr c24
    (first|rw [c24b0]|(simp only [i64_w,i32_w];rw [c24b0])|skip)
    have H':=Am H
    clear H
    go_wp2
    go_meet
    case rel=>exact ⟨_,(true),(by first|rfl|(simp;done)|(simp [*];done)),H',⟨by first|omega|exact Nat.le_refl _⟩,⟨by (with_reducible repeat first|apply Kd.R_alloc|apply Kd.R_drewN|apply Kd.R_drew);exact Kd.R_mono (Kd.R_far (p:=⟨gb452,0,none⟩) (Kd.R_types HO450.out BK452.out (by decide)) (fun _ hk=>hk.2) (.slice Ao20 t448.length co20)) (fun _ hk=>trivial)⟩,⟨by (with_reducible repeat first|apply kN|apply kD|apply kA);refine blk_far ?_ NB447_452.out _;(with_reducible repeat first|apply kN|apply kD|apply kA);exact BK447.out⟩,⟨by (with_reducible repeat first|apply kN|apply kD|apply kA);refine blk_put (cs:=#[.slice none 0 0]) ?_ 0 _ rfl;(with_reducible repeat first|apply kN|apply kD|apply kA);exact BK452.out⟩,⟨by repeat (first|(with_reducible first|exact HI443.out|apply IsS63.alloc|apply IsS63.drewN|apply IsS63.drew|refine IsS63.far ?_ NB443_447.out _|refine IsS63.far ?_ NB443_452.out _)|exact HI443.out)⟩,⟨by repeat (first|(with_reducible first|exact HB.out|apply bA|apply bN|apply bD|refine bS ?_ (IsS63.ge HI443.out)|refine bS ?_ GE447.out|refine bS ?_ GE452.out)|exact HB.out)⟩⟩
  case rest =>
   clear HC11;(try clear c1);(try clear c2);(try clear p2);(try clear p6);(try clear c7);(try clear c8);(try clear c9);(try clear c11);(try clear c16);(try clear c19);(try clear c20);(try clear c21);(try clear c22);(try clear c24);(try clear c24b0);(try clear c24b1);(try clear c26);(try clear c27);(try clear c29);(try clear hcz17_0);(try clear hcz17_1);(try clear hcz23_0);(try clear hcz28_0);(try clear hcz30_0);(try clear hcz30_1);(try clear hfz17_0);(try clear hfz17_1);(try clear hfz23_0);(try clear hfz28_0);(try clear hfz30_0);(try clear hfz30_1)
   obtain ⟨kq,x49_10,rfl,HA,HJ10,HO_453000,BK447,BK452,HI443,HB⟩:=hcut
   cases kq with
   | zero=>exact absurd HA.out (by simp [soundservicelaw13_ClockSteady.j0])
   | succ kj10 =>
    have H:=HA.out
    clear HA
    simp only [soundservicelaw13_ClockSteady.j0] at H
    by_cases c32:x49_10=true
    ·subst c32
     have H1:(some false)=some r:=by rw [if_pos rfl] at H;exact H
     clear H;have H:=H1;clear H1
     obtain rfl:=Option.some.inj H
     go_wp2
     go_ret
     exact ⟨by first|rfl|(simp [errW_none,errW_some] <;> rfl)|(simp [*,errW_none,errW_some] <;> rfl),by repeat (first|(with_reducible first|exact HB.out|apply bA|apply bN|apply bD|refine bS ?_ (IsS63.ge HI443.out)|refine bS ?_ GE447.out|refine bS ?_ GE452.out)|exact HB.out)⟩
    ·replace c32:=Bool.eq_false_iff.mpr c32
     subst c32
     have H1:((soundservicemade_Clock.f kj10 t446).bind fun bt454=>((soundserviceref03_Make.f kj10 1 1).bind fun bt459=>((clock_Keeps.f kj10 bt454.1 bt459.1 bt459.2.1 (wrap64 (a3)) 5 (wrap64 (1+(wrap64 (a1)))) 0 (wrap64 ((wrap64 (Int.tmod a2 20)) * (wrap64 (1+(wrap64 (a1))))))).bind fun t463=>(if t463=true then ((clock_Keeps.f kj10 bt454.1 bt459.1 bt459.2.1 (wrap64 ((wrap64 (a3))+(wrap64 (a4)))) 6 (wrap64 (1+(wrap64 (a1)))) 0 (wrap64 ((wrap64 (Int.tmod a2 20)) * (wrap64 (1+(wrap64 (a1))))))).bind fun t464=>(soundservicelaw13_ClockSteady.j1 kj10 t464)) else (soundservicelaw13_ClockSteady.j1 kj10 true)))))=some r:=by rw [if_neg (show ¬ (false=true) by decide)] at H;exact H
     clear H;have H:=H1;clear H1
     replace H:=Option.bind_eq_some_iff.mp H
     obtain ⟨⟨t454,t457⟩,A330,H⟩:=H
     replace H:((soundserviceref03_Make.f kj10 1 1).bind fun bt459=>((clock_Keeps.f kj10 t454 bt459.1 bt459.2.1 (wrap64 (a3)) 5 (wrap64 (1+(wrap64 (a1)))) 0 (wrap64 ((wrap64 (Int.tmod a2 20)) * (wrap64 (1+(wrap64 (a1))))))).bind fun t463=>(if t463=true then ((clock_Keeps.f kj10 t454 bt459.1 bt459.2.1 (wrap64 ((wrap64 (a3))+(wrap64 (a4)))) 6 (wrap64 (1+(wrap64 (a1)))) 0 (wrap64 ((wrap64 (Int.tmod a2 20)) * (wrap64 (1+(wrap64 (a1))))))).bind fun t464=>(soundservicelaw13_ClockSteady.j1 kj10 t464)) else (soundservicelaw13_ClockSteady.j1 kj10 true))))=some r:=H
     have A33:=Am A330
     clear A330
     replace H:=Option.bind_eq_some_iff.mp H
     obtain ⟨⟨t459,t460,t461⟩,A340,H⟩:=H
     replace H:((clock_Keeps.f kj10 t454 t459 t460 (wrap64 (a3)) 5 (wrap64 (1+(wrap64 (a1)))) 0 (wrap64 ((wrap64 (Int.tmod a2 20)) * (wrap64 (1+(wrap64 (a1))))))).bind fun t463=>(if t463=true then ((clock_Keeps.f kj10 t454 t459 t460 (wrap64 ((wrap64 (a3))+(wrap64 (a4)))) 6 (wrap64 (1+(wrap64 (a1)))) 0 (wrap64 ((wrap64 (Int.tmod a2 20)) * (wrap64 (1+(wrap64 (a1))))))).bind fun t464=>(soundservicelaw13_ClockSteady.j1 kj10 t464)) else (soundservicelaw13_ClockSteady.j1 kj10 true)))=some r:=H
     have A34:=Am A340
     clear A340
     have HC35:=Am H
     clear H
     go_upto_region 11 with (first|((with_reducible refine gate_callee (f:=29) rfl ?_);refine goesL_ (some 51) rfl rfl Try.func29 (by kernel_rfl) rfl #[.pointer (some ⟨g443,0,none⟩)] rfl (by (try simp only [List.map_toArray,List.map_cons,List.map_nil]);first|done|rfl|(simp only [List.length_drop,List.length_take];rfl)) ?_;(with_reducible refine (soundservicemade_Clock.calls kj10 g443 t446 t454 t457 w _ ?side1 ?side2 A33.out).mono ?_);(case side1=>repeat (first|(with_reducible first|exact HI443.out|apply IsS63.alloc|apply IsS63.drewN|apply IsS63.drew|refine IsS63.far ?_ NB443_447.out _|refine IsS63.far ?_ NB443_452.out _)|exact HI443.out));(case side2=>repeat (first|(with_reducible first|exact HB.out|apply bA|apply bN|apply bD|refine bS ?_ (IsS63.ge HI443.out)|refine bS ?_ GE447.out|refine bS ?_ GE452.out)|exact HB.out));rintro e w36 ⟨v455,rfl,ho0,hi,hb,hk⟩;refine ⟨_,rfl,?_⟩;have n0_:=Am (Kd.R_mono (Kd.R_told (Kd.R_oldK (IsS63.apart (show IsS63 w _ g443 t446 from by repeat (first|(with_reducible first|exact HI443.out|apply IsS63.alloc|apply IsS63.drewN|apply IsS63.drew|refine IsS63.far ?_ NB443_447.out _|refine IsS63.far ?_ NB443_452.out _)|exact HI443.out)) (by (with_reducible repeat first|apply Kd.R_alloc|apply Kd.R_drewN|apply Kd.R_drew);exact HO_453000.out) (by decide)) hk) (Kd.R_base ho0)) (fun _ h_=>h_.1));have n1_:=Am (KeepBut.blk hk (g':=gb447) (o:=.cells #[.int .i64 t444, .int .i64 t445] 27 (0,0)) (by (with_reducible repeat first|apply kN|apply kD|apply kA);exact BK447.out) NB447_443.out (by simp));have n2_:=Am (KeepBut.blk hk (g':=gb452) (o:=.cells #[.slice Ao20 t448.length co20] 24 (0,0)) (by (with_reducible repeat first|apply kN|apply kD|apply kA);exact BK452.out) NB452_443.out (by simp));have n3_:=Am (Kd.R_lower (Kd.R_new' ho0 (Kd.R_lt (by (with_reducible repeat first|apply Kd.R_alloc|apply Kd.R_drewN|apply Kd.R_drew);exact HO_453000.out))) (below_size (by repeat (first|(with_reducible first|exact HB.out|apply bA|apply bN|apply bD|refine bS ?_ (IsS63.ge HI443.out)|refine bS ?_ GE447.out|refine bS ?_ GE452.out)|exact HB.out))));have n4_:=Am (hb);have n5_:=Am (hi);clear HO_453000 BK447 BK452 HB HI443;have HO_453000:=n0_;have BK447:=n1_;have BK452:=n2_;have HO456:=n3_;have HB:=n4_;have HI443:=n5_;clear n0_ n1_ n2_ n3_ n4_ n5_;(try clear hb);(try clear hb2);(try clear hk);(try clear hi);(try clear ho0))|((with_reducible refine gate_dst (N:=17) rfl ?_);refine box_event ?hg (N:=17) ?hd (cs:=#[.slice none 0 0]) (t:=24) ?hr ?_;(case hd=>rfl);(case hg=>rfl);(case hr=>first|(go_simp;done)|(go_simp;rfl));intro gb458 hg w37 hbox hb;have n0_:=Am (Kd.R_below (by (with_reducible repeat first|apply Kd.R_alloc|apply Kd.R_drewN|apply Kd.R_drew);exact HO_453000.out) hb);have n1_:=Am (Kd.R_below (by (with_reducible repeat first|apply Kd.R_alloc|apply Kd.R_drewN|apply Kd.R_drew);exact HO456.out) hb);have n2_:=Am (blk_below (g:=gb447) (o:=.cells #[.int .i64 t444, .int .i64 t445] 27 (0,0)) (by (with_reducible repeat first|apply kN|apply kD|apply kA);exact BK447.out) hb);have n3_:=Am (blk_below (g:=gb452) (o:=.cells #[.slice Ao20 t448.length co20] 24 (0,0)) (by (with_reducible repeat first|apply kN|apply kD|apply kA);exact BK452.out) hb);have n4_:=Am (IsS63.below (by repeat (first|(with_reducible first|exact HI443.out|apply IsS63.alloc|apply IsS63.drewN|apply IsS63.drew|refine IsS63.far ?_ NB443_447.out _|refine IsS63.far ?_ NB443_452.out _)|exact HI443.out)) hb);have n5_:=Am (below_step (by repeat (first|(with_reducible first|exact HB.out|apply bA|apply bN|apply bD|refine bS ?_ (IsS63.ge HI443.out)|refine bS ?_ GE447.out|refine bS ?_ GE452.out)|exact HB.out)) hb);have n6_:=Am (hbox);have n7_:=Am ((by rw [hg];exact (below_size (by repeat (first|(with_reducible first|exact HB.out|apply bA|apply bN|apply bD|refine bS ?_ (IsS63.ge HI443.out)|refine bS ?_ GE447.out|refine bS ?_ GE452.out)|exact HB.out))):w.heap.size≤gb458));have n8_:=Am ((by rw [hg];exact (below_size (by repeat (first|(with_reducible first|exact HB.out|apply bA|apply bN|apply bD|refine bS ?_ (IsS63.ge HI443.out)|refine bS ?_ GE447.out|refine bS ?_ GE452.out)|exact HB.out))):w.heap.size≤gb458));have n9_:=Am ((by rw [hg];exact Nat.ne_of_lt (blk_lt (g:=gb447) (o:=.cells #[.int .i64 t444, .int .i64 t445] 27 (0,0)) (by (with_reducible repeat first|apply kN|apply kD|apply kA);exact BK447.out)):gb447≠gb458));have n10_:=Am (n9_.out.symm);have n11_:=Am ((by rw [hg];exact Nat.ne_of_lt (blk_lt (g:=gb452) (o:=.cells #[.slice Ao20 t448.length co20] 24 (0,0)) (by (with_reducible repeat first|apply kN|apply kD|apply kA);exact BK452.out)):gb452≠gb458));have n12_:=Am (n11_.out.symm);have n13_:=Am ((by rw [hg];exact Nat.ne_of_lt (IsS63.lt (show IsS63 w _ g443 t457 from by repeat (first|(with_reducible first|exact HI443.out|apply IsS63.alloc|apply IsS63.drewN|apply IsS63.drew|refine IsS63.far ?_ NB443_447.out _|refine IsS63.far ?_ NB443_452.out _)|exact HI443.out))):g443≠gb458));have n14_:=Am (n13_.out.symm);clear HO_453000 HO456 BK447 BK452 HI443 HB;have HO_453000:=n0_;have HO456:=n1_;have BK447:=n2_;have BK452:=n3_;have HI443:=n4_;have HB:=n5_;have BK458:=n6_;have GW458:=n7_;have GE458:=n8_;have NB447_458:=n9_;have NB458_447:=n10_;have NB452_458:=n11_;have NB458_452:=n12_;have NB443_458:=n13_;have NB458_443:=n14_;clear n0_ n1_ n2_ n3_ n4_ n5_ n6_ n7_ n8_ n9_ n10_ n11_ n12_ n13_ n14_ hb hbox hg;obtain ⟨Ao38,co38,eo38⟩:=Kd.R_slice HO456.out;subst eo38;have hnb39:=NB458_447.out;have hnc39:=NB447_458.out;have hnb40:=NB458_452.out;have hnc40:=NB452_458.out;have hnb41:=NB458_443.out;have hnc41:=NB443_458.out;have hcz42_0:w37.cell? ⟨gb458,0,none⟩=some (.slice none 0 0):=(blk_cell BK458.out 0).trans rfl;have hfz42_0:=blk_frozen BK458.out 0)|((with_reducible refine gate_callee (f:=22) rfl ?_);refine goesL_ (some 53) rfl rfl Try.func22 (by kernel_rfl) rfl #[.int .i64 1, .int .i64 1] rfl (by (try simp only [List.map_toArray,List.map_cons,List.map_nil]);first|done|rfl|(simp only [List.length_drop,List.length_take];rfl)) ?_;(with_reducible refine (soundserviceref03_Make.calls kj10 1 1 t459 t460 t461 _ A34.out).mono ?_);rintro e w43 ⟨rfl,hb⟩;refine ⟨_,rfl,?_⟩;have n0_:=Am (Kd.R_below (by (with_reducible repeat first|apply Kd.R_alloc|apply Kd.R_drewN|apply Kd.R_drew);exact (Kd.R_mono (Kd.R_far (p:=⟨gb458,0,none⟩) (Kd.R_types HO_453000.out BK458.out (by decide)) (fun _ hk=>hk.2) (.slice Ao38 t454.length co38)) (fun _ h_=>h_.1))) hb);have n1_:=Am (Kd.R_below (by (with_reducible repeat first|apply Kd.R_alloc|apply Kd.R_drewN|apply Kd.R_drew);exact (Kd.R_mono (Kd.R_far (p:=⟨gb458,0,none⟩) (Kd.R_types HO456.out BK458.out (by decide)) (fun _ hk=>hk.2) (.slice Ao38 t454.length co38)) (fun _ h_=>h_.1))) hb);have n2_:=Am (blk_below (g:=gb447) (o:=.cells #[.int .i64 t444, .int .i64 t445] 27 (0,0)) (by (with_reducible repeat first|apply kN|apply kD|apply kA);refine blk_far ?_ NB447_458.out _;(with_reducible repeat first|apply kN|apply kD|apply kA);exact BK447.out) hb);have n3_:=Am (blk_below (g:=gb452) (o:=.cells #[.slice Ao20 t448.length co20] 24 (0,0)) (by (with_reducible repeat first|apply kN|apply kD|apply kA);refine blk_far ?_ NB452_458.out _;(with_reducible repeat first|apply kN|apply kD|apply kA);exact BK452.out) hb);have n4_:=Am (IsS63.below (show IsS63 w (w37.setCell ⟨gb458,0,none⟩ (.slice Ao38 t454.length co38)) g443 t457 from by repeat (first|(with_reducible first|exact HI443.out|apply IsS63.alloc|apply IsS63.drewN|apply IsS63.drew|refine IsS63.far ?_ NB443_447.out _|refine IsS63.far ?_ NB443_452.out _|refine IsS63.far ?_ NB443_458.out _)|exact HI443.out)) hb);have n5_:=Am (blk_below (g:=gb458) (o:=.cells #[.slice Ao38 t454.length co38] 24 (0,0)) (by (with_reducible repeat first|apply kN|apply kD|apply kA);refine blk_put (cs:=#[.slice none 0 0]) ?_ 0 _ rfl;(with_reducible repeat first|apply kN|apply kD|apply kA);exact BK458.out) hb);have n6_:=Am (below_step (by repeat (first|(with_reducible first|exact HB.out|apply bA|apply bN|apply bD|refine bS ?_ (IsS63.ge HI443.out)|refine bS ?_ GE447.out|refine bS ?_ GE452.out|refine bS ?_ GE458.out)|exact HB.out)) hb);clear HO_453000 HO456 BK447 BK452 HI443 BK458 HB;have HO_453000:=n0_;have HO456:=n1_;have BK447:=n2_;have BK452:=n3_;have HI443:=n4_;have BK458:=n5_;have HB:=n6_;clear n0_ n1_ n2_ n3_ n4_ n5_ n6_;(try clear hb);(try clear hb2);(try clear hk);(try clear hi))|((with_reducible refine gate_dst (N:=18) rfl ?_);refine box_event ?hg (N:=18) ?hd (cs:=#[.int .i64 0, .int .i64 0]) (t:=27) ?hr ?_;(case hd=>rfl);(case hg=>rfl);(case hr=>first|(go_simp;done)|(go_simp;rfl));intro gb462 hg w44 hbox hb;have n0_:=Am (Kd.R_below (by (with_reducible repeat first|apply Kd.R_alloc|apply Kd.R_drewN|apply Kd.R_drew);exact HO_453000.out) hb);have n1_:=Am (Kd.R_below (by (with_reducible repeat first|apply Kd.R_alloc|apply Kd.R_drewN|apply Kd.R_drew);exact HO456.out) hb);have n2_:=Am (blk_below (g:=gb447) (o:=.cells #[.int .i64 t444, .int .i64 t445] 27 (0,0)) (by (with_reducible repeat first|apply kN|apply kD|apply kA);exact BK447.out) hb);have n3_:=Am (blk_below (g:=gb452) (o:=.cells #[.slice Ao20 t448.length co20] 24 (0,0)) (by (with_reducible repeat first|apply kN|apply kD|apply kA);exact BK452.out) hb);have n4_:=Am (IsS63.below (by repeat (first|(with_reducible first|exact HI443.out|apply IsS63.alloc|apply IsS63.drewN|apply IsS63.drew|refine IsS63.far ?_ NB443_447.out _|refine IsS63.far ?_ NB443_452.out _|refine IsS63.far ?_ NB443_458.out _)|exact HI443.out)) hb);have n5_:=Am (blk_below (g:=gb458) (o:=.cells #[.slice Ao38 t454.length co38] 24 (0,0)) (by (with_reducible repeat first|apply kN|apply kD|apply kA);exact BK458.out) hb);have n6_:=Am (below_step (by repeat (first|(with_reducible first|exact HB.out|apply bA|apply bN|apply bD|refine bS ?_ (IsS63.ge HI443.out)|refine bS ?_ GE447.out|refine bS ?_ GE452.out|refine bS ?_ GE458.out)|exact HB.out)) hb);have n7_:=Am (hbox);have n8_:=Am ((by rw [hg];exact (below_size (by repeat (first|(with_reducible first|exact HB.out|apply bA|apply bN|apply bD|refine bS ?_ (IsS63.ge HI443.out)|refine bS ?_ GE447.out|refine bS ?_ GE452.out|refine bS ?_ GE458.out)|exact HB.out))):w.heap.size≤gb462));have n9_:=Am ((by rw [hg];exact (below_size (by repeat (first|(with_reducible first|exact HB.out|apply bA|apply bN|apply bD|refine bS ?_ (IsS63.ge HI443.out)|refine bS ?_ GE447.out|refine bS ?_ GE452.out|refine bS ?_ GE458.out)|exact HB.out))):w.heap.size≤gb462));have n10_:=Am ((by rw [hg];exact Nat.ne_of_lt (blk_lt (g:=gb447) (o:=.cells #[.int .i64 t444, .int .i64 t445] 27 (0,0)) (by (with_reducible repeat first|apply kN|apply kD|apply kA);exact BK447.out)):gb447≠gb462));have n11_:=Am (n10_.out.symm);have n12_:=Am ((by rw [hg];exact Nat.ne_of_lt (blk_lt (g:=gb452) (o:=.cells #[.slice Ao20 t448.length co20] 24 (0,0)) (by (with_reducible repeat first|apply kN|apply kD|apply kA);exact BK452.out)):gb452≠gb462));have n13_:=Am (n12_.out.symm);have n14_:=Am ((by rw [hg];exact Nat.ne_of_lt (blk_lt (g:=gb458) (o:=.cells #[.slice Ao38 t454.length co38] 24 (0,0)) (by (with_reducible repeat first|apply kN|apply kD|apply kA);exact BK458.out)):gb458≠gb462));have n15_:=Am (n14_.out.symm);have n16_:=Am ((by rw [hg];exact Nat.ne_of_lt (IsS63.lt (show IsS63 w _ g443 t457 from by repeat (first|(with_reducible first|exact HI443.out|apply IsS63.alloc|apply IsS63.drewN|apply IsS63.drew|refine IsS63.far ?_ NB443_447.out _|refine IsS63.far ?_ NB443_452.out _|refine IsS63.far ?_ NB443_458.out _)|exact HI443.out))):g443≠gb462));have n17_:=Am (n16_.out.symm);clear HO_453000 HO456 BK447 BK452 HI443 BK458 HB;have HO_453000:=n0_;have HO456:=n1_;have BK447:=n2_;have BK452:=n3_;have HI443:=n4_;have BK458:=n5_;have HB:=n6_;have BK462:=n7_;have GW462:=n8_;have GE462:=n9_;have NB447_462:=n10_;have NB462_447:=n11_;have NB452_462:=n12_;have NB462_452:=n13_;have NB458_462:=n14_;have NB462_458:=n15_;have NB443_462:=n16_;have NB462_443:=n17_;clear n0_ n1_ n2_ n3_ n4_ n5_ n6_ n7_ n8_ n9_ n10_ n11_ n12_ n13_ n14_ n15_ n16_ n17_ hb hbox hg;have hnb45:=NB462_447.out;have hnc45:=NB447_462.out;have hnb46:=NB462_452.out;have hnc46:=NB452_462.out;have hnb47:=NB462_458.out;have hnc47:=NB458_462.out;have hnb48:=NB462_443.out;have hnc48:=NB443_462.out;have hcz49_0:w44.cell? ⟨gb462,0,none⟩=some (.int .i64 0):=(blk_cell BK462.out 0).trans rfl;have hcz49_1:w44.cell? ⟨gb462,1,none⟩=some (.int .i64 0):=(blk_cell BK462.out 1).trans rfl;have hfz49_0:=blk_frozen BK462.out 0;have hfz49_1:=blk_frozen BK462.out 1))
     (try simp only [pL])
     go_cut [10] (fun v10 wc=>∃ (kq:Nat) (x10_34:Bool),v10=.bool x10_34∧Aside0 (soundservicelaw13_ClockSteady.j2 kq x10_34=some r)∧Aside0 (kq≤kj10)∧Aside0 (Kd.R k61 61 wc w.heap.size (fun k_=>some k_≠((.slice Ao38 t454.length co38):Value).ownBlock) (.slice Ao20 t448.length co20) t448)∧Aside0 (Kd.R k61 61 wc w.heap.size (fun k_=>some k_≠((.slice Ao20 t448.length co20):Value).ownBlock) (.slice Ao38 t454.length co38) t454)∧Aside0 (wc.heap[gb447]?=some (.cells #[.int .i64 t444, .int .i64 t445] 27 (0,0)))∧Aside0 (wc.heap[gb452]?=some (.cells #[(.slice Ao20 t448.length co20)] 24 (0,0)))∧Aside0 (wc.heap[gb458]?=some (.cells #[(.slice Ao38 t454.length co38)] 24 (0,0)))∧Aside0 (wc.heap[gb462]?=some (.cells #[.int .i64 t459, .int .i64 t460] 27 (0,0)))∧Aside0 (Below w.heap.size w wc))
     case first =>
      have H:=HC35.out
      clear HC35
      have HC50:=Am H
      clear H
      go_upto_region 11 with (fail)
      go_cut [10] (fun v10 wc=>∃ (kq:Nat) (x10_49:Bool),v10=.bool x10_49∧Aside0 (soundservicelaw13_ClockSteady.j1 kq x10_49=some r)∧Aside0 (kq≤kj10)∧Aside0 (Kd.R k61 61 wc w.heap.size (fun k_=>some k_≠((.slice Ao38 t454.length co38):Value).ownBlock) (.slice Ao20 t448.length co20) t448)∧Aside0 (Kd.R k61 61 wc w.heap.size (fun k_=>some k_≠((.slice Ao20 t448.length co20):Value).ownBlock) (.slice Ao38 t454.length co38) t454)∧Aside0 (wc.heap[gb447]?=some (.cells #[.int .i64 t444, .int .i64 t445] 27 (0,0)))∧Aside0 (wc.heap[gb452]?=some (.cells #[(.slice Ao20 t448.length co20)] 24 (0,0)))∧Aside0 (wc.heap[gb458]?=some (.cells #[(.slice Ao38 t454.length co38)] 24 (0,0)))∧Aside0 (wc.heap[gb462]?=some (.cells #[.int .i64 t459, .int .i64 t460] 27 (0,0)))∧Aside0 (Below w.heap.size w wc))
      case first =>
       have H:=HC50.out
       clear HC50
       replace H:=Option.bind_eq_some_iff.mp H
       obtain ⟨t463,A510,H⟩:=H
       replace H:(if t463=true then ((clock_Keeps.f kj10 t454 t459 t460 (wrap64 ((wrap64 (a3))+(wrap64 (a4)))) 6 (wrap64 (1+(wrap64 (a1)))) 0 (wrap64 ((wrap64 (Int.tmod a2 20)) * (wrap64 (1+(wrap64 (a1))))))).bind fun t464=>(soundservicelaw13_ClockSteady.j1 kj10 t464)) else (soundservicelaw13_ClockSteady.j1 kj10 true))=some r:=H
       have A51:=Am A510
       clear A510
       by_cases c52:t463=true
       ·subst c52
        have H1:((clock_Keeps.f kj10 t454 t459 t460 (wrap64 ((wrap64 (a3))+(wrap64 (a4)))) 6 (wrap64 (1+(wrap64 (a1)))) 0 (wrap64 ((wrap64 (Int.tmod a2 20)) * (wrap64 (1+(wrap64 (a1))))))).bind fun t464=>(soundservicelaw13_ClockSteady.j1 kj10 t464))=some r:=by rw [if_pos rfl] at H;exact H
        clear H;have H:=H1;clear H1
        replace H:=Option.bind_eq_some_iff.mp H
        obtain ⟨t464,A530,H⟩:=H
        replace H:(soundservicelaw13_ClockSteady.j1 kj10 t464)=some r:=H
        have A53:=Am A530
        clear A530
        have H':=Am H
        clear H
        have hnb54:=NB458_447.out
        have hnc54:=NB447_458.out
        have hnb55:=NB458_452.out
        have hnc55:=NB452_458.out
        have hnb56:=NB458_462.out
        have hnc56:=NB462_458.out
        have hnb57:=NB458_443.out
        have hnc57:=NB443_458.out
        have hcz58_0:w44.cell? ⟨gb458,0,none⟩=some (.slice Ao38 t454.length co38):=(blk_cell BK458.out 0).trans rfl
        have hfz58_0:=blk_frozen BK458.out 0
        have hnb59:=NB462_447.out
        have hnc59:=NB447_462.out
        have hnb60:=NB462_452.out
        have hnc60:=NB452_462.out
        have hnb61:=NB462_443.out
        have hnc61:=NB443_462.out
        have hcz62_0:w44.cell? ⟨gb462,0,none⟩=some (.int .i64 0):=(blk_cell BK462.out 0).trans rfl
        have hcz62_1:w44.cell? ⟨gb462,1,none⟩=some (.int .i64 0):=(blk_cell BK462.out 1).trans rfl
        have hfz62_0:=blk_frozen BK462.out 0
        have hfz62_1:=blk_frozen BK462.out 1
        go_wp2_with (first|((with_reducible refine gate_callee (f:=28) rfl ?_);refine goesL_ (some 64) rfl rfl Try.func28 (by kernel_rfl) rfl #[.agg #[.slice Ao38 t454.length co38], .agg #[.int .i64 t459, .int .i64 t460], .int .i64 (wrap64 (a3)), .int .i64 5, .int .i64 (wrap64 (1+(wrap64 (a1)))), .int .i64 0, .int .i64 (wrap64 ((wrap64 (Int.tmod a2 20)) * (wrap64 (1+(wrap64 (a1))))))] rfl (by (try simp only [List.map_toArray,List.map_cons,List.map_nil]);first|done|rfl|(simp only [List.length_drop,List.length_take];rfl)) ?_;(with_reducible refine (clock_Keeps.calls kj10 _ _ t454 t459 t460 (wrap64 (a3)) 5 (wrap64 (1+(wrap64 (a1)))) 0 (wrap64 ((wrap64 (Int.tmod a2 20)) * (wrap64 (1+(wrap64 (a1)))))) true _ ?side1 ?side2 A51.out).mono ?_);(case side1=>refine (Kd.R_reads' (e:=61) (base:=w.heap.size) (ok:=fun k_=>(True∧some k_≠(.slice Ao20 t448.length co20:Value).ownBlock)) (n:=t454.length) (c:=co38) ?_).2.2;exact (by (with_reducible repeat first|apply Kd.R_alloc|apply Kd.R_drewN|apply Kd.R_drew);exact (Kd.R_mono (Kd.R_far (p:=⟨gb462,1,none⟩) (Kd.R_far (p:=⟨gb462,0,none⟩) (Kd.R_types HO456.out BK462.out (by decide)) (fun _ hk=>hk.2) (.int .i64 t459)) (fun _ hk=>hk.2) (.int .i64 t460)) (fun _ h_=>h_.1))));(case side2=>exact (Kd.R_reads' HO456.out).2.1);rintro e w63 ⟨rfl,hb⟩;refine ⟨_,rfl,?_⟩;have n0_:=Am (Kd.R_below (by (with_reducible repeat first|apply Kd.R_alloc|apply Kd.R_drewN|apply Kd.R_drew);exact (Kd.R_mono (Kd.R_far (p:=⟨gb462,1,none⟩) (Kd.R_far (p:=⟨gb462,0,none⟩) (Kd.R_types HO_453000.out BK462.out (by decide)) (fun _ hk=>hk.2) (.int .i64 t459)) (fun _ hk=>hk.2) (.int .i64 t460)) (fun _ h_=>h_.1))) hb);have n1_:=Am (Kd.R_below (by (with_reducible repeat first|apply Kd.R_alloc|apply Kd.R_drewN|apply Kd.R_drew);exact (Kd.R_mono (Kd.R_far (p:=⟨gb462,1,none⟩) (Kd.R_far (p:=⟨gb462,0,none⟩) (Kd.R_types HO456.out BK462.out (by decide)) (fun _ hk=>hk.2) (.int .i64 t459)) (fun _ hk=>hk.2) (.int .i64 t460)) (fun _ h_=>h_.1))) hb);have n2_:=Am (blk_below (g:=gb447) (o:=.cells #[.int .i64 t444, .int .i64 t445] 27 (0,0)) (by (with_reducible repeat first|apply kN|apply kD|apply kA);refine blk_far ?_ NB447_462.out _;(with_reducible repeat first|apply kN|apply kD|apply kA);refine blk_far ?_ NB447_462.out _;(with_reducible repeat first|apply kN|apply kD|apply kA);exact BK447.out) hb);have n3_:=Am (blk_below (g:=gb452) (o:=.cells #[.slice Ao20 t448.length co20] 24 (0,0)) (by (with_reducible repeat first|apply kN|apply kD|apply kA);refine blk_far ?_ NB452_462.out _;(with_reducible repeat first|apply kN|apply kD|apply kA);refine blk_far ?_ NB452_462.out _;(with_reducible repeat first|apply kN|apply kD|apply kA);exact BK452.out) hb);have n4_:=Am (IsS63.below (show IsS63 w ((w44.setCell ⟨gb462,0,none⟩ (.int .i64 t459)).setCell ⟨gb462,1,none⟩ (.int .i64 t460)) g443 t457 from by repeat (first|(with_reducible first|exact HI443.out|apply IsS63.alloc|apply IsS63.drewN|apply IsS63.drew|refine IsS63.far ?_ NB443_447.out _|refine IsS63.far ?_ NB443_452.out _|refine IsS63.far ?_ NB443_458.out _|refine IsS63.far ?_ NB443_462.out _)|exact HI443.out)) hb);have n5_:=Am (blk_below (g:=gb458) (o:=.cells #[.slice Ao38 t454.length co38] 24 (0,0)) (by (with_reducible repeat first|apply kN|apply kD|apply kA);refine blk_far ?_ NB458_462.out _;(with_reducible repeat first|apply kN|apply kD|apply kA);refine blk_far ?_ NB458_462.out _;(with_reducible repeat first|apply kN|apply kD|apply kA);exact BK458.out) hb);have n6_:=Am (blk_below (g:=gb462) (o:=.cells #[.int .i64 t459, .int .i64 t460] 27 (0,0)) (by (with_reducible repeat first|apply kN|apply kD|apply kA);refine blk_put (cs:=#[.int .i64 t459, .int .i64 0]) ?_ 1 _ rfl;(with_reducible repeat first|apply kN|apply kD|apply kA);refine blk_put (cs:=#[.int .i64 0, .int .i64 0]) ?_ 0 _ rfl;(with_reducible repeat first|apply kN|apply kD|apply kA);exact BK462.out) hb);have n7_:=Am (below_step (by repeat (first|(with_reducible first|exact HB.out|apply bA|apply bN|apply bD|refine bS ?_ (IsS63.ge HI443.out)|refine bS ?_ GE447.out|refine bS ?_ GE452.out|refine bS ?_ GE458.out|refine bS ?_ GE462.out)|exact HB.out)) hb);clear HO_453000 HO456 BK447 BK452 HI443 BK458 BK462 HB;have HO_453000:=n0_;have HO456:=n1_;have BK447:=n2_;have BK452:=n3_;have HI443:=n4_;have BK458:=n5_;have BK462:=n6_;have HB:=n7_;clear n0_ n1_ n2_ n3_ n4_ n5_ n6_ n7_;(try clear hb);(try clear hb2);(try clear hk);(try clear hi);have hcz64_0:w63.cell? ⟨gb458,0,none⟩=some (.slice Ao38 t454.length co38):=(blk_cell BK458.out 0).trans rfl;have hfz64_0:=blk_frozen BK458.out 0;have hcz65_0:w63.cell? ⟨gb462,0,none⟩=some (.int .i64 t459):=(blk_cell BK462.out 0).trans rfl;have hcz65_1:w63.cell? ⟨gb462,1,none⟩=some (.int .i64 t460):=(blk_cell BK462.out 1).trans rfl;have hfz65_0:=blk_frozen BK462.out 0;have hfz65_1:=blk_frozen BK462.out 1)|(go_at_call 28;(with_reducible refine (clock_Keeps.calls kj10 _ _ t454 t459 t460 (wrap64 ((wrap64 (a3))+(wrap64 (a4)))) 6 (wrap64 (1+(wrap64 (a1)))) 0 (wrap64 ((wrap64 (Int.tmod a2 20)) * (wrap64 (1+(wrap64 (a1)))))) t464 _ ?side1 ?side2 A53.out).mono ?_);(case side1=>repeat (first|exact (Kd.R_reads' HO456.out).2.2|(with_reducible refine Kd.C_alloc ?_ _)|(with_reducible refine Kd.C_drewN ?_ _)|(with_reducible refine Kd.C_drew ?_)));(case side2=>exact (Kd.R_reads' HO456.out).2.1);rintro e w66 ⟨rfl,hb⟩;have n0_:=Am (Kd.R_below (by (with_reducible repeat first|apply Kd.R_alloc|apply Kd.R_drewN|apply Kd.R_drew);exact HO_453000.out) hb);have n1_:=Am (Kd.R_below (by (with_reducible repeat first|apply Kd.R_alloc|apply Kd.R_drewN|apply Kd.R_drew);exact HO456.out) hb);have n2_:=Am (blk_below (g:=gb447) (o:=.cells #[.int .i64 t444, .int .i64 t445] 27 (0,0)) (by (with_reducible repeat first|apply kN|apply kD|apply kA);exact BK447.out) hb);have n3_:=Am (blk_below (g:=gb452) (o:=.cells #[.slice Ao20 t448.length co20] 24 (0,0)) (by (with_reducible repeat first|apply kN|apply kD|apply kA);exact BK452.out) hb);have n4_:=Am (IsS63.below (by repeat (first|(with_reducible first|exact HI443.out|apply IsS63.alloc|apply IsS63.drewN|apply IsS63.drew|refine IsS63.far ?_ NB443_447.out _|refine IsS63.far ?_ NB443_452.out _|refine IsS63.far ?_ NB443_458.out _|refine IsS63.far ?_ NB443_462.out _)|exact HI443.out)) hb);have n5_:=Am (blk_below (g:=gb458) (o:=.cells #[.slice Ao38 t454.length co38] 24 (0,0)) (by (with_reducible repeat first|apply kN|apply kD|apply kA);exact BK458.out) hb);have n6_:=Am (blk_below (g:=gb462) (o:=.cells #[.int .i64 t459, .int .i64 t460] 27 (0,0)) (by (with_reducible repeat first|apply kN|apply kD|apply kA);exact BK462.out) hb);have n7_:=Am (below_step (by repeat (first|(with_reducible first|exact HB.out|apply bA|apply bN|apply bD|refine bS ?_ (IsS63.ge HI443.out)|refine bS ?_ GE447.out|refine bS ?_ GE452.out|refine bS ?_ GE458.out|refine bS ?_ GE462.out)|exact HB.out)) hb);clear HO_453000 HO456 BK447 BK452 HI443 BK458 BK462 HB;have HO_453000:=n0_;have HO456:=n1_;have BK447:=n2_;have BK452:=n3_;have HI443:=n4_;have BK458:=n5_;have BK462:=n6_;have HB:=n7_;clear n0_ n1_ n2_ n3_ n4_ n5_ n6_ n7_;(try clear hb);(try clear hb2);(try clear hk);(try clear hi)))
        go_meet
        case rel=>exact ⟨_,(t464),(by first|rfl|(simp;done)|(simp [*];done)),H',⟨by have:=HJ10.out;first|omega|exact Nat.le_refl _⟩,⟨by (with_reducible repeat first|apply Kd.R_alloc|apply Kd.R_drewN|apply Kd.R_drew);exact Kd.R_mono HO_453000.out (fun _ hk=>by first|exact hk.2|trivial)⟩,⟨by (with_reducible repeat first|apply Kd.R_alloc|apply Kd.R_drewN|apply Kd.R_drew);exact Kd.R_mono HO456.out (fun _ hk=>by first|exact hk.2|trivial)⟩,⟨by (with_reducible repeat first|apply kN|apply kD|apply kA);exact BK447.out⟩,⟨by (with_reducible repeat first|apply kN|apply kD|apply kA);exact BK452.out⟩,⟨by (with_reducible repeat first|apply kN|apply kD|apply kA);exact BK458.out⟩,⟨by (with_reducible repeat first|apply kN|apply kD|apply kA);exact BK462.out⟩,⟨by repeat (first|(with_reducible first|exact HB.out|apply bA|apply bN|apply bD|refine bS ?_ (IsS63.ge HI443.out)|refine bS ?_ GE447.out|refine bS ?_ GE452.out|refine bS ?_ GE458.out|refine bS ?_ GE462.out)|exact HB.out)⟩⟩
       ·replace c52:=Bool.eq_false_iff.mpr c52
        subst c52
        have H1:(soundservicelaw13_ClockSteady.j1 kj10 true)=some r:=by rw [if_neg (show ¬ (false=true) by decide)] at H;exact H
        clear H;have H:=H1;clear H1
        have H':=Am H
        clear H
        have hnb67:=NB458_447.out
        have hnc67:=NB447_458.out
        have hnb68:=NB458_452.out
        have hnc68:=NB452_458.out
        have hnb69:=NB458_462.out
        have hnc69:=NB462_458.out
        have hnb70:=NB458_443.out
        have hnc70:=NB443_458.out
        have hcz71_0:w44.cell? ⟨gb458,0,none⟩=some (.slice Ao38 t454.length co38):=(blk_cell BK458.out 0).trans rfl
        have hfz71_0:=blk_frozen BK458.out 0
        have hnb72:=NB462_447.out
        have hnc72:=NB447_462.out
        have hnb73:=NB462_452.out
        have hnc73:=NB452_462.out
        have hnb74:=NB462_443.out
        have hnc74:=NB443_462.out
        have hcz75_0:w44.cell? ⟨gb462,0,none⟩=some (.int .i64 0):=(blk_cell BK462.out 0).trans rfl
        have hcz75_1:w44.cell? ⟨gb462,1,none⟩=some (.int .i64 0):=(blk_cell BK462.out 1).trans rfl
        have hfz75_0:=blk_frozen BK462.out 0
        have hfz75_1:=blk_frozen BK462.out 1
        go_wp2_with (first|((with_reducible refine gate_callee (f:=28) rfl ?_);refine goesL_ (some 64) rfl rfl Try.func28 (by kernel_rfl) rfl #[.agg #[.slice Ao38 t454.length co38], .agg #[.int .i64 t459, .int .i64 t460], .int .i64 (wrap64 (a3)), .int .i64 5, .int .i64 (wrap64 (1+(wrap64 (a1)))), .int .i64 0, .int .i64 (wrap64 ((wrap64 (Int.tmod a2 20)) * (wrap64 (1+(wrap64 (a1))))))] rfl (by (try simp only [List.map_toArray,List.map_cons,List.map_nil]);first|done|rfl|(simp only [List.length_drop,List.length_take];rfl)) ?_;(with_reducible refine (clock_Keeps.calls kj10 _ _ t454 t459 t460 (wrap64 (a3)) 5 (wrap64 (1+(wrap64 (a1)))) 0 (wrap64 ((wrap64 (Int.tmod a2 20)) * (wrap64 (1+(wrap64 (a1)))))) false _ ?side1 ?side2 A51.out).mono ?_);(case side1=>refine (Kd.R_reads' (e:=61) (base:=w.heap.size) (ok:=fun k_=>(True∧some k_≠(.slice Ao20 t448.length co20:Value).ownBlock)) (n:=t454.length) (c:=co38) ?_).2.2;exact (by (with_reducible repeat first|apply Kd.R_alloc|apply Kd.R_drewN|apply Kd.R_drew);exact (Kd.R_mono (Kd.R_far (p:=⟨gb462,1,none⟩) (Kd.R_far (p:=⟨gb462,0,none⟩) (Kd.R_types HO456.out BK462.out (by decide)) (fun _ hk=>hk.2) (.int .i64 t459)) (fun _ hk=>hk.2) (.int .i64 t460)) (fun _ h_=>h_.1))));(case side2=>exact (Kd.R_reads' HO456.out).2.1);rintro e w76 ⟨rfl,hb⟩;refine ⟨_,rfl,?_⟩;have n0_:=Am (Kd.R_below (by (with_reducible repeat first|apply Kd.R_alloc|apply Kd.R_drewN|apply Kd.R_drew);exact (Kd.R_mono (Kd.R_far (p:=⟨gb462,1,none⟩) (Kd.R_far (p:=⟨gb462,0,none⟩) (Kd.R_types HO_453000.out BK462.out (by decide)) (fun _ hk=>hk.2) (.int .i64 t459)) (fun _ hk=>hk.2) (.int .i64 t460)) (fun _ h_=>h_.1))) hb);have n1_:=Am (Kd.R_below (by (with_reducible repeat first|apply Kd.R_alloc|apply Kd.R_drewN|apply Kd.R_drew);exact (Kd.R_mono (Kd.R_far (p:=⟨gb462,1,none⟩) (Kd.R_far (p:=⟨gb462,0,none⟩) (Kd.R_types HO456.out BK462.out (by decide)) (fun _ hk=>hk.2) (.int .i64 t459)) (fun _ hk=>hk.2) (.int .i64 t460)) (fun _ h_=>h_.1))) hb);have n2_:=Am (blk_below (g:=gb447) (o:=.cells #[.int .i64 t444, .int .i64 t445] 27 (0,0)) (by (with_reducible repeat first|apply kN|apply kD|apply kA);refine blk_far ?_ NB447_462.out _;(with_reducible repeat first|apply kN|apply kD|apply kA);refine blk_far ?_ NB447_462.out _;(with_reducible repeat first|apply kN|apply kD|apply kA);exact BK447.out) hb);have n3_:=Am (blk_below (g:=gb452) (o:=.cells #[.slice Ao20 t448.length co20] 24 (0,0)) (by (with_reducible repeat first|apply kN|apply kD|apply kA);refine blk_far ?_ NB452_462.out _;(with_reducible repeat first|apply kN|apply kD|apply kA);refine blk_far ?_ NB452_462.out _;(with_reducible repeat first|apply kN|apply kD|apply kA);exact BK452.out) hb);have n4_:=Am (IsS63.below (show IsS63 w ((w44.setCell ⟨gb462,0,none⟩ (.int .i64 t459)).setCell ⟨gb462,1,none⟩ (.int .i64 t460)) g443 t457 from by repeat (first|(with_reducible first|exact HI443.out|apply IsS63.alloc|apply IsS63.drewN|apply IsS63.drew|refine IsS63.far ?_ NB443_447.out _|refine IsS63.far ?_ NB443_452.out _|refine IsS63.far ?_ NB443_458.out _|refine IsS63.far ?_ NB443_462.out _)|exact HI443.out)) hb);have n5_:=Am (blk_below (g:=gb458) (o:=.cells #[.slice Ao38 t454.length co38] 24 (0,0)) (by (with_reducible repeat first|apply kN|apply kD|apply kA);refine blk_far ?_ NB458_462.out _;(with_reducible repeat first|apply kN|apply kD|apply kA);refine blk_far ?_ NB458_462.out _;(with_reducible repeat first|apply kN|apply kD|apply kA);exact BK458.out) hb);have n6_:=Am (blk_below (g:=gb462) (o:=.cells #[.int .i64 t459, .int .i64 t460] 27 (0,0)) (by (with_reducible repeat first|apply kN|apply kD|apply kA);refine blk_put (cs:=#[.int .i64 t459, .int .i64 0]) ?_ 1 _ rfl;(with_reducible repeat first|apply kN|apply kD|apply kA);refine blk_put (cs:=#[.int .i64 0, .int .i64 0]) ?_ 0 _ rfl;(with_reducible repeat first|apply kN|apply kD|apply kA);exact BK462.out) hb);have n7_:=Am (below_step (by repeat (first|(with_reducible first|exact HB.out|apply bA|apply bN|apply bD|refine bS ?_ (IsS63.ge HI443.out)|refine bS ?_ GE447.out|refine bS ?_ GE452.out|refine bS ?_ GE458.out|refine bS ?_ GE462.out)|exact HB.out)) hb);clear HO_453000 HO456 BK447 BK452 HI443 BK458 BK462 HB;have HO_453000:=n0_;have HO456:=n1_;have BK447:=n2_;have BK452:=n3_;have HI443:=n4_;have BK458:=n5_;have BK462:=n6_;have HB:=n7_;clear n0_ n1_ n2_ n3_ n4_ n5_ n6_ n7_;(try clear hb);(try clear hb2);(try clear hk);(try clear hi)))
        go_meet
        case rel=>exact ⟨_,(true),(by first|rfl|(simp;done)|(simp [*];done)),H',⟨by have:=HJ10.out;first|omega|exact Nat.le_refl _⟩,⟨by (with_reducible repeat first|apply Kd.R_alloc|apply Kd.R_drewN|apply Kd.R_drew);exact Kd.R_mono HO_453000.out (fun _ hk=>by first|exact hk.2|trivial)⟩,⟨by (with_reducible repeat first|apply Kd.R_alloc|apply Kd.R_drewN|apply Kd.R_drew);exact Kd.R_mono HO456.out (fun _ hk=>by first|exact hk.2|trivial)⟩,⟨by (with_reducible repeat first|apply kN|apply kD|apply kA);exact BK447.out⟩,⟨by (with_reducible repeat first|apply kN|apply kD|apply kA);exact BK452.out⟩,⟨by (with_reducible repeat first|apply kN|apply kD|apply kA);exact BK458.out⟩,⟨by (with_reducible repeat first|apply kN|apply kD|apply kA);exact BK462.out⟩,⟨by repeat (first|(with_reducible first|exact HB.out|apply bA|apply bN|apply bD|refine bS ?_ (IsS63.ge HI443.out)|refine bS ?_ GE447.out|refine bS ?_ GE452.out|refine bS ?_ GE458.out|refine bS ?_ GE462.out)|exact HB.out)⟩⟩
      case rest =>
       clear HC50;(try clear c1);(try clear c2);(try clear p2);(try clear c3);(try clear c4);(try clear c5);(try clear c6);(try clear p6);(try clear c7);(try clear c8);(try clear c9);(try clear c11);(try clear c16);(try clear c19);(try clear c20);(try clear c21);(try clear c22);(try clear c24);(try clear c24b0);(try clear c24b1);(try clear c26);(try clear c27);(try clear c28);(try clear c29);(try clear c32);(try clear c39);(try clear c40);(try clear c41);(try clear c45);(try clear c46);(try clear c47);(try clear c48);(try clear c52);(try clear c54);(try clear c55);(try clear c56);(try clear c57);(try clear c59);(try clear c60);(try clear c61);(try clear p64);(try clear c67);(try clear c68);(try clear c69);(try clear c70);(try clear c72);(try clear c73);(try clear c74);(try clear hcz17_0);(try clear hcz17_1);(try clear hcz23_0);(try clear hcz28_0);(try clear hcz30_0);(try clear hcz30_1);(try clear hcz42_0);(try clear hcz49_0);(try clear hcz49_1);(try clear hcz58_0);(try clear hcz62_0);(try clear hcz62_1);(try clear hcz64_0);(try clear hcz65_0);(try clear hcz65_1);(try clear hcz71_0);(try clear hcz75_0);(try clear hcz75_1);(try clear hfz17_0);(try clear hfz17_1);(try clear hfz23_0);(try clear hfz28_0);(try clear hfz30_0);(try clear hfz30_1);(try clear hfz42_0);(try clear hfz49_0);(try clear hfz49_1);(try clear hfz58_0);(try clear hfz62_0);(try clear hfz62_1);(try clear hfz64_0);(try clear hfz65_0);(try clear hfz65_1);(try clear hfz71_0);(try clear hfz75_0);(try clear hfz75_1);(try clear p2);(try clear p6)
       obtain ⟨kq,x10_49,rfl,HA,HJ49,HO_453000,HO_459000,BK447,BK452,BK458,BK462,HB⟩:=hcut
       cases kq with
       | zero=>exact absurd HA.out (by simp [soundservicelaw13_ClockSteady.j1])
       | succ kj49 =>
        have H:=HA.out
        clear HA
        simp only [soundservicelaw13_ClockSteady.j1] at H
        have H':=Am H
        clear H
        go_wp2
        go_meet
        case rel=>exact ⟨_,(x10_49),(by first|rfl|(simp;done)|(simp [*];done)),H',⟨by have:=HJ10.out;have:=HJ49.out;first|omega|exact Nat.le_refl _⟩,⟨by (with_reducible repeat first|apply Kd.R_alloc|apply Kd.R_drewN|apply Kd.R_drew);exact HO_453000.out⟩,⟨by (with_reducible repeat first|apply Kd.R_alloc|apply Kd.R_drewN|apply Kd.R_drew);exact HO_459000.out⟩,⟨by (with_reducible repeat first|apply kN|apply kD|apply kA);exact BK447.out⟩,⟨by (with_reducible repeat first|apply kN|apply kD|apply kA);exact BK452.out⟩,⟨by (with_reducible repeat first|apply kN|apply kD|apply kA);exact BK458.out⟩,⟨by (with_reducible repeat first|apply kN|apply kD|apply kA);exact BK462.out⟩,⟨by repeat (first|(with_reducible first|exact HB.out|apply bA|apply bN|apply bD|refine bS ?_ GE447.out|refine bS ?_ GE452.out|refine bS ?_ GE458.out|refine bS ?_ GE462.out)|exact HB.out)⟩⟩
     case rest =>
      clear HC35;(try clear c1);(try clear c2);(try clear p2);(try clear c3);(try clear c4);(try clear c5);(try clear c6);(try clear p6);(try clear c7);(try clear c8);(try clear c9);(try clear c11);(try clear c16);(try clear c19);(try clear c20);(try clear c21);(try clear c22);(try clear c24);(try clear c24b0);(try clear c24b1);(try clear c26);(try clear c27);(try clear c28);(try clear c29);(try clear c32);(try clear c39);(try clear c40);(try clear c41);(try clear c45);(try clear c46);(try clear c47);(try clear c48);(try clear c52);(try clear c54);(try clear c55);(try clear c56);(try clear c57);(try clear c59);(try clear c60);(try clear c61);(try clear p64);(try clear c67);(try clear c68);(try clear c69);(try clear c70);(try clear c72);(try clear c73);(try clear c74);(try clear hcz17_0);(try clear hcz17_1);(try clear hcz23_0);(try clear hcz28_0);(try clear hcz30_0);(try clear hcz30_1);(try clear hcz42_0);(try clear hcz49_0);(try clear hcz49_1);(try clear hcz58_0);(try clear hcz62_0);(try clear hcz62_1);(try clear hcz64_0);(try clear hcz65_0);(try clear hcz65_1);(try clear hcz71_0);(try clear hcz75_0);(try clear hcz75_1);(try clear hfz17_0);(try clear hfz17_1);(try clear hfz23_0);(try clear hfz28_0);(try clear hfz30_0);(try clear hfz30_1);(try clear hfz42_0);(try clear hfz49_0);(try clear hfz49_1);(try clear hfz58_0);(try clear hfz62_0);(try clear hfz62_1);(try clear hfz64_0);(try clear hfz65_0);(try clear hfz65_1);(try clear hfz71_0);(try clear hfz75_0);(try clear hfz75_1);(try clear p2);(try clear p6);(try clear p64)
      obtain ⟨kq,x10_34,rfl,HA,HJ34,HO_453000,HO_459000,BK447,BK452,BK458,BK462,HB⟩:=hcut
      cases kq with
      | zero=>exact absurd HA.out (by simp [soundservicelaw13_ClockSteady.j2])
      | succ kj34 =>
       have H:=HA.out
       clear HA
       simp only [soundservicelaw13_ClockSteady.j2] at H
       obtain rfl:=Option.some.inj H
       go_wp2
       go_ret
       exact ⟨by first|rfl|(simp [errW_none,errW_some] <;> rfl)|(simp [*,errW_none,errW_some] <;> rfl),by repeat (first|(with_reducible first|exact HB.out|apply bA|apply bN|apply bD|refine bS ?_ GE447.out|refine bS ?_ GE452.out|refine bS ?_ GE458.out|refine bS ?_ GE462.out)|exact HB.out)⟩
 ·replace c7:=Bool.eq_false_iff.mpr c7
  subst c7
  have H1:(some false)=some r:=by rw [if_neg (show ¬ (false=true) by decide)] at H;exact H
  clear H;have H:=H1;clear H1
  obtain rfl:=Option.some.inj H
  go_enter Try.func8,Try.ntmps8
  go_wp2_with (first|((with_reducible refine gate_callee (f:=9) rfl ?_);refine goesL_ (some 20) rfl rfl Try.func9 (by kernel_rfl) rfl #[] rfl (by (try simp only [List.map_toArray,List.map_cons,List.map_nil]);first|done|rfl|(simp only [List.length_drop,List.length_take];rfl)) ?_;(with_reducible refine (soundservicelaw13_sane.calls k  false _ A6.out).mono ?_);rintro e w77 ⟨rfl,hb⟩;refine ⟨_,rfl,?_⟩;have n0_:=Am (below_step (by repeat (first|(with_reducible first|exact HB.out|apply bA|apply bN|apply bD)|exact HB.out)) hb);clear HB;have HB:=n0_;clear n0_;(try clear hb);(try clear hb2);(try clear hk);(try clear hi)))
  go_ret
  exact ⟨by first|rfl|(simp [errW_none,errW_some] <;> rfl)|(simp [*,errW_none,errW_some] <;> rfl),by repeat (first|(with_reducible first|exact HB.out|apply bA|apply bN|apply bD)|exact HB.out)⟩

/-- THE ONE PURE STATEMENT of soundservicelaw13_ClockSteady: yours. -/
def soundservicelaw13_ClockSteady.Pure:Prop:=∀ (l0:List Int) (a1:Int) (a2:Int) (a3:Int) (a4:Int),l0.length≤maxLen→l0.length * 1≤140737488351232→(∀ x ∈ l0,(Lit.int .u8 x).wf=true)→(Lit.int .u8 a1).wf=true→(Lit.int .u8 a2).wf=true→(Lit.int .u8 a3).wf=true→(Lit.int .u8 a4).wf=true→∃ k,soundservicelaw13_ClockSteady.f k l0 a1 a2 a3 a4=some true
theorem soundservicelaw13_ClockSteady.walk (P:soundservicelaw13_ClockSteady.Pure) (a0:Option Addr) (len0 cap0:Nat) (z0:List Int) (a1:Int) (a2:Int) (a3:Int) (a4:Int) (w:World) (w0:(a0=none∧len0=0∧cap0=0∧z0=[]) ∨ ∃ x,a0=some x∧len0≤cap0∧cap0≤maxLen∧z0.length=cap0∧(∀ i,i < z0.length→w.cell? (x.add i)=some (.int .u8 (z0.getD i 0)))∧∀ n ∈ z0,(Lit.int .u8 n).wf=true) (y0:len0 * 1≤140737488351232) (w1:(Lit.int .u8 a1).wf=true) (w2:(Lit.int .u8 a2).wf=true) (w3:(Lit.int .u8 a3).wf=true) (w4:(Lit.int .u8 a4).wf=true) :
  Calls Try.prog 8 #[.slice a0 len0 cap0, .int .u8 a1, .int .u8 a2, .int .u8 a3, .int .u8 a4] w fun e w'=>e=.returned (.bool true)∧Below w.heap.size w w':=by
 obtain ⟨l0,rfl,hr0,hm0,hw0,hc0⟩:=ReadsInt.ofRowC w0
 obtain ⟨k,h⟩:=P l0 a1 a2 a3 a4 hm0 y0 hw0 w1 w2 w3 w4
 refine (soundservicelaw13_ClockSteady.calls k _ _ l0 a1 a2 a3 a4 true w (Kd.C_of_reads (d:=(0:Int)) (h1:=fun _=>rfl) hr0) hc0 h).mono ?_
 rintro e w' ⟨rfl,hd⟩
 exact ⟨rfl,hd⟩

end Go.Proofs.Ythnmmiofhjbkeaa.PA
