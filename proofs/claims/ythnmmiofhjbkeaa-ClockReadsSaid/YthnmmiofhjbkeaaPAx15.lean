/- Walks of functions of the program: each does what its Lean function says. Written by a program of this session (wip/xprint), which runs the printer of the kit with changes. -/
import Derived.Test.YthnmmiofhjbkeaaPAx0
import Derived.Test.YthnmmiofhjbkeaaPAx12
import Derived.Test.YthnmmiofhjbkeaaPAx13
namespace Go.Proofs.Ythnmmiofhjbkeaa.PA
open Go.RowKit Go.Proofs.YthnmmiofhjbkeaaW.PrintWords Go.Proofs.YthnmmiofhjbkeaaW.PrintLast Go.Proofs.YthnmmiofhjbkeaaW.PrintMore
attribute [local go_sem] max2_int min2_int max_two min_two max_three min_three max_four min_four   -- for this text's walks alone
set_option linter.unusedVariables false
set_option linter.unusedSimpArgs false

/-! ### soundserviceref13_Change: function 16 -/
def soundserviceref13_Change.j0:Nat→Int→Bool→List (S61)→Int→Int→Option ((List (S61)) × Int)
 | 0,_,_,_,_,_=>none
 | k+1,x1,x13,x215000,x216000,x216001=>if x13=true then (some (([]:List (S61)),2)) else ((soundserviceref13_rate.f k x216000 x216001).bind fun t219=>(if t219=true then (if (x215000.length:Int) ≥ 64 then (some (([]:List (S61)),3)) else (if ([]:List (S61)).length+x215000.length < 5864062014805 then ((some (([]:List (S61)) ++ x215000:List (S61))).bind fun y220=>((some (([(⟨x1,(⟨x216000,x216001⟩:S27)⟩:S61)]:List (S61)):List (S61))).bind fun y223=>(if y220.length+y223.length < 5864062014805 then (some ((y220 ++ y223),0)) else (none)))) else (none))) else (some (([]:List (S61)),1))))
def soundserviceref13_Change.f (k:Nat) (l0_0:List (S61)) (a1:Int) (a2_0:Int) (a2_1:Int):Option ((List (S61)) × Int):=(soundserviceref13_Valid.f k l0_0).bind fun t217=>(if t217=true then (if 0≤(wrap64 ((l0_0.length:Int) - 1)) then (if (wrap64 ((l0_0.length:Int) - 1)) < (l0_0.length:Int) then (if a1≤((rd_T61 l0_0 (wrap64 ((l0_0.length:Int) - 1))).f0) then (soundserviceref13_Change.j0 k a1 true l0_0 a2_0 a2_1) else (soundserviceref13_Change.j0 k a1 (decide (a1 > 1099511627776)) l0_0 a2_0 a2_1)) else (none)) else (none)) else (some (([]:List (S61)),1)))
theorem soundserviceref13_Change.mono_l:∀ k,(∀ y0 y1 y2 y3 y4,LeO (soundserviceref13_Change.j0 k y0 y1 y2 y3 y4) (soundserviceref13_Change.j0 (k+1) y0 y1 y2 y3 y4))
 | 0=>fun _ _ _ _ _ r h=>by simp [soundserviceref13_Change.j0] at h
 | k+1=>by
  have ih0:=soundserviceref13_Change.mono_l k
  ·intro y0 y1 y2 y3 y4
   unfold soundserviceref13_Change.j0
   repeat' first
   | (with_reducible exact ih0 _ _ _ _ _)
   | (with_reducible exact soundserviceref13_Valid.mono _ _)
   | (with_reducible exact soundserviceref13_rate.mono _ _ _)
   | (with_reducible exact LeO.refl _)
   | (with_reducible exact LeO.none _)
   | (with_reducible refine LeO.ite ?_ ?_)
   | (with_reducible refine LeO.bind ?_ (fun _=>?_))
   | exact ih0 _ _ _ _ _
   | exact soundserviceref13_Valid.mono _ _
   | exact soundserviceref13_rate.mono _ _ _
   | exact LeO.none _
   | refine LeO.ite ?_ ?_
   | refine LeO.bind ?_ (fun _=>?_)
theorem soundserviceref13_Change.mono:∀ a0 a1 a2 a3 k,LeO (soundserviceref13_Change.f k a0 a1 a2 a3) (soundserviceref13_Change.f (k+1) a0 a1 a2 a3):=by
 intro a0 a1 a2 a3 k
 have ih0:=soundserviceref13_Change.mono_l k
 unfold soundserviceref13_Change.f
 repeat' first
   | (with_reducible exact ih0 _ _ _ _ _)
   | (with_reducible exact soundserviceref13_Valid.mono _ _)
   | (with_reducible exact soundserviceref13_rate.mono _ _ _)
   | (with_reducible exact LeO.refl _)
   | (with_reducible exact LeO.none _)
   | (with_reducible refine LeO.ite ?_ ?_)
   | (with_reducible refine LeO.bind ?_ (fun _=>?_))
   | exact ih0 _ _ _ _ _
   | exact soundserviceref13_Valid.mono _ _
   | exact soundserviceref13_rate.mono _ _ _
   | exact LeO.none _
   | refine LeO.ite ?_ ?_
   | refine LeO.bind ?_ (fun _=>?_)
def soundserviceref13_Change.T9:Bool × List (List Nat × List Nat):=(true, [([], []),([0], [0]),([1], [1]),([], []),([], []),([3,4], [3,4]),([5], [5]),([2,6,2], [2,6]),([7], [7]),([8,7,0,1,2,3,4,5,6,7,8], [8]),([9,0,1,2,3,4,5,6,7,8,9], [])])
def soundserviceref13_Change.B9:List Nat:=[0,1,3,0,0,24,56,127,255,511,1023]
theorem soundserviceref13_Change.tab9:rtab .any (opsOf Try.f16 9)=soundserviceref13_Change.T9:=by kernel_rfl
theorem soundserviceref13_Change.bits9:waitsOk soundserviceref13_Change.T9.2 soundserviceref13_Change.B9=true:=by kernel_rfl
abbrev soundserviceref13_Change.q0:Array Bool:=#[false,false,false,false,false,false,false,false,false,false,false]
abbrev soundserviceref13_Change.q1:Array Bool:=#[true,false,false,false,false,false,false,false,false,false,false]
abbrev soundserviceref13_Change.q2:Array Bool:=#[true,false,false,true,false,false,false,false,false,false,false]
abbrev soundserviceref13_Change.q3:Array Bool:=#[true,true,false,true,false,false,false,false,false,false,false]
abbrev soundserviceref13_Change.q4:Array Bool:=#[true,true,false,true,true,false,false,false,false,false,false]
abbrev soundserviceref13_Change.q5:Array Bool:=#[true,true,false,true,true,true,false,false,false,false,false]
abbrev soundserviceref13_Change.q6:Array Bool:=#[true,true,true,true,true,true,true,false,false,false,false]
abbrev soundserviceref13_Change.q7:Array Bool:=#[true,true,true,true,true,true,false,false,false,false,false]
abbrev soundserviceref13_Change.q8:Array Bool:=#[true,true,false,true,true,true,true,false,false,false,false]
abbrev soundserviceref13_Change.q9:Array Bool:=#[true,true,true,true,true,true,true,true,false,false,false]
abbrev soundserviceref13_Change.q10:Array Bool:=#[true,true,true,true,true,true,true,true,true,false,false]
abbrev soundserviceref13_Change.q11:Array Bool:=#[true,true,true,true,true,true,true,true,true,true,false]
abbrev soundserviceref13_Change.q12:Array Bool:=#[true,true,true,true,true,true,true,true,true,true,true]
set_option maxHeartbeats 8000000 in
set_option maxRecDepth 100000 in
theorem soundserviceref13_Change.calls (k:Nat) (A0_0:Option Addr) (c0_0:Nat) (l0_0:List (S61)) (a1:Int) (a2_0:Int) (a2_1:Int) (r1:List (S61)) (r2:Int) (w:World) (hr0_0:Kd.C k61 w A0_0 l0_0.length l0_0) (hc0_0:l0_0.length≤c0_0) (h:soundserviceref13_Change.f k l0_0 a1 a2_0 a2_1=some (r1,r2)) :
  Calls Try.prog 16 #[.agg #[.slice A0_0 l0_0.length c0_0], .int .i64 a1, .agg #[.int .i64 a2_0, .int .i64 a2_1]] w fun e w'=>∃ v0_:Value,e=.returned (.tuple #[.agg #[v0_], .int .i64 r2])∧Kd.R k61 61 w' w.heap.size (fun _=>True) v0_ r1∧Below w.heap.size w w':=by
 have hu24:=Try.underlying24
 have hu27:=Try.underlying27
 have hu61:=Try.underlying61
 have HR0_0:=Am hr0_0
 have HC0_0:=Am hc0_0
 clear hr0_0 hc0_0
 have HB:=Am (Below.refl w.heap.size w)
 have H:((soundserviceref13_Valid.f k l0_0).bind fun t217=>(if t217=true then (if 0≤(wrap64 ((l0_0.length:Int) - 1)) then (if (wrap64 ((l0_0.length:Int) - 1)) < (l0_0.length:Int) then (if a1≤((rd_T61 l0_0 (wrap64 ((l0_0.length:Int) - 1))).f0) then (soundserviceref13_Change.j0 k a1 true l0_0 a2_0 a2_1) else (soundserviceref13_Change.j0 k a1 (decide (a1 > 1099511627776)) l0_0 a2_0 a2_1)) else (none)) else (none)) else (some (([]:List (S61)),1))))=some (r1,r2):=h
 clear h
 replace H:=Option.bind_eq_some_iff.mp H
 obtain ⟨t217,A40,H⟩:=H
 replace H:(if t217=true then (if 0≤(wrap64 ((l0_0.length:Int) - 1)) then (if (wrap64 ((l0_0.length:Int) - 1)) < (l0_0.length:Int) then (if a1≤((rd_T61 l0_0 (wrap64 ((l0_0.length:Int) - 1))).f0) then (soundserviceref13_Change.j0 k a1 true l0_0 a2_0 a2_1) else (soundserviceref13_Change.j0 k a1 (decide (a1 > 1099511627776)) l0_0 a2_0 a2_1)) else (none)) else (none)) else (some (([]:List (S61)),1)))=some (r1,r2):=H
 have A4:=Am A40
 clear A40
 by_cases c5:t217=true
 ·subst c5
  have H1:(if 0≤(wrap64 ((l0_0.length:Int) - 1)) then (if (wrap64 ((l0_0.length:Int) - 1)) < (l0_0.length:Int) then (if a1≤((rd_T61 l0_0 (wrap64 ((l0_0.length:Int) - 1))).f0) then (soundserviceref13_Change.j0 k a1 true l0_0 a2_0 a2_1) else (soundserviceref13_Change.j0 k a1 (decide (a1 > 1099511627776)) l0_0 a2_0 a2_1)) else (none)) else (none))=some (r1,r2):=by rw [if_pos rfl] at H;exact H
  clear H;have H:=H1;clear H1
  have HC6:=Am H
  clear H
  go_enter Try.func16,Try.ntmps16
  go_upto_region 3 with (first|((with_reducible refine gate_dst (N:=3) rfl ?_);refine box_event ?hg (N:=3) ?hd (cs:=#[.slice A0_0 l0_0.length c0_0]) (t:=24) ?hr ?_;(case hd=>rfl);(case hg=>rfl);(case hr=>first|(go_simp;done)|(go_simp;rfl));intro gb214 hg w7 hbox hb;have n0_:=Am (below_step (by repeat (first|(with_reducible first|exact HB.out|apply bA|apply bN|apply bD)|exact HB.out)) hb);have n1_:=Am (hbox);have n2_:=Am ((by rw [hg];exact (below_size (by repeat (first|(with_reducible first|exact HB.out|apply bA|apply bN|apply bD)|exact HB.out))):w.heap.size≤gb214));have n3_:=Am ((by rw [hg];exact (below_size (by repeat (first|(with_reducible first|exact HB.out|apply bA|apply bN|apply bD)|exact HB.out))):w.heap.size≤gb214));clear HB;have HB:=n0_;have BK214:=n1_;have GW214:=n2_;have GE214:=n3_;clear n0_ n1_ n2_ n3_ hb hbox hg)|((with_reducible refine gate_dst (N:=5) rfl ?_);refine box_event ?hg (N:=5) ?hd (cs:=#[.int .i64 a2_0, .int .i64 a2_1]) (t:=27) ?hr ?_;(case hd=>rfl);(case hg=>rfl);(case hr=>first|(go_simp;done)|(go_simp;rfl));intro gb215 hg w8 hbox hb;have n0_:=Am (blk_below (g:=gb214) (o:=.cells #[.slice A0_0 l0_0.length c0_0] 24 (0,0)) (by (with_reducible repeat first|apply kN|apply kD|apply kA);exact BK214.out) hb);have n1_:=Am (below_step (by repeat (first|(with_reducible first|exact HB.out|apply bA|apply bN|apply bD|refine bS ?_ GE214.out)|exact HB.out)) hb);have n2_:=Am (hbox);have n3_:=Am ((by rw [hg];exact (below_size (by repeat (first|(with_reducible first|exact HB.out|apply bA|apply bN|apply bD|refine bS ?_ GE214.out)|exact HB.out))):w.heap.size≤gb215));have n4_:=Am ((by rw [hg];exact (below_size (by repeat (first|(with_reducible first|exact HB.out|apply bA|apply bN|apply bD|refine bS ?_ GE214.out)|exact HB.out))):w.heap.size≤gb215));have n5_:=Am ((by rw [hg];exact Nat.ne_of_lt (blk_lt (g:=gb214) (o:=.cells #[.slice A0_0 l0_0.length c0_0] 24 (0,0)) (by (with_reducible repeat first|apply kN|apply kD|apply kA);exact BK214.out)):gb214≠gb215));have n6_:=Am (n5_.out.symm);clear BK214 HB;have BK214:=n0_;have HB:=n1_;have BK215:=n2_;have GW215:=n3_;have GE215:=n4_;have NB214_215:=n5_;have NB215_214:=n6_;clear n0_ n1_ n2_ n3_ n4_ n5_ n6_ hb hbox hg)|((with_reducible refine gate_dst (N:=6) rfl ?_);refine box_event ?hg (N:=6) ?hd (cs:=#[.slice none 0 0]) (t:=24) ?hr ?_;(case hd=>rfl);(case hg=>rfl);(case hr=>first|(go_simp;done)|(go_simp;rfl));intro gb216 hg w9 hbox hb;have n0_:=Am (blk_below (g:=gb214) (o:=.cells #[.slice A0_0 l0_0.length c0_0] 24 (0,0)) (by (with_reducible repeat first|apply kN|apply kD|apply kA);exact BK214.out) hb);have n1_:=Am (blk_below (g:=gb215) (o:=.cells #[.int .i64 a2_0, .int .i64 a2_1] 27 (0,0)) (by (with_reducible repeat first|apply kN|apply kD|apply kA);exact BK215.out) hb);have n2_:=Am (below_step (by repeat (first|(with_reducible first|exact HB.out|apply bA|apply bN|apply bD|refine bS ?_ GE214.out|refine bS ?_ GE215.out)|exact HB.out)) hb);have n3_:=Am (hbox);have n4_:=Am ((by rw [hg];exact (below_size (by repeat (first|(with_reducible first|exact HB.out|apply bA|apply bN|apply bD|refine bS ?_ GE214.out|refine bS ?_ GE215.out)|exact HB.out))):w.heap.size≤gb216));have n5_:=Am ((by rw [hg];exact (below_size (by repeat (first|(with_reducible first|exact HB.out|apply bA|apply bN|apply bD|refine bS ?_ GE214.out|refine bS ?_ GE215.out)|exact HB.out))):w.heap.size≤gb216));have n6_:=Am ((by rw [hg];exact Nat.ne_of_lt (blk_lt (g:=gb214) (o:=.cells #[.slice A0_0 l0_0.length c0_0] 24 (0,0)) (by (with_reducible repeat first|apply kN|apply kD|apply kA);exact BK214.out)):gb214≠gb216));have n7_:=Am (n6_.out.symm);have n8_:=Am ((by rw [hg];exact Nat.ne_of_lt (blk_lt (g:=gb215) (o:=.cells #[.int .i64 a2_0, .int .i64 a2_1] 27 (0,0)) (by (with_reducible repeat first|apply kN|apply kD|apply kA);exact BK215.out)):gb215≠gb216));have n9_:=Am (n8_.out.symm);clear BK214 BK215 HB;have BK214:=n0_;have BK215:=n1_;have HB:=n2_;have BK216:=n3_;have GW216:=n4_;have GE216:=n5_;have NB214_216:=n6_;have NB216_214:=n7_;have NB215_216:=n8_;have NB216_215:=n9_;clear n0_ n1_ n2_ n3_ n4_ n5_ n6_ n7_ n8_ n9_ hb hbox hg;have hnb10:=NB214_215.out;have hnc10:=NB215_214.out;have hnb11:=NB214_216.out;have hnc11:=NB216_214.out;have hcz12_0:w9.cell? ⟨gb214,0,none⟩=some (.slice A0_0 l0_0.length c0_0):=(blk_cell BK214.out 0).trans rfl;have hfz12_0:=blk_frozen BK214.out 0)|((with_reducible refine gate_callee (f:=18) rfl ?_);refine goesL_ (some 10) rfl rfl Try.func18 (by kernel_rfl) rfl #[.agg #[.slice A0_0 l0_0.length c0_0]] rfl (by (try simp only [List.map_toArray,List.map_cons,List.map_nil]);first|done|rfl|(simp only [List.length_drop,List.length_take];rfl)) ?_;(with_reducible refine (soundserviceref13_Valid.calls k _ _ l0_0 true _ ?side1 ?side2 A4.out).mono ?_);(case side1=>repeat (first|exact (Kd.C_below HR0_0.out HB.out)|(with_reducible refine Kd.C_alloc ?_ _)|(with_reducible refine Kd.C_drewN ?_ _)|(with_reducible refine Kd.C_drew ?_)));(case side2=>exact HC0_0.out);rintro e w13 ⟨rfl,hb⟩;refine ⟨_,rfl,?_⟩;have n0_:=Am (blk_below (g:=gb214) (o:=.cells #[.slice A0_0 l0_0.length c0_0] 24 (0,0)) (by (with_reducible repeat first|apply kN|apply kD|apply kA);exact BK214.out) hb);have n1_:=Am (blk_below (g:=gb215) (o:=.cells #[.int .i64 a2_0, .int .i64 a2_1] 27 (0,0)) (by (with_reducible repeat first|apply kN|apply kD|apply kA);exact BK215.out) hb);have n2_:=Am (blk_below (g:=gb216) (o:=.cells #[.slice none 0 0] 24 (0,0)) (by (with_reducible repeat first|apply kN|apply kD|apply kA);exact BK216.out) hb);have n3_:=Am (below_step (by repeat (first|(with_reducible first|exact HB.out|apply bA|apply bN|apply bD|refine bS ?_ GE214.out|refine bS ?_ GE215.out|refine bS ?_ GE216.out)|exact HB.out)) hb);clear BK214 BK215 BK216 HB;have BK214:=n0_;have BK215:=n1_;have BK216:=n2_;have HB:=n3_;clear n0_ n1_ n2_ n3_;(try clear hb);(try clear hk)))
  (try simp only [pL])
  go_cut [13] (fun v13 wc=>∃ (kq:Nat) (x13_5:Bool),v13=.bool x13_5∧Aside0 (soundserviceref13_Change.j0 kq a1 x13_5 l0_0 a2_0 a2_1=some (r1,r2))∧Aside0 (kq≤k)∧Aside0 (wc.heap[gb214]?=some (.cells #[(.slice A0_0 l0_0.length c0_0)] 24 (0,0)))∧Aside0 (wc.heap[gb215]?=some (.cells #[.int .i64 a2_0, .int .i64 a2_1] 27 (0,0)))∧Aside0 (wc.heap[gb216]?=some (.cells #[(.slice none 0 0)] 24 (0,0)))∧Aside0 (Below w.heap.size w wc))
  case first =>
   have H:=HC6.out
   clear HC6
   obtain ⟨ji14,hji14⟩:∃ j_:Int,(wrap64 ((l0_0.length:Int) - 1))=j_:=⟨_,rfl⟩
   replace H:(if 0≤(ji14) then (if (ji14) < (l0_0.length:Int) then (if a1≤((rd_T61 l0_0 (ji14)).f0) then (soundserviceref13_Change.j0 k a1 true l0_0 a2_0 a2_1) else (soundserviceref13_Change.j0 k a1 (decide (a1 > 1099511627776)) l0_0 a2_0 a2_1)) else (none)) else (none))=some (r1,r2):=by first|(rw [hji14] at H;exact H)|(simp only [hji14] at H ⊢;exact H)
   have hji14w:(IntKind.i64.wrap ((l0_0.length:Int) - 1))=ji14:=(i64_w _).trans hji14
   by_cases c15:0≤(ji14)
   ·rw [if_pos c15] at H
    have c15b0:decide (0≤(ji14))=true:=decide_eq_true c15
    clear c15
    (first|rw [c15b0]|(simp only [i64_w,i32_w];rw [c15b0])|skip)
    by_cases c16:(ji14) < (l0_0.length:Int)
    ·rw [if_pos c16] at H
     have c16b0:decide ((ji14) < (l0_0.length:Int))=true:=decide_eq_true c16
     clear c16
     by_cases c17:a1≤((rd_T61 l0_0 (ji14)).f0)
     ·rw [if_pos c17] at H
      have c17b0:decide (a1≤((rd_T61 l0_0 (ji14)).f0))=true:=decide_eq_true c17
      clear c17
      have H':=Am H
      clear H
      have hnb18:=NB214_215.out
      have hnc18:=NB215_214.out
      have hnb19:=NB214_216.out
      have hnc19:=NB216_214.out
      have hcz20_0:w13.cell? ⟨gb214,0,none⟩=some (.slice A0_0 l0_0.length c0_0):=(blk_cell BK214.out 0).trans rfl
      have hfz20_0:=blk_frozen BK214.out 0
      have p218:0≤((ji14):Int):=of_decide_eq_true (by first|(with_reducible assumption)|assumption)
      have q218:(ji14) < (l0_0.length:Int):=of_decide_eq_true (by first|(with_reducible assumption)|assumption)
      obtain ⟨ad218,e218,hx218_0,hx218_1,hx218_2⟩:=at_T61 HR0_0.out (ji14) p218 q218
      cases e218
      replace hx218_0:=(HB.out.cell (World.block_lt_of_cell? w _ hx218_0)).trans hx218_0
      replace hx218_1:=(HB.out.cell (World.block_lt_of_cell? w _ hx218_1)).trans hx218_1
      replace hx218_2:=(HB.out.cell (World.block_lt_of_cell? w _ hx218_2)).trans hx218_2
      replace p218:=eq_true p218
      replace q218:=eq_true q218
      go_wp2
      go_meet
      case rel=>exact ⟨_,(true),(by first|rfl|(simp;done)|(simp [*];done)),H',⟨by first|omega|exact Nat.le_refl _⟩,⟨by (with_reducible repeat first|apply kN|apply kD|apply kA);exact BK214.out⟩,⟨by (with_reducible repeat first|apply kN|apply kD|apply kA);exact BK215.out⟩,⟨by (with_reducible repeat first|apply kN|apply kD|apply kA);exact BK216.out⟩,⟨by repeat (first|(with_reducible first|exact HB.out|apply bA|apply bN|apply bD|refine bS ?_ GE214.out|refine bS ?_ GE215.out|refine bS ?_ GE216.out)|exact HB.out)⟩⟩
     ·rw [if_neg c17] at H
      have c17b0:decide (a1≤((rd_T61 l0_0 (ji14)).f0))=false:=decide_eq_false c17
      clear c17
      have H':=Am H
      clear H
      have hnb21:=NB214_215.out
      have hnc21:=NB215_214.out
      have hnb22:=NB214_216.out
      have hnc22:=NB216_214.out
      have hcz23_0:w13.cell? ⟨gb214,0,none⟩=some (.slice A0_0 l0_0.length c0_0):=(blk_cell BK214.out 0).trans rfl
      have hfz23_0:=blk_frozen BK214.out 0
      have p218:0≤((ji14):Int):=of_decide_eq_true (by first|(with_reducible assumption)|assumption)
      have q218:(ji14) < (l0_0.length:Int):=of_decide_eq_true (by first|(with_reducible assumption)|assumption)
      obtain ⟨ad218,e218,hx218_0,hx218_1,hx218_2⟩:=at_T61 HR0_0.out (ji14) p218 q218
      cases e218
      replace hx218_0:=(HB.out.cell (World.block_lt_of_cell? w _ hx218_0)).trans hx218_0
      replace hx218_1:=(HB.out.cell (World.block_lt_of_cell? w _ hx218_1)).trans hx218_1
      replace hx218_2:=(HB.out.cell (World.block_lt_of_cell? w _ hx218_2)).trans hx218_2
      replace p218:=eq_true p218
      replace q218:=eq_true q218
      go_wp2
      go_meet
      case rel=>exact ⟨_,(decide (a1 > 1099511627776)),(by first|rfl|(simp;done)|(simp [*];done)),H',⟨by first|omega|exact Nat.le_refl _⟩,⟨by (with_reducible repeat first|apply kN|apply kD|apply kA);exact BK214.out⟩,⟨by (with_reducible repeat first|apply kN|apply kD|apply kA);exact BK215.out⟩,⟨by (with_reducible repeat first|apply kN|apply kD|apply kA);exact BK216.out⟩,⟨by repeat (first|(with_reducible first|exact HB.out|apply bA|apply bN|apply bD|refine bS ?_ GE214.out|refine bS ?_ GE215.out|refine bS ?_ GE216.out)|exact HB.out)⟩⟩
    ·rw [if_neg c16] at H
     exact absurd H (by simp)
   ·rw [if_neg c15] at H
    exact absurd H (by simp)
  case rest =>
   clear HC6;(try clear c1);(try clear c2);(try clear p2);(try clear q2);(try clear hx2);(try clear c5);(try clear p6);(try clear c10);(try clear c11);(try clear c15);(try clear c15b0);(try clear c16);(try clear c16b0);(try clear c17);(try clear c17b0);(try clear c18);(try clear c19);(try clear c21);(try clear p21);(try clear q21);(try clear hx21);(try clear c22);(try clear hcz12_0);(try clear hcz20_0);(try clear hcz23_0);(try clear hfz12_0);(try clear hfz20_0);(try clear hfz23_0);(try clear hx218_0);(try clear hx218_1);(try clear hx218_2);(try clear p218);(try clear q218)
   obtain ⟨kq,x13_5,rfl,HA,HJ5,BK214,BK215,BK216,HB⟩:=hcut
   cases kq with
   | zero=>exact absurd HA.out (by simp [soundserviceref13_Change.j0])
   | succ kj5 =>
    have H:=HA.out
    clear HA
    simp only [soundserviceref13_Change.j0] at H
    by_cases c24:x13_5=true
    ·subst c24
     have H1:(some (([]:List (S61)),2))=some (r1,r2):=by rw [if_pos rfl] at H;exact H
     clear H;have H:=H1;clear H1
     simp only [Option.some.injEq,Prod.mk.injEq] at H
     obtain ⟨rfl,rfl⟩:=H
     have hnb25:=NB216_214.out
     have hnc25:=NB214_216.out
     have hnb26:=NB216_215.out
     have hnc26:=NB215_216.out
     have hcz27_0:wc.cell? ⟨gb216,0,none⟩=some (.slice none 0 0):=(blk_cell BK216.out 0).trans rfl
     have hfz27_0:=blk_frozen BK216.out 0
     go_wp2
     refine bodyPost_ret (results_ct rfl _ _ gb216 24 #[.slice none 0 0] (0,0) _ rfl (by (with_reducible repeat first|apply kN|apply kD|apply kA);refine blk_put (cs:=#[.slice none 0 0]) ?_ 0 _ rfl;(with_reducible repeat first|apply kN|apply kD|apply kA);exact BK216.out) Try.underlying24 rfl (by kernel_rfl)) rfl ?_
     exact ⟨_,by first|rfl|(simp [errW_none,errW_some] <;> rfl)|(simp [*,errW_none,errW_some] <;> rfl),by first|exact Kd.R_nil _ _ _ _ _|exact Kd.N_nil _ _ _ _ _|exact Kd.V_nil _ _ _ _ _|exact Kd.Q_nil _ _ _ _ _|exact Kd.S_nil _ _ _ _ _,by repeat (first|(with_reducible first|exact HB.out|apply bA|apply bN|apply bD|refine bS ?_ GE214.out|refine bS ?_ GE215.out|refine bS ?_ GE216.out)|exact HB.out)⟩
    ·replace c24:=Bool.eq_false_iff.mpr c24
     subst c24
     have H1:((soundserviceref13_rate.f kj5 a2_0 a2_1).bind fun t219=>(if t219=true then (if (l0_0.length:Int) ≥ 64 then (some (([]:List (S61)),3)) else (if ([]:List (S61)).length+l0_0.length < 5864062014805 then ((some (([]:List (S61)) ++ l0_0:List (S61))).bind fun y220=>((some (([(⟨a1,(⟨a2_0,a2_1⟩:S27)⟩:S61)]:List (S61)):List (S61))).bind fun y223=>(if y220.length+y223.length < 5864062014805 then (some ((y220 ++ y223),0)) else (none)))) else (none))) else (some (([]:List (S61)),1))))=some (r1,r2):=by rw [if_neg (show ¬ (false=true) by decide)] at H;exact H
     clear H;have H:=H1;clear H1
     replace H:=Option.bind_eq_some_iff.mp H
     obtain ⟨t219,A280,H⟩:=H
     replace H:(if t219=true then (if (l0_0.length:Int) ≥ 64 then (some (([]:List (S61)),3)) else (if ([]:List (S61)).length+l0_0.length < 5864062014805 then ((some (([]:List (S61)) ++ l0_0:List (S61))).bind fun y220=>((some (([(⟨a1,(⟨a2_0,a2_1⟩:S27)⟩:S61)]:List (S61)):List (S61))).bind fun y223=>(if y220.length+y223.length < 5864062014805 then (some ((y220 ++ y223),0)) else (none)))) else (none))) else (some (([]:List (S61)),1)))=some (r1,r2):=H
     have A28:=Am A280
     clear A280
     by_cases c29:t219=true
     ·subst c29
      have H1:(if (l0_0.length:Int) ≥ 64 then (some (([]:List (S61)),3)) else (if ([]:List (S61)).length+l0_0.length < 5864062014805 then ((some (([]:List (S61)) ++ l0_0:List (S61))).bind fun y220=>((some (([(⟨a1,(⟨a2_0,a2_1⟩:S27)⟩:S61)]:List (S61)):List (S61))).bind fun y223=>(if y220.length+y223.length < 5864062014805 then (some ((y220 ++ y223),0)) else (none)))) else (none)))=some (r1,r2):=by rw [if_pos rfl] at H;exact H
      clear H;have H:=H1;clear H1
      by_cases c30:(l0_0.length:Int) ≥ 64
      ·rw [if_pos c30] at H
       have c30b0:decide (64≤(l0_0.length:Int))=true:=decide_eq_true c30
       have c30b1:decide (64≤l0_0.length)=true:=decide_eq_true (by omega)
       clear c30
       simp only [Option.some.injEq,Prod.mk.injEq] at H
       obtain ⟨rfl,rfl⟩:=H
       have hnb31:=NB215_214.out
       have hnc31:=NB214_215.out
       have hnb32:=NB215_216.out
       have hnc32:=NB216_215.out
       have hcz33_0:wc.cell? ⟨gb215,0,none⟩=some (.int .i64 a2_0):=(blk_cell BK215.out 0).trans rfl
       have hcz33_1:wc.cell? ⟨gb215,1,none⟩=some (.int .i64 a2_1):=(blk_cell BK215.out 1).trans rfl
       have hfz33_0:=blk_frozen BK215.out 0
       have hfz33_1:=blk_frozen BK215.out 1
       go_wp2_with (first|((with_reducible refine gate_callee (f:=31) rfl ?_);refine goesL_ (some 32) rfl rfl Try.func31 (by kernel_rfl) rfl #[.agg #[.int .i64 a2_0, .int .i64 a2_1]] rfl (by (try simp only [List.map_toArray,List.map_cons,List.map_nil]);first|done|rfl|(simp only [List.length_drop,List.length_take];rfl)) ?_;(with_reducible refine (soundserviceref13_rate.calls kj5 a2_0 a2_1 true _ A28.out).mono ?_);rintro e w34 ⟨rfl,hb⟩;refine ⟨_,rfl,?_⟩;have n0_:=Am (blk_below (g:=gb214) (o:=.cells #[.slice A0_0 l0_0.length c0_0] 24 (0,0)) (by (with_reducible repeat first|apply kN|apply kD|apply kA);exact BK214.out) hb);have n1_:=Am (blk_below (g:=gb215) (o:=.cells #[.int .i64 a2_0, .int .i64 a2_1] 27 (0,0)) (by (with_reducible repeat first|apply kN|apply kD|apply kA);exact BK215.out) hb);have n2_:=Am (blk_below (g:=gb216) (o:=.cells #[.slice none 0 0] 24 (0,0)) (by (with_reducible repeat first|apply kN|apply kD|apply kA);exact BK216.out) hb);have n3_:=Am (below_step (by repeat (first|(with_reducible first|exact HB.out|apply bA|apply bN|apply bD|refine bS ?_ GE214.out|refine bS ?_ GE215.out|refine bS ?_ GE216.out)|exact HB.out)) hb);clear BK214 BK215 BK216 HB;have BK214:=n0_;have BK215:=n1_;have BK216:=n2_;have HB:=n3_;clear n0_ n1_ n2_ n3_;(try clear hb);(try clear hk);have hnb35:=NB214_216.out;have hnc35:=NB216_214.out;have hcz36_0:w34.cell? ⟨gb214,0,none⟩=some (.slice A0_0 l0_0.length c0_0):=(blk_cell BK214.out 0).trans rfl;have hfz36_0:=blk_frozen BK214.out 0;have hcz37_0:w34.cell? ⟨gb216,0,none⟩=some (.slice none 0 0):=(blk_cell BK216.out 0).trans rfl;have hfz37_0:=blk_frozen BK216.out 0))
       refine bodyPost_ret (results_ct rfl _ _ gb216 24 #[.slice none 0 0] (0,0) _ rfl (by (with_reducible repeat first|apply kN|apply kD|apply kA);refine blk_put (cs:=#[.slice none 0 0]) ?_ 0 _ rfl;(with_reducible repeat first|apply kN|apply kD|apply kA);exact BK216.out) Try.underlying24 rfl (by kernel_rfl)) rfl ?_
       exact ⟨_,by first|rfl|(simp [errW_none,errW_some] <;> rfl)|(simp [*,errW_none,errW_some] <;> rfl),by first|exact Kd.R_nil _ _ _ _ _|exact Kd.N_nil _ _ _ _ _|exact Kd.V_nil _ _ _ _ _|exact Kd.Q_nil _ _ _ _ _|exact Kd.S_nil _ _ _ _ _,by repeat (first|(with_reducible first|exact HB.out|apply bA|apply bN|apply bD|refine bS ?_ GE214.out|refine bS ?_ GE215.out|refine bS ?_ GE216.out)|exact HB.out)⟩
      ·rw [if_neg c30] at H
       have c30b0:decide (64≤(l0_0.length:Int))=false:=decide_eq_false c30
       have c30b1:decide (64≤l0_0.length)=false:=decide_eq_false (by omega)
       clear c30
       by_cases c38:([]:List (S61)).length+l0_0.length < 5864062014805
       ·rw [if_pos c38] at H
        have LMc38:=Am c38
        clear c38
        obtain ⟨y220,hy220⟩:∃ y_:List (S61),y_=(([]:List (S61)) ++ l0_0):=⟨_,rfl⟩
        replace H:((some (([(⟨a1,(⟨a2_0,a2_1⟩:S27)⟩:S61)]:List (S61)):List (S61))).bind fun y223=>(if y220.length+y223.length < 5864062014805 then (some ((y220 ++ y223),0)) else (none)))=some (r1,r2):=by first|(rw [hy220];with_reducible exact H)|(have H2_:=(Option.bind_some _ _).symm.trans H;rw [hy220];with_reducible exact H2_)|(have H2_:=(Option.bind_some _ _).symm.trans H;with_reducible exact H2_)|with_reducible exact H|(rw [hy220];exact H)|exact H
        have Ny220:=Am hy220
        clear hy220
        obtain ⟨y223,hy223⟩:∃ y_:List (S61),y_=(([(⟨a1,(⟨a2_0,a2_1⟩:S27)⟩:S61)]:List (S61))):=⟨_,rfl⟩
        replace H:(if y220.length+y223.length < 5864062014805 then (some ((y220 ++ y223),0)) else (none))=some (r1,r2):=by first|(rw [hy223];with_reducible exact H)|(have H2_:=(Option.bind_some _ _).symm.trans H;rw [hy223];with_reducible exact H2_)|(have H2_:=(Option.bind_some _ _).symm.trans H;with_reducible exact H2_)|with_reducible exact H|(rw [hy223];exact H)|exact H
        have Ny223:=Am hy223
        clear hy223
        by_cases c39:y220.length+y223.length < 5864062014805
        ·rw [if_pos c39] at H
         have LMc39:=Am c39
         clear c39
         obtain ⟨y226,hy226⟩:∃ y_:List (S61),y_=(y220 ++ y223):=⟨_,rfl⟩
         replace H:(some (y226,0))=some (r1,r2):=by first|(rw [hy226];with_reducible exact H)|(have H2_:=(Option.bind_some _ _).symm.trans H;rw [hy226];with_reducible exact H2_)|(have H2_:=(Option.bind_some _ _).symm.trans H;with_reducible exact H2_)|with_reducible exact H|(rw [hy226];exact H)|exact H
         have Ny226:=Am hy226
         clear hy226
         simp only [Option.some.injEq,Prod.mk.injEq] at H
         obtain ⟨rfl,rfl⟩:=H
         have hnb40:=NB215_214.out
         have hnc40:=NB214_215.out
         have hnb41:=NB215_216.out
         have hnc41:=NB216_215.out
         have hcz42_0:wc.cell? ⟨gb215,0,none⟩=some (.int .i64 a2_0):=(blk_cell BK215.out 0).trans rfl
         have hcz42_1:wc.cell? ⟨gb215,1,none⟩=some (.int .i64 a2_1):=(blk_cell BK215.out 1).trans rfl
         have hfz42_0:=blk_frozen BK215.out 0
         have hfz42_1:=blk_frozen BK215.out 1
         try go_wp2_with (first|((with_reducible refine gate_callee (f:=31) rfl ?_);refine goesL_ (some 32) rfl rfl Try.func31 (by kernel_rfl) rfl #[.agg #[.int .i64 a2_0, .int .i64 a2_1]] rfl (by (try simp only [List.map_toArray,List.map_cons,List.map_nil]);first|done|rfl|(simp only [List.length_drop,List.length_take];rfl)) ?_;(with_reducible refine (soundserviceref13_rate.calls kj5 a2_0 a2_1 true _ A28.out).mono ?_);rintro e w43 ⟨rfl,hb⟩;refine ⟨_,rfl,?_⟩;have n0_:=Am (blk_below (g:=gb214) (o:=.cells #[.slice A0_0 l0_0.length c0_0] 24 (0,0)) (by (with_reducible repeat first|apply kN|apply kD|apply kA);exact BK214.out) hb);have n1_:=Am (blk_below (g:=gb215) (o:=.cells #[.int .i64 a2_0, .int .i64 a2_1] 27 (0,0)) (by (with_reducible repeat first|apply kN|apply kD|apply kA);exact BK215.out) hb);have n2_:=Am (blk_below (g:=gb216) (o:=.cells #[.slice none 0 0] 24 (0,0)) (by (with_reducible repeat first|apply kN|apply kD|apply kA);exact BK216.out) hb);have n3_:=Am (below_step (by repeat (first|(with_reducible first|exact HB.out|apply bA|apply bN|apply bD|refine bS ?_ GE214.out|refine bS ?_ GE215.out|refine bS ?_ GE216.out)|exact HB.out)) hb);clear BK214 BK215 BK216 HB;have BK214:=n0_;have BK215:=n1_;have BK216:=n2_;have HB:=n3_;clear n0_ n1_ n2_ n3_;(try clear hb);(try clear hk);have hnb44:=NB214_216.out;have hnc44:=NB216_214.out;have hcz45_0:w43.cell? ⟨gb214,0,none⟩=some (.slice A0_0 l0_0.length c0_0):=(blk_cell BK214.out 0).trans rfl;have hfz45_0:=blk_frozen BK214.out 0))
         have n0_:=Am (kD BK214.out)
         have n1_:=Am (kD BK215.out)
         have n2_:=Am (kD BK216.out)
         have n3_:=Am (bD HB.out)
         clear BK214 BK215 BK216 HB;have BK214:=n0_;have BK215:=n1_;have BK216:=n2_;have HB:=n3_;clear n0_ n1_ n2_ n3_
         refine start_ (n:=11) (S:=fun w'=>w'.cell? ⟨gb214,0,none⟩=some (.slice A0_0 l0_0.length c0_0)∧w'.cell? ⟨gb215,0,none⟩=some (.int .i64 a2_0)∧w'.cell? ⟨gb215,1,none⟩=some (.int .i64 a2_1)) (ds:=[]) soundserviceref13_Change.q0 (by kernel_rfl) rfl rfl ⟨(blk_cell BK214.out 0).trans rfl,(blk_cell BK215.out 0).trans rfl,(blk_cell BK215.out 1).trans rfl⟩ (fun hHeld=>?_);refine with_tabW soundserviceref13_Change.tab9 soundserviceref13_Change.bits9 (fun HT_ HW_=>?_)
         generalize w43.drew=w46 at BK214 BK215 BK216 HB hHeld ⊢
         refine pure_ (i:=0) (N:=some 41) (v:=?_) (a':=?_) soundserviceref13_Change.q1 rfl rfl (any_of HT_.out (by kernel_rfl)) (fun _ _ _ h=>h) (Or.inl ⟨by rfl,?_⟩) ?_ ?_
         rotate_left;(· intro w';go_simp;with_reducible rfl);rotate_left;(· simp only [pL,i64_w,i32_w];rfl)
         refine pure_ (i:=3) (N:=some 44) (v:=?_) (a':=?_) soundserviceref13_Change.q2 rfl rfl (any_of HT_.out (by kernel_rfl)) (fun _ _ _ h=>h) (Or.inl ⟨by rfl,?_⟩) ?_ ?_
         rotate_left;(· intro w';go_simp;with_reducible rfl);rotate_left;(· simp only [pL,i64_w,i32_w];rfl)
         refine take_ (i:=1) (N:=some 42) (v:=?_) (a':=?_) soundserviceref13_Change.q3 rfl rfl (take_ofW HT_.out HW_.out (by kernel_rfl)) (fun _ _ _ h=>h) (Or.inl ⟨by rfl,?_⟩) hHeld ?_ ?_
         rotate_left;(· rintro w' ⟨s0,s1,s2⟩;go_simp;with_reducible rfl);rotate_left;(· simp only [pL,i64_w,i32_w];rfl)
         refine take_ (i:=4) (N:=some 45) (v:=?_) (a':=?_) soundserviceref13_Change.q4 rfl rfl (take_ofW HT_.out HW_.out (by kernel_rfl)) (fun _ _ _ h=>h) (Or.inl ⟨by rfl,?_⟩) hHeld ?_ ?_
         rotate_left;(· rintro w' ⟨s0,s1,s2⟩;go_simp;with_reducible rfl);rotate_left;(· simp only [pL,i64_w,i32_w];rfl)
         refine pure_ (i:=5) (N:=some 46) (v:=?_) (a':=?_) soundserviceref13_Change.q5 rfl rfl (any_of HT_.out (by kernel_rfl)) (fun _ _ _ h=>h) (Or.inl ⟨by rfl,?_⟩) ?_ ?_
         rotate_left;(· intro w';go_simp;with_reducible rfl);rotate_left;(· simp only [pL,i64_w,i32_w];rfl)
         refine join_ (σ:=Value × Value) 4 soundserviceref13_Change.q6 (fun s_=>[(43,s_.1),(47,s_.2)]) (fun s_ w'=>(w'.cell? ⟨gb214,0,none⟩=some (.slice A0_0 l0_0.length c0_0)∧w'.cell? ⟨gb215,0,none⟩=some (.int .i64 a2_0)∧w'.cell? ⟨gb215,1,none⟩=some (.int .i64 a2_1))∧(Kd.R k61 61 w' w.heap.size (fun k_=>some k_≠(s_.2:Value).ownBlock) s_.1 y220)∧(Kd.R k61 61 w' w.heap.size (fun k_=>some k_≠(s_.1:Value).ownBlock) s_.2 y223)∧(w'.heap[gb214]?=some (.cells #[.slice A0_0 l0_0.length c0_0] 24 (0,0)))∧(w'.heap[gb215]?=some (.cells #[.int .i64 a2_0, .int .i64 a2_1] 27 (0,0)))∧(w'.heap[gb216]?=some (.cells #[.slice none 0 0] 24 (0,0)))∧(Below w.heap.size w w')) ?_ ?_
         rotate_left
         ·intro hCont
          refine two_ (i:=2) (j:=6) (Ni:=some 43) (Nj:=some 47) soundserviceref13_Change.q7 soundserviceref13_Change.q8 rfl rfl rfl rfl (two_of HT_.out (by kernel_rfl)) (by decide) (by decide) (fun K hK=>?_) (fun K hK=>?_)
          ·skip
           refine Kd.R_append_rows_step k61 (w0:=w) w.heap.size (by rfl) (.const (.slice none 0 0)) (.tmp 42) 22 61 (.agg #[(.int .i64 0),(.int .i64 0),(.int .i64 0)]) 24 rfl Try.underlying22 info61 rfl (by decide) (by omega) (.slice none 0 0) ([]:List (S61)) l0_0 _ _ _ (fun _=>True) (fun _=>False) rfl rfl ?aO ?aR (fun _ _ h=>h) (fun _ h=>h.elim) ?aF ?aB ?aS ?aL ?_
           (case aR=>repeat (first|exact (Kd.C_below HR0_0.out HB.out)|(with_reducible refine Kd.C_alloc ?_ _)|(with_reducible refine Kd.C_drewN ?_ _)|(with_reducible refine Kd.C_drew ?_)))
           (case aB=>exact (by repeat (first|(with_reducible first|exact HB.out|apply bA|apply bN|apply bD|refine bS ?_ GE214.out|refine bS ?_ GE215.out|refine bS ?_ GE216.out)|exact HB.out)))
           (case aF=>exact (fun _ _=>trivial))
           (case aO=>exact ((Kd.R_nil _ _ _ _ (fun _=>True))))
           (case aS=>exact (below_size (by repeat (first|(with_reducible first|exact HB.out|apply bA|apply bN|apply bD|refine bS ?_ GE214.out|refine bS ?_ GE215.out|refine bS ?_ GE216.out)|exact HB.out))))
           (case aL=>have:=LMc38.out;omega)
           intro v221 w47 ho hb hg hat
           rw [← Ny220.out] at ho
           have n0_:=Am (blk_grown (g:=gb214) (o:=.cells #[.slice A0_0 l0_0.length c0_0] 24 (0,0)) (by (with_reducible repeat first|apply kN|apply kD|apply kA);exact BK214.out) hg (by simp [Value.ownBlock]))
           have n1_:=Am (blk_grown (g:=gb215) (o:=.cells #[.int .i64 a2_0, .int .i64 a2_1] 27 (0,0)) (by (with_reducible repeat first|apply kN|apply kD|apply kA);exact BK215.out) hg (by simp [Value.ownBlock]))
           have n2_:=Am (blk_grown (g:=gb216) (o:=.cells #[.slice none 0 0] 24 (0,0)) (by (with_reducible repeat first|apply kN|apply kD|apply kA);exact BK216.out) hg (by simp [Value.ownBlock]))
           have n3_:=Am (hb)
           have n4_:=Am (ho)
           clear BK214 BK215 BK216 HB;have BK214:=n0_;have BK215:=n1_;have BK216:=n2_;have HB:=n3_;have HO222:=n4_;clear n0_ n1_ n2_ n3_ n4_ ho hb hg hat
           refine hK.out _ _ ⟨(blk_cell BK214.out 0).trans rfl,(blk_cell BK215.out 0).trans rfl,(blk_cell BK215.out 1).trans rfl⟩ (fun hHeld=>?_)
           clear hK K
           refine norm_ (a':=?_) ?_ ?_
           rotate_left
           ·show Act.put _ (some 43) _=_
            simp only [pL,i64_w,i32_w]
            rfl
           refine one_ (i:=6) (N:=some 47) soundserviceref13_Change.q6 rfl rfl (one_of HT_.out (by kernel_rfl)) (by decide) (fun K hK=>?_)
           refine Kd.R_lit_step k61 _ 61 ?hg (N:=47) ?hd (xs:=([(⟨a1,(⟨a2_0,a2_1⟩:S27)⟩:S61)]:List (S61))) (inner:=[.int .i64 a1, .int .i64 a2_0, .int .i64 a2_1]) (ok:=fun _=>True) (okp:=fun _=>True) ?hr ?hp (fun _ hk=>hk) trivial (Below.refl _ _) (Nat.le_refl _) (by simp) ?_;(case hd=>rfl);(case hg=>rfl);(case hr=>first|(go_simp;done)|(go_simp;rfl));(case hp=>exact (Reps.c3 (show Kd.M k61 _ _ _ (⟨a1,(⟨a2_0,a2_1⟩:S27)⟩:S61) [.int .i64 a1, .int .i64 a2_0, .int .i64 a2_1] from (k61_mkM _ _ _ (⟨a1,(⟨a2_0,a2_1⟩:S27)⟩:S61) )) (Reps.none _ _)))
           intro v224 w48 ho49 hb hg_ hnew_
           clear hg_ hnew_
           (first|rw [← Ny223.out] at ho49|(simp only [Int.reduceToNat] at ho49;rw [← Ny223.out] at ho49))
           have n0_:=Am (Kd.R_elder' (by (with_reducible repeat first|apply Kd.R_alloc|apply Kd.R_drewN|apply Kd.R_drew);exact HO222.out) (Kd.R_base ho49) hb)
           have n1_:=Am (Kd.R_lower (Kd.R_new' ho49 (Kd.R_lt (by (with_reducible repeat first|apply Kd.R_alloc|apply Kd.R_drewN|apply Kd.R_drew);exact HO222.out))) (below_size (by repeat (first|(with_reducible first|exact HB.out|apply bA|apply bN|apply bD|refine bS ?_ GE214.out|refine bS ?_ GE215.out|refine bS ?_ GE216.out)|exact HB.out))))
           have n2_:=Am (blk_below (g:=gb214) (o:=.cells #[.slice A0_0 l0_0.length c0_0] 24 (0,0)) (by (with_reducible repeat first|apply kN|apply kD|apply kA);exact BK214.out) hb)
           have n3_:=Am (blk_below (g:=gb215) (o:=.cells #[.int .i64 a2_0, .int .i64 a2_1] 27 (0,0)) (by (with_reducible repeat first|apply kN|apply kD|apply kA);exact BK215.out) hb)
           have n4_:=Am (blk_below (g:=gb216) (o:=.cells #[.slice none 0 0] 24 (0,0)) (by (with_reducible repeat first|apply kN|apply kD|apply kA);exact BK216.out) hb)
           have n5_:=Am (below_step (by repeat (first|(with_reducible first|exact HB.out|apply bA|apply bN|apply bD|refine bS ?_ GE214.out|refine bS ?_ GE215.out|refine bS ?_ GE216.out)|exact HB.out)) hb)
           clear HO222 BK214 BK215 BK216 HB;have HO222:=n0_;have HO225:=n1_;have BK214:=n2_;have BK215:=n3_;have BK216:=n4_;have HB:=n5_;clear n0_ n1_ n2_ n3_ n4_ n5_ hb ho49
           refine hK.out _ _ ⟨(blk_cell BK214.out 0).trans rfl,(blk_cell BK215.out 0).trans rfl,(blk_cell BK215.out 1).trans rfl⟩ (fun hHeld=>?_)
           clear hK K
           refine norm_ (a':=?_) ?_ ?_
           rotate_left
           ·show Act.put _ (some 47) _=_
            simp only [pL,i64_w,i32_w]
            rfl
           exact norm_ (by simp only [putAll,pL]) (hCont (v221,v224) _ ⟨hHeld,(by (with_reducible repeat first|apply Kd.R_alloc|apply Kd.R_drewN|apply Kd.R_drew);exact Kd.R_mono HO222.out (fun _ hk=>by first|exact hk.2|trivial)),(by (with_reducible repeat first|apply Kd.R_alloc|apply Kd.R_drewN|apply Kd.R_drew);exact Kd.R_mono HO225.out (fun _ hk=>by first|exact hk.2|trivial)),(by (with_reducible repeat first|apply kN|apply kD|apply kA);exact BK214.out),(by (with_reducible repeat first|apply kN|apply kD|apply kA);exact BK215.out),(by (with_reducible repeat first|apply kN|apply kD|apply kA);exact BK216.out),(by repeat (first|(with_reducible first|exact HB.out|apply bA|apply bN|apply bD|refine bS ?_ GE214.out|refine bS ?_ GE215.out|refine bS ?_ GE216.out)|exact HB.out))⟩)
          ·skip
           refine Kd.R_lit_step k61 _ 61 ?hg (N:=47) ?hd (xs:=([(⟨a1,(⟨a2_0,a2_1⟩:S27)⟩:S61)]:List (S61))) (inner:=[.int .i64 a1, .int .i64 a2_0, .int .i64 a2_1]) (ok:=fun _=>True) (okp:=fun _=>True) ?hr ?hp (fun _ hk=>hk) trivial (Below.refl _ _) (Nat.le_refl _) (by simp) ?_;(case hd=>rfl);(case hg=>rfl);(case hr=>first|(go_simp;done)|(go_simp;rfl));(case hp=>exact (Reps.c3 (show Kd.M k61 _ _ _ (⟨a1,(⟨a2_0,a2_1⟩:S27)⟩:S61) [.int .i64 a1, .int .i64 a2_0, .int .i64 a2_1] from (k61_mkM _ _ _ (⟨a1,(⟨a2_0,a2_1⟩:S27)⟩:S61) )) (Reps.none _ _)))
           intro v224 w47 ho48 hb hg_ hnew_
           clear hg_ hnew_
           (first|rw [← Ny223.out] at ho48|(simp only [Int.reduceToNat] at ho48;rw [← Ny223.out] at ho48))
           have n0_:=Am (Kd.R_lower ho48 (below_size (by repeat (first|(with_reducible first|exact HB.out|apply bA|apply bN|apply bD|refine bS ?_ GE214.out|refine bS ?_ GE215.out|refine bS ?_ GE216.out)|exact HB.out))))
           have n1_:=Am (blk_below (g:=gb214) (o:=.cells #[.slice A0_0 l0_0.length c0_0] 24 (0,0)) (by (with_reducible repeat first|apply kN|apply kD|apply kA);exact BK214.out) hb)
           have n2_:=Am (blk_below (g:=gb215) (o:=.cells #[.int .i64 a2_0, .int .i64 a2_1] 27 (0,0)) (by (with_reducible repeat first|apply kN|apply kD|apply kA);exact BK215.out) hb)
           have n3_:=Am (blk_below (g:=gb216) (o:=.cells #[.slice none 0 0] 24 (0,0)) (by (with_reducible repeat first|apply kN|apply kD|apply kA);exact BK216.out) hb)
           have n4_:=Am (below_step (by repeat (first|(with_reducible first|exact HB.out|apply bA|apply bN|apply bD|refine bS ?_ GE214.out|refine bS ?_ GE215.out|refine bS ?_ GE216.out)|exact HB.out)) hb)
           clear BK214 BK215 BK216 HB;have HO225:=n0_;have BK214:=n1_;have BK215:=n2_;have BK216:=n3_;have HB:=n4_;clear n0_ n1_ n2_ n3_ n4_ hb ho48
           refine hK.out _ _ ⟨(blk_cell BK214.out 0).trans rfl,(blk_cell BK215.out 0).trans rfl,(blk_cell BK215.out 1).trans rfl⟩ (fun hHeld=>?_)
           clear hK K
           refine norm_ (a':=?_) ?_ ?_
           rotate_left
           ·show Act.put _ (some 47) _=_
            simp only [pL,i64_w,i32_w]
            rfl
           refine one_ (i:=2) (N:=some 43) soundserviceref13_Change.q6 rfl rfl (one_of HT_.out (by kernel_rfl)) (by decide) (fun K hK=>?_)
           refine Kd.R_append_rows_step k61 (w0:=w) w.heap.size (by rfl) (.const (.slice none 0 0)) (.tmp 42) 22 61 (.agg #[(.int .i64 0),(.int .i64 0),(.int .i64 0)]) 24 rfl Try.underlying22 info61 rfl (by decide) (by omega) (.slice none 0 0) ([]:List (S61)) l0_0 _ _ _ (fun k_=>some k_≠(v224:Value).ownBlock) (fun _=>False) rfl rfl ?aO ?aR (fun _ _ h=>h) (fun _ h=>h.elim) ?aF ?aB ?aS ?aL ?_
           (case aR=>repeat (first|exact (Kd.C_below HR0_0.out HB.out)|(with_reducible refine Kd.C_alloc ?_ _)|(with_reducible refine Kd.C_drewN ?_ _)|(with_reducible refine Kd.C_drew ?_)))
           (case aB=>exact (by repeat (first|(with_reducible first|exact HB.out|apply bA|apply bN|apply bD|refine bS ?_ GE214.out|refine bS ?_ GE215.out|refine bS ?_ GE216.out)|exact HB.out)))
           (case aF=>exact (fun k_ hk=>Kd.fresh' (Kd.R_lt (by (with_reducible repeat first|apply Kd.R_alloc|apply Kd.R_drewN|apply Kd.R_drew);exact HO225.out)) k_ hk))
           (case aO=>exact ((Kd.R_nil _ _ _ _ (fun k_=>some k_≠(v224:Value).ownBlock))))
           (case aS=>exact (below_size (by repeat (first|(with_reducible first|exact HB.out|apply bA|apply bN|apply bD|refine bS ?_ GE214.out|refine bS ?_ GE215.out|refine bS ?_ GE216.out)|exact HB.out))))
           (case aL=>have:=LMc38.out;omega)
           intro v221 w49 ho hb hg hat
           rw [← Ny220.out] at ho
           have n0_:=Am (blk_grown (g:=gb214) (o:=.cells #[.slice A0_0 l0_0.length c0_0] 24 (0,0)) (by (with_reducible repeat first|apply kN|apply kD|apply kA);exact BK214.out) hg (by simp [Value.ownBlock]))
           have n1_:=Am (blk_grown (g:=gb215) (o:=.cells #[.int .i64 a2_0, .int .i64 a2_1] 27 (0,0)) (by (with_reducible repeat first|apply kN|apply kD|apply kA);exact BK215.out) hg (by simp [Value.ownBlock]))
           have n2_:=Am (blk_grown (g:=gb216) (o:=.cells #[.slice none 0 0] 24 (0,0)) (by (with_reducible repeat first|apply kN|apply kD|apply kA);exact BK216.out) hg (by simp [Value.ownBlock]))
           have n3_:=Am (Kd.R_after (Kd.R_apart_nil (by (with_reducible repeat first|apply Kd.R_alloc|apply Kd.R_drewN|apply Kd.R_drew);exact HO225.out)) hg hat)
           have n4_:=Am (hb)
           have n5_:=Am (ho)
           clear BK214 BK215 BK216 HO225 HB;have BK214:=n0_;have BK215:=n1_;have BK216:=n2_;have HO225:=n3_;have HB:=n4_;have HO222:=n5_;clear n0_ n1_ n2_ n3_ n4_ n5_ ho hb hg hat
           refine hK.out _ _ ⟨(blk_cell BK214.out 0).trans rfl,(blk_cell BK215.out 0).trans rfl,(blk_cell BK215.out 1).trans rfl⟩ (fun hHeld=>?_)
           clear hK K
           refine norm_ (a':=?_) ?_ ?_
           rotate_left
           ·show Act.put _ (some 43) _=_
            simp only [pL,i64_w,i32_w]
            rfl
           exact norm_ (by simp only [putAll,pL]) (hCont (v221,v224) _ ⟨hHeld,(by (with_reducible repeat first|apply Kd.R_alloc|apply Kd.R_drewN|apply Kd.R_drew);exact HO222.out),(by (with_reducible repeat first|apply Kd.R_alloc|apply Kd.R_drewN|apply Kd.R_drew);exact Kd.R_mono HO225.out (fun _ hk=>by first|exact hk.2|trivial)),(by (with_reducible repeat first|apply kN|apply kD|apply kA);exact BK214.out),(by (with_reducible repeat first|apply kN|apply kD|apply kA);exact BK215.out),(by (with_reducible repeat first|apply kN|apply kD|apply kA);exact BK216.out),(by repeat (first|(with_reducible first|exact HB.out|apply bA|apply bN|apply bD|refine bS ?_ GE214.out|refine bS ?_ GE215.out|refine bS ?_ GE216.out)|exact HB.out))⟩)
         rintro ⟨v221,v224⟩ w50 ⟨hS_,h0_,h1_,h2_,h3_,h4_,h5_⟩
         have n0_:Aside0 (Kd.R k61 61 w50 w.heap.size (fun k_=>some k_≠(v224:Value).ownBlock) v221 y220):=⟨h0_⟩
         have n1_:Aside0 (Kd.R k61 61 w50 w.heap.size (fun k_=>some k_≠(v221:Value).ownBlock) v224 y223):=⟨h1_⟩
         have n2_:Aside0 (w50.heap[gb214]?=some (.cells #[.slice A0_0 l0_0.length c0_0] 24 (0,0))):=⟨h2_⟩
         have n3_:Aside0 (w50.heap[gb215]?=some (.cells #[.int .i64 a2_0, .int .i64 a2_1] 27 (0,0))):=⟨h3_⟩
         have n4_:Aside0 (w50.heap[gb216]?=some (.cells #[.slice none 0 0] 24 (0,0))):=⟨h4_⟩
         have n5_:Aside0 (Below w.heap.size w w50):=⟨h5_⟩
         clear BK214 BK215 BK216 HB h0_ h1_ h2_ h3_ h4_ h5_;have HO222:=n0_;have HO225:=n1_;have BK214:=n2_;have BK215:=n3_;have BK216:=n4_;have HB:=n5_;clear n0_ n1_ n2_ n3_ n4_ n5_
         have hHeld:w50.cell? ⟨gb214,0,none⟩=some (.slice A0_0 l0_0.length c0_0)∧w50.cell? ⟨gb215,0,none⟩=some (.int .i64 a2_0)∧w50.cell? ⟨gb215,1,none⟩=some (.int .i64 a2_1):=hS_
         obtain ⟨Ao52,co52,eo52⟩:=Kd.R_slice HO225.out
         (first|subst eo52|(injection eo52 with f1_ f2_ f3_;have f4_:=f1_.symm;have f5_:=f3_.symm;clear f1_ f2_ f3_;subst f4_;subst f5_))
         refine norm_ (a':=?_) ?_ ?_
         rotate_left
         ·simp only [putAll,pL]
          rfl
         refine one_ (i:=7) (N:=some 48) soundserviceref13_Change.q9 rfl rfl (one_of HT_.out (by kernel_rfl)) (by decide) (fun K hK=>?_)
         refine Kd.R_append_rows_step k61 (w0:=w) w.heap.size (by rfl) (.tmp 43) (.tmp 47) 22 61 (.agg #[(.int .i64 0),(.int .i64 0),(.int .i64 0)]) 24 rfl Try.underlying22 info61 rfl (by decide) (by omega) v221 y220 y223 _ _ _ (fun k_=>some k_≠(.slice Ao52 y223.length co52:Value).ownBlock) (fun _=>False) rfl rfl ?aO ?aR (fun _ _ h=>h) (fun _ h=>h.elim) ?aF ?aB ?aS ?aL ?_
         (case aR=>repeat (first|exact (Kd.R_reads' HO225.out).2.2|(with_reducible refine Kd.C_alloc ?_ _)|(with_reducible refine Kd.C_drewN ?_ _)|(with_reducible refine Kd.C_drew ?_)))
         (case aB=>exact (by repeat (first|(with_reducible first|exact HB.out|apply bA|apply bN|apply bD|refine bS ?_ GE214.out|refine bS ?_ GE215.out|refine bS ?_ GE216.out)|exact HB.out)))
         (case aF=>exact (fun k_ hk=>Kd.fresh' (Kd.R_lt (by (with_reducible repeat first|apply Kd.R_alloc|apply Kd.R_drewN|apply Kd.R_drew);exact HO225.out)) k_ hk))
         (case aO=>exact (by (with_reducible repeat first|apply Kd.R_alloc|apply Kd.R_drewN|apply Kd.R_drew);exact HO222.out))
         (case aS=>exact (below_size (by repeat (first|(with_reducible first|exact HB.out|apply bA|apply bN|apply bD|refine bS ?_ GE214.out|refine bS ?_ GE215.out|refine bS ?_ GE216.out)|exact HB.out))))
         (case aL=>have:=LMc39.out;omega)
         intro v227 w51 ho hb hg hat
         rw [← Ny226.out] at ho
         have n0_:=Am (blk_grown (g:=gb214) (o:=.cells #[.slice A0_0 l0_0.length c0_0] 24 (0,0)) (by (with_reducible repeat first|apply kN|apply kD|apply kA);exact BK214.out) hg (Kd.R_ne HO222.out BK214.out (by decide)))
         have n1_:=Am (blk_grown (g:=gb215) (o:=.cells #[.int .i64 a2_0, .int .i64 a2_1] 27 (0,0)) (by (with_reducible repeat first|apply kN|apply kD|apply kA);exact BK215.out) hg (Kd.R_ne HO222.out BK215.out (by decide)))
         have n2_:=Am (blk_grown (g:=gb216) (o:=.cells #[.slice none 0 0] 24 (0,0)) (by (with_reducible repeat first|apply kN|apply kD|apply kA);exact BK216.out) hg (Kd.R_ne HO222.out BK216.out (by decide)))
         have n3_:=Am (Kd.R_after (ok:=(fun _=>True)) (by (with_reducible repeat first|apply Kd.R_alloc|apply Kd.R_drewN|apply Kd.R_drew);exact Kd.R_mono HO225.out (fun _ hk=>⟨trivial,hk⟩)) hg hat)
         have n4_:=Am (hb)
         have n5_:=Am (ho)
         clear BK214 BK215 BK216 HO225 HB HO222;have BK214:=n0_;have BK215:=n1_;have BK216:=n2_;have HO225:=n3_;have HB:=n4_;have HO228:=n5_;clear n0_ n1_ n2_ n3_ n4_ n5_ ho hb hg hat
         obtain ⟨Ao53,co53,eo53⟩:=Kd.R_slice HO228.out
         (first|subst eo53|(injection eo53 with f1_ f2_ f3_;have f4_:=f1_.symm;have f5_:=f3_.symm;clear f1_ f2_ f3_;subst f4_;subst f5_))
         refine hK.out _ _ ⟨(blk_cell BK214.out 0).trans rfl,(blk_cell BK215.out 0).trans rfl,(blk_cell BK215.out 1).trans rfl⟩ (fun hHeld=>?_)
         clear hK K
         refine norm_ (a':=?_) ?_ ?_
         rotate_left
         ·show Act.put _ (some 48) _=_
          simp only [pL,i64_w,i32_w]
          rfl
         refine pure_ (i:=8) (N:=some 49) (v:=?_) (a':=?_) soundserviceref13_Change.q10 rfl rfl (any_of HT_.out (by kernel_rfl)) (fun _ _ _ h=>h) (Or.inl ⟨by rfl,?_⟩) ?_ ?_
         rotate_left;(· intro w';go_simp;with_reducible rfl);rotate_left;(· simp only [pL,i64_w,i32_w];rfl)
         refine one_ (i:=9) (N:=none) soundserviceref13_Change.q11 rfl rfl (one_of HT_.out (by kernel_rfl)) (by decide) (fun K hK=>?_)
         have hs54:w51.cell? ⟨gb216,0,none⟩=some (.slice none 0 0):=(blk_cell BK216.out 0).trans rfl
         have hfs54:=blk_frozen BK216.out 0
         have hns54_0:=NB214_216.out
         have hns54_1:=NB215_216.out
         have hms54_0:=NB216_214.out
         have hms54_1:=NB216_215.out
         refine skip_ (w1:=?_) (by rfl) rfl ?_ ?_
         rotate_left
         ·go_simp
          rfl
         refine hK.out _ _ ⟨((cell_far (p:=⟨gb216,_,none⟩) NB214_216.out _).trans (hHeld.1)),((cell_far (p:=⟨gb216,_,none⟩) NB215_216.out _).trans (hHeld.2.1)),((cell_far (p:=⟨gb216,_,none⟩) NB215_216.out _).trans (hHeld.2.2))⟩ (fun hHeld=>?_)
         clear hK K
         refine pure_ (i:=10) (N:=some 7) (v:=?_) (a':=?_) soundserviceref13_Change.q12 rfl rfl (any_of HT_.out (by kernel_rfl)) (fun _ _ _ h=>h) (Or.inl ⟨by rfl,?_⟩) ?_ ?_
         rotate_left;(· intro w';go_simp;with_reducible rfl);rotate_left;(· simp only [pL,i64_w,i32_w];rfl)
         refine done_ (done_of HT_.out (by kernel_rfl)) ?_
         try go_wp2
         refine bodyPost_ret (results_ct rfl _ _ gb216 24 #[.slice Ao53 y226.length co53] (0,0) _ rfl (by (with_reducible repeat first|apply kN|apply kD|apply kA);refine blk_put (cs:=#[.slice none 0 0]) ?_ 0 _ rfl;(with_reducible repeat first|apply kN|apply kD|apply kA);exact BK216.out) Try.underlying24 rfl (by kernel_rfl)) rfl ?_
         exact ⟨_,by first|rfl|(simp [errW_none,errW_some] <;> rfl)|(simp [*,errW_none,errW_some] <;> rfl),by (with_reducible repeat first|apply Kd.R_alloc|apply Kd.R_drewN|apply Kd.R_drew);exact Kd.R_mono (Kd.R_far (p:=⟨gb216,0,none⟩) (Kd.R_types HO228.out BK216.out (by decide)) (fun _ hk=>hk.2) (.slice Ao53 y226.length co53)) (fun _ hk=>trivial),by repeat (first|(with_reducible first|exact HB.out|apply bA|apply bN|apply bD|refine bS ?_ GE214.out|refine bS ?_ GE215.out|refine bS ?_ GE216.out)|exact HB.out)⟩
        ·rw [if_neg c39] at H
         exact absurd H (by simp)
       ·rw [if_neg c38] at H
        exact absurd H (by simp)
     ·replace c29:=Bool.eq_false_iff.mpr c29
      subst c29
      have H1:(some (([]:List (S61)),1))=some (r1,r2):=by rw [if_neg (show ¬ (false=true) by decide)] at H;exact H
      clear H;have H:=H1;clear H1
      simp only [Option.some.injEq,Prod.mk.injEq] at H
      obtain ⟨rfl,rfl⟩:=H
      have hnb55:=NB215_214.out
      have hnc55:=NB214_215.out
      have hnb56:=NB215_216.out
      have hnc56:=NB216_215.out
      have hcz57_0:wc.cell? ⟨gb215,0,none⟩=some (.int .i64 a2_0):=(blk_cell BK215.out 0).trans rfl
      have hcz57_1:wc.cell? ⟨gb215,1,none⟩=some (.int .i64 a2_1):=(blk_cell BK215.out 1).trans rfl
      have hfz57_0:=blk_frozen BK215.out 0
      have hfz57_1:=blk_frozen BK215.out 1
      go_wp2_with (first|((with_reducible refine gate_callee (f:=31) rfl ?_);refine goesL_ (some 32) rfl rfl Try.func31 (by kernel_rfl) rfl #[.agg #[.int .i64 a2_0, .int .i64 a2_1]] rfl (by (try simp only [List.map_toArray,List.map_cons,List.map_nil]);first|done|rfl|(simp only [List.length_drop,List.length_take];rfl)) ?_;(with_reducible refine (soundserviceref13_rate.calls kj5 a2_0 a2_1 false _ A28.out).mono ?_);rintro e w58 ⟨rfl,hb⟩;refine ⟨_,rfl,?_⟩;have n0_:=Am (blk_below (g:=gb214) (o:=.cells #[.slice A0_0 l0_0.length c0_0] 24 (0,0)) (by (with_reducible repeat first|apply kN|apply kD|apply kA);exact BK214.out) hb);have n1_:=Am (blk_below (g:=gb215) (o:=.cells #[.int .i64 a2_0, .int .i64 a2_1] 27 (0,0)) (by (with_reducible repeat first|apply kN|apply kD|apply kA);exact BK215.out) hb);have n2_:=Am (blk_below (g:=gb216) (o:=.cells #[.slice none 0 0] 24 (0,0)) (by (with_reducible repeat first|apply kN|apply kD|apply kA);exact BK216.out) hb);have n3_:=Am (below_step (by repeat (first|(with_reducible first|exact HB.out|apply bA|apply bN|apply bD|refine bS ?_ GE214.out|refine bS ?_ GE215.out|refine bS ?_ GE216.out)|exact HB.out)) hb);clear BK214 BK215 BK216 HB;have BK214:=n0_;have BK215:=n1_;have BK216:=n2_;have HB:=n3_;clear n0_ n1_ n2_ n3_;(try clear hb);(try clear hk);have hnb59:=NB216_214.out;have hnc59:=NB214_216.out;have hcz60_0:w58.cell? ⟨gb216,0,none⟩=some (.slice none 0 0):=(blk_cell BK216.out 0).trans rfl;have hfz60_0:=blk_frozen BK216.out 0))
      refine bodyPost_ret (results_ct rfl _ _ gb216 24 #[.slice none 0 0] (0,0) _ rfl (by (with_reducible repeat first|apply kN|apply kD|apply kA);refine blk_put (cs:=#[.slice none 0 0]) ?_ 0 _ rfl;(with_reducible repeat first|apply kN|apply kD|apply kA);exact BK216.out) Try.underlying24 rfl (by kernel_rfl)) rfl ?_
      exact ⟨_,by first|rfl|(simp [errW_none,errW_some] <;> rfl)|(simp [*,errW_none,errW_some] <;> rfl),by first|exact Kd.R_nil _ _ _ _ _|exact Kd.N_nil _ _ _ _ _|exact Kd.V_nil _ _ _ _ _|exact Kd.Q_nil _ _ _ _ _|exact Kd.S_nil _ _ _ _ _,by repeat (first|(with_reducible first|exact HB.out|apply bA|apply bN|apply bD|refine bS ?_ GE214.out|refine bS ?_ GE215.out|refine bS ?_ GE216.out)|exact HB.out)⟩
 ·replace c5:=Bool.eq_false_iff.mpr c5
  subst c5
  have H1:(some (([]:List (S61)),1))=some (r1,r2):=by rw [if_neg (show ¬ (false=true) by decide)] at H;exact H
  clear H;have H:=H1;clear H1
  simp only [Option.some.injEq,Prod.mk.injEq] at H
  obtain ⟨rfl,rfl⟩:=H
  go_enter Try.func16,Try.ntmps16
  go_wp2_with (first|((with_reducible refine gate_dst (N:=3) rfl ?_);refine box_event ?hg (N:=3) ?hd (cs:=#[.slice A0_0 l0_0.length c0_0]) (t:=24) ?hr ?_;(case hd=>rfl);(case hg=>rfl);(case hr=>first|(go_simp;done)|(go_simp;rfl));intro gb214 hg w61 hbox hb;have n0_:=Am (below_step (by repeat (first|(with_reducible first|exact HB.out|apply bA|apply bN|apply bD)|exact HB.out)) hb);have n1_:=Am (hbox);have n2_:=Am ((by rw [hg];exact (below_size (by repeat (first|(with_reducible first|exact HB.out|apply bA|apply bN|apply bD)|exact HB.out))):w.heap.size≤gb214));have n3_:=Am ((by rw [hg];exact (below_size (by repeat (first|(with_reducible first|exact HB.out|apply bA|apply bN|apply bD)|exact HB.out))):w.heap.size≤gb214));clear HB;have HB:=n0_;have BK214:=n1_;have GW214:=n2_;have GE214:=n3_;clear n0_ n1_ n2_ n3_ hb hbox hg)|((with_reducible refine gate_dst (N:=5) rfl ?_);refine box_event ?hg (N:=5) ?hd (cs:=#[.int .i64 a2_0, .int .i64 a2_1]) (t:=27) ?hr ?_;(case hd=>rfl);(case hg=>rfl);(case hr=>first|(go_simp;done)|(go_simp;rfl));intro gb215 hg w62 hbox hb;have n0_:=Am (blk_below (g:=gb214) (o:=.cells #[.slice A0_0 l0_0.length c0_0] 24 (0,0)) (by (with_reducible repeat first|apply kN|apply kD|apply kA);exact BK214.out) hb);have n1_:=Am (below_step (by repeat (first|(with_reducible first|exact HB.out|apply bA|apply bN|apply bD|refine bS ?_ GE214.out)|exact HB.out)) hb);have n2_:=Am (hbox);have n3_:=Am ((by rw [hg];exact (below_size (by repeat (first|(with_reducible first|exact HB.out|apply bA|apply bN|apply bD|refine bS ?_ GE214.out)|exact HB.out))):w.heap.size≤gb215));have n4_:=Am ((by rw [hg];exact (below_size (by repeat (first|(with_reducible first|exact HB.out|apply bA|apply bN|apply bD|refine bS ?_ GE214.out)|exact HB.out))):w.heap.size≤gb215));have n5_:=Am ((by rw [hg];exact Nat.ne_of_lt (blk_lt (g:=gb214) (o:=.cells #[.slice A0_0 l0_0.length c0_0] 24 (0,0)) (by (with_reducible repeat first|apply kN|apply kD|apply kA);exact BK214.out)):gb214≠gb215));have n6_:=Am (n5_.out.symm);clear BK214 HB;have BK214:=n0_;have HB:=n1_;have BK215:=n2_;have GW215:=n3_;have GE215:=n4_;have NB214_215:=n5_;have NB215_214:=n6_;clear n0_ n1_ n2_ n3_ n4_ n5_ n6_ hb hbox hg)|((with_reducible refine gate_dst (N:=6) rfl ?_);refine box_event ?hg (N:=6) ?hd (cs:=#[.slice none 0 0]) (t:=24) ?hr ?_;(case hd=>rfl);(case hg=>rfl);(case hr=>first|(go_simp;done)|(go_simp;rfl));intro gb216 hg w63 hbox hb;have n0_:=Am (blk_below (g:=gb214) (o:=.cells #[.slice A0_0 l0_0.length c0_0] 24 (0,0)) (by (with_reducible repeat first|apply kN|apply kD|apply kA);exact BK214.out) hb);have n1_:=Am (blk_below (g:=gb215) (o:=.cells #[.int .i64 a2_0, .int .i64 a2_1] 27 (0,0)) (by (with_reducible repeat first|apply kN|apply kD|apply kA);exact BK215.out) hb);have n2_:=Am (below_step (by repeat (first|(with_reducible first|exact HB.out|apply bA|apply bN|apply bD|refine bS ?_ GE214.out|refine bS ?_ GE215.out)|exact HB.out)) hb);have n3_:=Am (hbox);have n4_:=Am ((by rw [hg];exact (below_size (by repeat (first|(with_reducible first|exact HB.out|apply bA|apply bN|apply bD|refine bS ?_ GE214.out|refine bS ?_ GE215.out)|exact HB.out))):w.heap.size≤gb216));have n5_:=Am ((by rw [hg];exact (below_size (by repeat (first|(with_reducible first|exact HB.out|apply bA|apply bN|apply bD|refine bS ?_ GE214.out|refine bS ?_ GE215.out)|exact HB.out))):w.heap.size≤gb216));have n6_:=Am ((by rw [hg];exact Nat.ne_of_lt (blk_lt (g:=gb214) (o:=.cells #[.slice A0_0 l0_0.length c0_0] 24 (0,0)) (by (with_reducible repeat first|apply kN|apply kD|apply kA);exact BK214.out)):gb214≠gb216));have n7_:=Am (n6_.out.symm);have n8_:=Am ((by rw [hg];exact Nat.ne_of_lt (blk_lt (g:=gb215) (o:=.cells #[.int .i64 a2_0, .int .i64 a2_1] 27 (0,0)) (by (with_reducible repeat first|apply kN|apply kD|apply kA);exact BK215.out)):gb215≠gb216));have n9_:=Am (n8_.out.symm);clear BK214 BK215 HB;have BK214:=n0_;have BK215:=n1_;have HB:=n2_;have BK216:=n3_;have GW216:=n4_;have GE216:=n5_;have NB214_216:=n6_;have NB216_214:=n7_;have NB215_216:=n8_;have NB216_215:=n9_;clear n0_ n1_ n2_ n3_ n4_ n5_ n6_ n7_ n8_ n9_ hb hbox hg;have hnb64:=NB214_215.out;have hnc64:=NB215_214.out;have hnb65:=NB214_216.out;have hnc65:=NB216_214.out;have hcz66_0:w63.cell? ⟨gb214,0,none⟩=some (.slice A0_0 l0_0.length c0_0):=(blk_cell BK214.out 0).trans rfl;have hfz66_0:=blk_frozen BK214.out 0)|((with_reducible refine gate_callee (f:=18) rfl ?_);refine goesL_ (some 10) rfl rfl Try.func18 (by kernel_rfl) rfl #[.agg #[.slice A0_0 l0_0.length c0_0]] rfl (by (try simp only [List.map_toArray,List.map_cons,List.map_nil]);first|done|rfl|(simp only [List.length_drop,List.length_take];rfl)) ?_;(with_reducible refine (soundserviceref13_Valid.calls k _ _ l0_0 false _ ?side1 ?side2 A4.out).mono ?_);(case side1=>repeat (first|exact (Kd.C_below HR0_0.out HB.out)|(with_reducible refine Kd.C_alloc ?_ _)|(with_reducible refine Kd.C_drewN ?_ _)|(with_reducible refine Kd.C_drew ?_)));(case side2=>exact HC0_0.out);rintro e w67 ⟨rfl,hb⟩;refine ⟨_,rfl,?_⟩;have n0_:=Am (blk_below (g:=gb214) (o:=.cells #[.slice A0_0 l0_0.length c0_0] 24 (0,0)) (by (with_reducible repeat first|apply kN|apply kD|apply kA);exact BK214.out) hb);have n1_:=Am (blk_below (g:=gb215) (o:=.cells #[.int .i64 a2_0, .int .i64 a2_1] 27 (0,0)) (by (with_reducible repeat first|apply kN|apply kD|apply kA);exact BK215.out) hb);have n2_:=Am (blk_below (g:=gb216) (o:=.cells #[.slice none 0 0] 24 (0,0)) (by (with_reducible repeat first|apply kN|apply kD|apply kA);exact BK216.out) hb);have n3_:=Am (below_step (by repeat (first|(with_reducible first|exact HB.out|apply bA|apply bN|apply bD|refine bS ?_ GE214.out|refine bS ?_ GE215.out|refine bS ?_ GE216.out)|exact HB.out)) hb);clear BK214 BK215 BK216 HB;have BK214:=n0_;have BK215:=n1_;have BK216:=n2_;have HB:=n3_;clear n0_ n1_ n2_ n3_;(try clear hb);(try clear hk);have hnb68:=NB216_215.out;have hnc68:=NB215_216.out;have hcz69_0:w67.cell? ⟨gb216,0,none⟩=some (.slice none 0 0):=(blk_cell BK216.out 0).trans rfl;have hfz69_0:=blk_frozen BK216.out 0))
  refine bodyPost_ret (results_ct rfl _ _ gb216 24 #[.slice none 0 0] (0,0) _ rfl (by (with_reducible repeat first|apply kN|apply kD|apply kA);refine blk_put (cs:=#[.slice none 0 0]) ?_ 0 _ rfl;(with_reducible repeat first|apply kN|apply kD|apply kA);exact BK216.out) Try.underlying24 rfl (by kernel_rfl)) rfl ?_
  exact ⟨_,by first|rfl|(simp [errW_none,errW_some] <;> rfl)|(simp [*,errW_none,errW_some] <;> rfl),by first|exact Kd.R_nil _ _ _ _ _|exact Kd.N_nil _ _ _ _ _|exact Kd.V_nil _ _ _ _ _|exact Kd.Q_nil _ _ _ _ _|exact Kd.S_nil _ _ _ _ _,by repeat (first|(with_reducible first|exact HB.out|apply bA|apply bN|apply bD|refine bS ?_ GE214.out|refine bS ?_ GE215.out|refine bS ?_ GE216.out)|exact HB.out)⟩

end Go.Proofs.Ythnmmiofhjbkeaa.PA
