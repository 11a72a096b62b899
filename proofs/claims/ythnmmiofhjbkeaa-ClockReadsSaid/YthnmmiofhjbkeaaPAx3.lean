/- Walks of functions of the program: each does what its Lean function says. Written by a program of this session (wip/xprint), which runs the printer of the kit with changes. -/
import Derived.Test.YthnmmiofhjbkeaaPAx0
import Derived.Test.YthnmmiofhjbkeaaPAx2
namespace Go.Proofs.Ythnmmiofhjbkeaa.PA
open Go.RowKit Go.Proofs.YthnmmiofhjbkeaaW.PrintWords Go.Proofs.YthnmmiofhjbkeaaW.PrintLast Go.Proofs.YthnmmiofhjbkeaaW.PrintMore
attribute [local go_sem] max2_int min2_int max_two min_two max_three min_three max_four min_four   -- for this text's walks alone
set_option linter.unusedVariables false
set_option linter.unusedSimpArgs false

/-! ### clock_Valid: function 17 -/
def clock_Valid.l0:Nat→List (S61)→Int→Int→List (S61)→Option (Bool)
 | 0,_,_,_,_=>none
 | k+1,x6,x7,x8,x112000=>if x8 < x7 then (if 0≤x8 then (if x8 < (x6.length:Int) then ((clock_usual.f k ((rd_T61 x6 x8).f1.f0) ((rd_T61 x6 x8).f1.f1)).bind fun t114=>(if t114=true then (if ((rd_T61 x6 x8).f0) > 1099511627776 then (some false) else (if x8=0 then (if ((rd_T61 x6 x8).f0)=0 then (if x8 > 0 then (if 0≤(wrap64 (x8 - 1)) then (if (wrap64 (x8 - 1)) < (x112000.length:Int) then (if ((rd_T61 x6 x8).f0)≤((rd_T61 x112000 (wrap64 (x8 - 1))).f0) then (some false) else (clock_Valid.l0 k x6 x7 (wrap64 (x8+1)) x112000)) else (none)) else (none)) else (clock_Valid.l0 k x6 x7 (wrap64 (x8+1)) x112000)) else (some false)) else (if x8 > 0 then (if 0≤(wrap64 (x8 - 1)) then (if (wrap64 (x8 - 1)) < (x112000.length:Int) then (if ((rd_T61 x6 x8).f0)≤((rd_T61 x112000 (wrap64 (x8 - 1))).f0) then (some false) else (clock_Valid.l0 k x6 x7 (wrap64 (x8+1)) x112000)) else (none)) else (none)) else (clock_Valid.l0 k x6 x7 (wrap64 (x8+1)) x112000)))) else (some false))) else (none)) else (none)) else (if (x112000.length:Int) ≥ 1 then (some (decide ((x112000.length:Int)≤64))) else (some false))
def clock_Valid.f (k:Nat) (l0_0:List (S61)):Option (Bool):=clock_Valid.l0 k l0_0 (l0_0.length:Int) 0 l0_0
theorem clock_Valid.mono_l:∀ k,(∀ y0 y1 y2 y3,LeO (clock_Valid.l0 k y0 y1 y2 y3) (clock_Valid.l0 (k+1) y0 y1 y2 y3))
 | 0=>fun _ _ _ _ r h=>by simp [clock_Valid.l0] at h
 | k+1=>by
  have ih0:=clock_Valid.mono_l k
  ·intro y0 y1 y2 y3
   unfold clock_Valid.l0
   repeat' first
   | (with_reducible exact ih0 _ _ _ _)
   | (with_reducible exact clock_usual.mono _ _ _)
   | (with_reducible exact LeO.refl _)
   | (with_reducible exact LeO.none _)
   | (with_reducible refine LeO.ite ?_ ?_)
   | (with_reducible refine LeO.bind ?_ (fun _=>?_))
   | exact ih0 _ _ _ _
   | exact clock_usual.mono _ _ _
   | exact LeO.none _
   | refine LeO.ite ?_ ?_
   | refine LeO.bind ?_ (fun _=>?_)
theorem clock_Valid.mono:∀ a0 k,LeO (clock_Valid.f k a0) (clock_Valid.f (k+1) a0):=by
 intro a0 k
 have ih0:=clock_Valid.mono_l k
 unfold clock_Valid.f
 repeat' first
   | (with_reducible exact ih0 _ _ _ _)
   | (with_reducible exact clock_usual.mono _ _ _)
   | (with_reducible exact LeO.refl _)
   | (with_reducible exact LeO.none _)
   | (with_reducible refine LeO.ite ?_ ?_)
   | (with_reducible refine LeO.bind ?_ (fun _=>?_))
   | exact ih0 _ _ _ _
   | exact clock_usual.mono _ _ _
   | exact LeO.none _
   | refine LeO.ite ?_ ?_
   | refine LeO.bind ?_ (fun _=>?_)
def clock_Valid.T4:Bool × List (List Nat × List Nat):=(true, [([], []),([0], [0]),([1], [1]),([2], [2]),([3,2], [3]),([4], [4]),([5,4], [4,5]),([6,4], [4,6]),([4,7], [4,7]),([8,4], [8]),([9], [9]),([10,9], [9,10]),([11,9,9], [9,11]),([12], [12]),([13,12], [12,13]),([14,12], [12,14]),([12,15,9], [9,12,15]),([9,16], [9,16]),([17,12], [17]),([18], [18]),([19,18], [18,19]),([20,18,18], [18,20]),([21], [21]),([22,21], [21,22]),([21], [21]),([24,21], [21,24]),([21], [21]),([26,21], [21,26]),([25,27,21], [21,25,27]),([28,21], [21,28]),([29,21], [21,29]),([23,30,21], [21,23,30]),([21,31,18], [18,21,31]),([18,32], [18,32])])
def clock_Valid.B4:List Nat:=[0,1,3,7,15,31,63,127,255,511,1023,2047,4095,8191,16383,32767,65535,131071,262143,524287,1048575,2097151,4194303,8388607,4194303,20971519,4194303,71303167,255852543,524287999,1061158911,2147483647,4294967295,8589934591]
theorem clock_Valid.tab4:rtab .any (opsOf Try.f17 4)=clock_Valid.T4:=by kernel_rfl
theorem clock_Valid.bits4:waitsOk clock_Valid.T4.2 clock_Valid.B4=true:=by kernel_rfl
abbrev clock_Valid.q0:Array Bool:=#[false,false,false,false,false,false,false,false,false,false,false,false,false,false,false,false,false,false,false,false,false,false,false,false,false,false,false,false,false,false,false,false,false,false]
abbrev clock_Valid.q1:Array Bool:=#[true,false,false,false,false,false,false,false,false,false,false,false,false,false,false,false,false,false,false,false,false,false,false,false,false,false,false,false,false,false,false,false,false,false]
abbrev clock_Valid.q2:Array Bool:=#[true,true,false,false,false,false,false,false,false,false,false,false,false,false,false,false,false,false,false,false,false,false,false,false,false,false,false,false,false,false,false,false,false,false]
abbrev clock_Valid.q3:Array Bool:=#[true,true,true,false,false,false,false,false,false,false,false,false,false,false,false,false,false,false,false,false,false,false,false,false,false,false,false,false,false,false,false,false,false,false]
abbrev clock_Valid.q4:Array Bool:=#[true,true,true,true,false,false,false,false,false,false,false,false,false,false,false,false,false,false,false,false,false,false,false,false,false,false,false,false,false,false,false,false,false,false]
abbrev clock_Valid.q5:Array Bool:=#[true,true,true,true,true,false,false,false,false,false,false,false,false,false,false,false,false,false,false,false,false,false,false,false,false,false,false,false,false,false,false,false,false,false]
abbrev clock_Valid.q6:Array Bool:=#[true,true,true,true,true,true,false,false,false,false,false,false,false,false,false,false,false,false,false,false,false,false,false,false,false,false,false,false,false,false,false,false,false,false]
abbrev clock_Valid.q7:Array Bool:=#[true,true,true,true,true,true,true,false,false,false,false,false,false,false,false,false,false,false,false,false,false,false,false,false,false,false,false,false,false,false,false,false,false,false]
abbrev clock_Valid.q8:Array Bool:=#[true,true,true,true,true,true,true,true,false,false,false,false,false,false,false,false,false,false,false,false,false,false,false,false,false,false,false,false,false,false,false,false,false,false]
abbrev clock_Valid.q9:Array Bool:=#[true,true,true,true,true,true,true,true,true,false,false,false,false,false,false,false,false,false,false,false,false,false,false,false,false,false,false,false,false,false,false,false,false,false]
abbrev clock_Valid.q10:Array Bool:=#[true,true,true,true,true,true,true,true,true,true,false,false,false,false,false,false,false,false,false,false,false,false,false,false,false,false,false,false,false,false,false,false,false,false]
abbrev clock_Valid.q11:Array Bool:=#[true,true,true,true,true,true,true,true,true,true,true,false,false,false,false,false,false,false,false,false,false,false,false,false,false,false,false,false,false,false,false,false,false,false]
abbrev clock_Valid.q12:Array Bool:=#[true,true,true,true,true,true,true,true,true,true,true,true,false,false,false,false,false,false,false,false,false,false,false,false,false,false,false,false,false,false,false,false,false,false]
abbrev clock_Valid.q13:Array Bool:=#[true,true,true,true,true,true,true,true,true,true,true,true,true,false,false,false,false,false,false,false,false,false,false,false,false,false,false,false,false,false,false,false,false,false]
abbrev clock_Valid.q14:Array Bool:=#[true,true,true,true,true,true,true,true,true,true,true,true,true,true,false,false,false,false,false,false,false,false,false,false,false,false,false,false,false,false,false,false,false,false]
abbrev clock_Valid.q15:Array Bool:=#[true,true,true,true,true,true,true,true,true,true,true,true,true,true,true,false,false,false,false,false,false,false,false,false,false,false,false,false,false,false,false,false,false,false]
abbrev clock_Valid.q16:Array Bool:=#[true,true,true,true,true,true,true,true,true,true,true,true,true,true,true,true,false,false,false,false,false,false,false,false,false,false,false,false,false,false,false,false,false,false]
abbrev clock_Valid.q17:Array Bool:=#[true,true,true,true,true,true,true,true,true,true,true,true,true,true,true,true,true,false,false,false,false,false,false,false,false,false,false,false,false,false,false,false,false,false]
abbrev clock_Valid.q18:Array Bool:=#[true,true,true,true,true,true,true,true,true,true,true,true,true,true,true,true,true,true,false,false,false,false,false,false,false,false,false,false,false,false,false,false,false,false]
abbrev clock_Valid.q19:Array Bool:=#[true,true,true,true,true,true,true,true,true,true,true,true,true,true,true,true,true,true,true,false,false,false,false,false,false,false,false,false,false,false,false,false,false,false]
abbrev clock_Valid.q20:Array Bool:=#[true,true,true,true,true,true,true,true,true,true,true,true,true,true,true,true,true,true,true,true,false,false,false,false,false,false,false,false,false,false,false,false,false,false]
abbrev clock_Valid.q21:Array Bool:=#[true,true,true,true,true,true,true,true,true,true,true,true,true,true,true,true,true,true,true,true,true,false,false,false,false,false,false,false,false,false,false,false,false,false]
abbrev clock_Valid.q22:Array Bool:=#[true,true,true,true,true,true,true,true,true,true,true,true,true,true,true,true,true,true,true,true,true,true,false,false,false,false,false,false,false,false,false,false,false,false]
abbrev clock_Valid.q23:Array Bool:=#[true,true,true,true,true,true,true,true,true,true,true,true,true,true,true,true,true,true,true,true,true,true,true,false,false,false,false,false,false,false,false,false,false,false]
abbrev clock_Valid.q24:Array Bool:=#[true,true,true,true,true,true,true,true,true,true,true,true,true,true,true,true,true,true,true,true,true,true,true,true,false,false,false,false,false,false,false,false,false,false]
abbrev clock_Valid.q25:Array Bool:=#[true,true,true,true,true,true,true,true,true,true,true,true,true,true,true,true,true,true,true,true,true,true,true,true,true,false,false,false,false,false,false,false,false,false]
abbrev clock_Valid.q26:Array Bool:=#[true,true,true,true,true,true,true,true,true,true,true,true,true,true,true,true,true,true,true,true,true,true,true,true,true,true,false,false,false,false,false,false,false,false]
abbrev clock_Valid.q27:Array Bool:=#[true,true,true,true,true,true,true,true,true,true,true,true,true,true,true,true,true,true,true,true,true,true,true,true,true,true,true,false,false,false,false,false,false,false]
abbrev clock_Valid.q28:Array Bool:=#[true,true,true,true,true,true,true,true,true,true,true,true,true,true,true,true,true,true,true,true,true,true,true,true,true,true,true,true,false,false,false,false,false,false]
abbrev clock_Valid.q29:Array Bool:=#[true,true,true,true,true,true,true,true,true,true,true,true,true,true,true,true,true,true,true,true,true,true,true,true,true,true,true,true,true,false,false,false,false,false]
abbrev clock_Valid.q30:Array Bool:=#[true,true,true,true,true,true,true,true,true,true,true,true,true,true,true,true,true,true,true,true,true,true,true,true,true,true,true,true,true,true,false,false,false,false]
abbrev clock_Valid.q31:Array Bool:=#[true,true,true,true,true,true,true,true,true,true,true,true,true,true,true,true,true,true,true,true,true,true,true,true,true,true,true,true,true,true,true,false,false,false]
abbrev clock_Valid.q32:Array Bool:=#[true,true,true,true,true,true,true,true,true,true,true,true,true,true,true,true,true,true,true,true,true,true,true,true,true,true,true,true,true,true,true,true,false,false]
abbrev clock_Valid.q33:Array Bool:=#[true,true,true,true,true,true,true,true,true,true,true,true,true,true,true,true,true,true,true,true,true,true,true,true,true,true,true,true,true,true,true,true,true,false]
abbrev clock_Valid.q34:Array Bool:=#[true,true,true,true,true,true,true,true,true,true,true,true,true,true,true,true,true,true,true,true,true,true,true,true,true,true,true,true,true,true,true,true,true,true]
abbrev clock_Valid.q35:Array Bool:=#[true,true,true,true,true,true,true,true,true,true,true,true,true,true,true,true,true,true,true,true,true,true,true,false,true,false,false,false,false,false,false,false,false,false]
abbrev clock_Valid.q36:Array Bool:=#[true,true,true,true,true,true,true,true,true,true,true,true,true,true,true,true,true,true,true,true,true,true,true,false,true,false,true,false,false,false,false,false,false,false]
abbrev clock_Valid.q37:Array Bool:=#[true,true,true,true,true,true,true,true,true,true,true,true,true,true,true,true,true,true,true,true,true,true,true,false,true,false,true,true,false,false,false,false,false,false]
abbrev clock_Valid.q38:Array Bool:=#[true,true,true,true,true,true,true,true,true,true,true,true,true,true,true,true,true,true,true,true,true,true,true,true,true,false,true,true,false,false,false,false,false,false]
set_option maxHeartbeats 8000000 in
set_option maxRecDepth 100000 in
theorem clock_Valid.calls (k:Nat) (A0_0:Option Addr) (c0_0:Nat) (l0_0:List (S61)) (r:Bool) (w:World) (hr0_0:Kd.C k61 w A0_0 l0_0.length l0_0) (hc0_0:l0_0.length≤c0_0) (h:clock_Valid.f k l0_0=some r) :
  Calls Try.prog 17 #[.agg #[.slice A0_0 l0_0.length c0_0]] w fun e w'=>e=.returned (.bool r)∧Below w.heap.size w w':=by
 have hu24:=Try.underlying24
 have hu61:=Try.underlying61
 have hu27:=Try.underlying27
 have HR0_0:=Am hr0_0
 have HC0_0:=Am hc0_0
 clear hr0_0 hc0_0
 have HB:=Am (Below.refl w.heap.size w)
 have H:(clock_Valid.l0 k l0_0 (l0_0.length:Int) 0 l0_0)=some r:=h
 clear h
 have H':=Am H
 clear H
 go_enter Try.func17,Try.ntmps17
 go_wp2_with (first|((with_reducible refine gate_dst (N:=1) rfl ?_);refine box_event ?hg (N:=1) ?hd (cs:=#[.slice A0_0 l0_0.length c0_0]) (t:=24) ?hr ?_;(case hd=>rfl);(case hg=>rfl);(case hr=>first|(go_simp;done)|(go_simp;rfl));intro gb111 hg w2 hbox hb;have n0_:=Am (below_step (by repeat (first|(with_reducible first|exact HB.out|apply bA|apply bN|apply bD)|exact HB.out)) hb);have n1_:=Am (hbox);have n2_:=Am ((by rw [hg];exact (below_size (by repeat (first|(with_reducible first|exact HB.out|apply bA|apply bN|apply bD)|exact HB.out))):w.heap.size≤gb111));have n3_:=Am ((by rw [hg];exact (below_size (by repeat (first|(with_reducible first|exact HB.out|apply bA|apply bN|apply bD)|exact HB.out))):w.heap.size≤gb111));clear HB;have HB:=n0_;have BK111:=n1_;have GW111:=n2_;have GE111:=n3_;clear n0_ n1_ n2_ n3_ hb hbox hg;have hcz3_0:w2.cell? ⟨gb111,0,none⟩=some (.slice A0_0 l0_0.length c0_0):=(blk_cell BK111.out 0).trans rfl;have hfz3_0:=blk_frozen BK111.out 0))
 go_loopg [8] k (fun kq v8 w'=>∃ (x8_1:Int),v8=.int .i64 x8_1∧Aside0 (clock_Valid.l0 kq l0_0 (l0_0.length:Int) x8_1 l0_0=some r)∧Aside0 (kq≤k)∧Aside0 (w'.heap[gb111]?=some (.cells #[(.slice A0_0 l0_0.length c0_0)] 24 (0,0)))∧Aside0 (Below w.heap.size w w'))
 case atStart=>exact ⟨(0),(by first|rfl|(simp;done)|(simp [*];done)),H',⟨Nat.le_refl _⟩,⟨by (with_reducible repeat first|apply kN|apply kD|apply kA);exact BK111.out⟩,⟨by repeat (first|(with_reducible first|exact HB.out|apply bA|apply bN|apply bD|refine bS ?_ GE111.out)|exact HB.out)⟩⟩
 case round =>
  clear H'
  (try clear c1);(try clear p2);(try clear hcz3_0);(try clear hfz3_0)
  obtain ⟨x8_1,rfl,HA,HK1,BK111,HB⟩:=hrel
  cases gk with
  | zero=>exact absurd HA.out (by simp [clock_Valid.l0])
  | succ k1 =>
   have H:=HA.out
   clear HA
   simp only [clock_Valid.l0] at H
   by_cases c4:x8_1 < (l0_0.length:Int)
   ·rw [if_pos c4] at H
    have c4b0:decide (x8_1 < (l0_0.length:Int))=true:=decide_eq_true c4
    clear c4
    by_cases c5:0≤x8_1
    ·rw [if_pos c5] at H
     have c5b0:decide (0≤x8_1)=true:=decide_eq_true c5
     clear c5
     by_cases c6:x8_1 < (l0_0.length:Int)
     ·rw [if_pos c6] at H
      have c6b0:decide (x8_1 < (l0_0.length:Int))=true:=decide_eq_true c6
      clear c6
      replace H:=Option.bind_eq_some_iff.mp H
      obtain ⟨t114,A70,H⟩:=H
      replace H:(if t114=true then (if ((rd_T61 l0_0 x8_1).f0) > 1099511627776 then (some false) else (if x8_1=0 then (if ((rd_T61 l0_0 x8_1).f0)=0 then (if x8_1 > 0 then (if 0≤(wrap64 (x8_1 - 1)) then (if (wrap64 (x8_1 - 1)) < (l0_0.length:Int) then (if ((rd_T61 l0_0 x8_1).f0)≤((rd_T61 l0_0 (wrap64 (x8_1 - 1))).f0) then (some false) else (clock_Valid.l0 k1 l0_0 (l0_0.length:Int) (wrap64 (x8_1+1)) l0_0)) else (none)) else (none)) else (clock_Valid.l0 k1 l0_0 (l0_0.length:Int) (wrap64 (x8_1+1)) l0_0)) else (some false)) else (if x8_1 > 0 then (if 0≤(wrap64 (x8_1 - 1)) then (if (wrap64 (x8_1 - 1)) < (l0_0.length:Int) then (if ((rd_T61 l0_0 x8_1).f0)≤((rd_T61 l0_0 (wrap64 (x8_1 - 1))).f0) then (some false) else (clock_Valid.l0 k1 l0_0 (l0_0.length:Int) (wrap64 (x8_1+1)) l0_0)) else (none)) else (none)) else (clock_Valid.l0 k1 l0_0 (l0_0.length:Int) (wrap64 (x8_1+1)) l0_0)))) else (some false))=some r:=H
      have A7:=Am A70
      clear A70
      by_cases c8:t114=true
      ·subst c8
       have H1:(if ((rd_T61 l0_0 x8_1).f0) > 1099511627776 then (some false) else (if x8_1=0 then (if ((rd_T61 l0_0 x8_1).f0)=0 then (if x8_1 > 0 then (if 0≤(wrap64 (x8_1 - 1)) then (if (wrap64 (x8_1 - 1)) < (l0_0.length:Int) then (if ((rd_T61 l0_0 x8_1).f0)≤((rd_T61 l0_0 (wrap64 (x8_1 - 1))).f0) then (some false) else (clock_Valid.l0 k1 l0_0 (l0_0.length:Int) (wrap64 (x8_1+1)) l0_0)) else (none)) else (none)) else (clock_Valid.l0 k1 l0_0 (l0_0.length:Int) (wrap64 (x8_1+1)) l0_0)) else (some false)) else (if x8_1 > 0 then (if 0≤(wrap64 (x8_1 - 1)) then (if (wrap64 (x8_1 - 1)) < (l0_0.length:Int) then (if ((rd_T61 l0_0 x8_1).f0)≤((rd_T61 l0_0 (wrap64 (x8_1 - 1))).f0) then (some false) else (clock_Valid.l0 k1 l0_0 (l0_0.length:Int) (wrap64 (x8_1+1)) l0_0)) else (none)) else (none)) else (clock_Valid.l0 k1 l0_0 (l0_0.length:Int) (wrap64 (x8_1+1)) l0_0))))=some r:=by rw [if_pos rfl] at H;exact H
       clear H;have H:=H1;clear H1
       by_cases c9:((rd_T61 l0_0 x8_1).f0) > 1099511627776
       ·rw [if_pos c9] at H
        have c9b0:decide (1099511627776 < ((rd_T61 l0_0 x8_1).f0))=true:=decide_eq_true c9
        clear c9
        obtain rfl:=Option.some.inj H
        have p112:0≤(x8_1:Int):=of_decide_eq_true (by first|(with_reducible assumption)|assumption)
        have q112:x8_1 < (l0_0.length:Int):=of_decide_eq_true (by first|(with_reducible assumption)|assumption)
        obtain ⟨ad112,e112,hx112_0,hx112_1,hx112_2⟩:=at_T61 HR0_0.out x8_1 p112 q112
        cases e112
        replace hx112_0:=(HB.out.cell (World.block_lt_of_cell? w _ hx112_0)).trans hx112_0
        replace hx112_1:=(HB.out.cell (World.block_lt_of_cell? w _ hx112_1)).trans hx112_1
        replace hx112_2:=(HB.out.cell (World.block_lt_of_cell? w _ hx112_2)).trans hx112_2
        replace p112:=eq_true p112
        replace q112:=eq_true q112
        try go_wp2_with (first|((with_reducible refine gate_dst (N:=4) rfl ?_);refine box_event ?hg (N:=4) ?hd (cs:=#[.int .i64 0, .int .i64 0, .int .i64 0]) (t:=61) ?hr ?_;(case hd=>rfl);(case hg=>rfl);(case hr=>first|(go_simp;done)|(go_simp;rfl));intro gb113 hg w10 hbox hb;have n0_:=Am (blk_below (g:=gb111) (o:=.cells #[.slice (some ad112) l0_0.length c0_0] 24 (0,0)) (by (with_reducible repeat first|apply kN|apply kD|apply kA);exact BK111.out) hb);have n1_:=Am (below_step (by repeat (first|(with_reducible first|exact HB.out|apply bA|apply bN|apply bD|refine bS ?_ GE111.out)|exact HB.out)) hb);have n2_:=Am (hbox);have n3_:=Am ((by rw [hg];exact (below_size (by repeat (first|(with_reducible first|exact HB.out|apply bA|apply bN|apply bD|refine bS ?_ GE111.out)|exact HB.out))):w.heap.size≤gb113));have n4_:=Am ((by rw [hg];exact (below_size (by repeat (first|(with_reducible first|exact HB.out|apply bA|apply bN|apply bD|refine bS ?_ GE111.out)|exact HB.out))):w.heap.size≤gb113));have n5_:=Am ((by rw [hg];exact Nat.ne_of_lt (blk_lt (g:=gb111) (o:=.cells #[.slice (some ad112) l0_0.length c0_0] 24 (0,0)) (by (with_reducible repeat first|apply kN|apply kD|apply kA);exact BK111.out)):gb111≠gb113));have n6_:=Am (n5_.out.symm);clear BK111 HB;have BK111:=n0_;have HB:=n1_;have BK113:=n2_;have GW113:=n3_;have GE113:=n4_;have NB111_113:=n5_;have NB113_111:=n6_;clear n0_ n1_ n2_ n3_ n4_ n5_ n6_ hb hbox hg;have hnb11:=NB113_111.out;have hnc11:=NB111_113.out;have hcz12_0:w10.cell? ⟨gb113,0,none⟩=some (.int .i64 0):=(blk_cell BK113.out 0).trans rfl;have hcz12_1:w10.cell? ⟨gb113,1,none⟩=some (.int .i64 0):=(blk_cell BK113.out 1).trans rfl;have hcz12_2:w10.cell? ⟨gb113,2,none⟩=some (.int .i64 0):=(blk_cell BK113.out 2).trans rfl;have hfz12_0:=blk_frozen BK113.out 0;have hfz12_1:=blk_frozen BK113.out 1;have hfz12_2:=blk_frozen BK113.out 2))
        have n0_:Aside0 ((((w10.setCell ⟨gb113,0,none⟩ (.int .i64 ((rd_T61 l0_0 x8_1).f0))).setCell ⟨gb113,1,none⟩ (.int .i64 ((rd_T61 l0_0 x8_1).f1.f0))).setCell ⟨gb113,2,none⟩ (.int .i64 ((rd_T61 l0_0 x8_1).f1.f1))).heap[gb111]?=some (.cells #[.slice (some ad112) l0_0.length c0_0] 24 (0,0))):=⟨by (with_reducible repeat first|apply kN|apply kD|apply kA);refine blk_far ?_ NB111_113.out _;(with_reducible repeat first|apply kN|apply kD|apply kA);refine blk_far ?_ NB111_113.out _;(with_reducible repeat first|apply kN|apply kD|apply kA);refine blk_far ?_ NB111_113.out _;(with_reducible repeat first|apply kN|apply kD|apply kA);exact BK111.out⟩
        have n1_:Aside0 ((((w10.setCell ⟨gb113,0,none⟩ (.int .i64 ((rd_T61 l0_0 x8_1).f0))).setCell ⟨gb113,1,none⟩ (.int .i64 ((rd_T61 l0_0 x8_1).f1.f0))).setCell ⟨gb113,2,none⟩ (.int .i64 ((rd_T61 l0_0 x8_1).f1.f1))).heap[gb113]?=some (.cells #[.int .i64 ((rd_T61 l0_0 x8_1).f0), .int .i64 ((rd_T61 l0_0 x8_1).f1.f0), .int .i64 ((rd_T61 l0_0 x8_1).f1.f1)] 61 (0,0))):=⟨by (with_reducible repeat first|apply kN|apply kD|apply kA);refine blk_put (cs:=#[.int .i64 ((rd_T61 l0_0 x8_1).f0), .int .i64 ((rd_T61 l0_0 x8_1).f1.f0), .int .i64 0]) ?_ 2 _ rfl;(with_reducible repeat first|apply kN|apply kD|apply kA);refine blk_put (cs:=#[.int .i64 ((rd_T61 l0_0 x8_1).f0), .int .i64 0, .int .i64 0]) ?_ 1 _ rfl;(with_reducible repeat first|apply kN|apply kD|apply kA);refine blk_put (cs:=#[.int .i64 0, .int .i64 0, .int .i64 0]) ?_ 0 _ rfl;(with_reducible repeat first|apply kN|apply kD|apply kA);exact BK113.out⟩
        have n2_:Aside0 (Below w.heap.size w (((w10.setCell ⟨gb113,0,none⟩ (.int .i64 ((rd_T61 l0_0 x8_1).f0))).setCell ⟨gb113,1,none⟩ (.int .i64 ((rd_T61 l0_0 x8_1).f1.f0))).setCell ⟨gb113,2,none⟩ (.int .i64 ((rd_T61 l0_0 x8_1).f1.f1)))):=⟨by repeat (first|(with_reducible first|exact HB.out|apply bA|apply bN|apply bD|refine bS ?_ GE111.out|refine bS ?_ GE113.out)|exact HB.out)⟩
        (try clear BK111);(try clear BK113);(try clear HB)
        generalize (((w10.setCell ⟨gb113,0,none⟩ (.int .i64 ((rd_T61 l0_0 x8_1).f0))).setCell ⟨gb113,1,none⟩ (.int .i64 ((rd_T61 l0_0 x8_1).f1.f0))).setCell ⟨gb113,2,none⟩ (.int .i64 ((rd_T61 l0_0 x8_1).f1.f1)))=w13 at n0_ n1_ n2_ ⊢
        have BK111:=n0_;have BK113:=n1_;have HB:=n2_;clear n0_ n1_ n2_
        have n0_:=Am (kD BK111.out)
        have n1_:=Am (kD BK113.out)
        have n2_:=Am (bD HB.out)
        clear BK111 BK113 HB;have BK111:=n0_;have BK113:=n1_;have HB:=n2_;clear n0_ n1_ n2_
        refine start_ (n:=34) (S:=fun w'=>w'.cell? ⟨gb113,0,none⟩=some (.int .i64 ((rd_T61 l0_0 x8_1).f0))∧w'.cell? ⟨gb113,1,none⟩=some (.int .i64 ((rd_T61 l0_0 x8_1).f1.f0))∧w'.cell? ⟨gb113,2,none⟩=some (.int .i64 ((rd_T61 l0_0 x8_1).f1.f1))) (ds:=[]) clock_Valid.q0 (by kernel_rfl) rfl rfl ⟨(blk_cell BK113.out 0).trans rfl,(blk_cell BK113.out 1).trans rfl,(blk_cell BK113.out 2).trans rfl⟩ (fun hHeld=>?_);refine with_tabW clock_Valid.tab4 clock_Valid.bits4 (fun HT_ HW_=>?_)
        generalize w13.drew=w14 at BK111 BK113 HB hHeld ⊢
        refine pure_ (i:=0) (N:=some 13) (v:=?_) (a':=?_) clock_Valid.q1 rfl rfl (any_of HT_.out (by kernel_rfl)) (fun _ _ _ h=>h) (Or.inl ⟨by rfl,?_⟩) ?_ ?_
        rotate_left;(· intro w';go_simp;with_reducible rfl);rotate_left;(· simp only [pL,i64_w,i32_w];rfl)
        refine take_ (i:=1) (N:=some 14) (v:=?_) (a':=?_) clock_Valid.q2 rfl rfl (take_ofW HT_.out HW_.out (by kernel_rfl)) (fun _ _ _ h=>h) (Or.inl ⟨by rfl,?_⟩) hHeld ?_ ?_
        rotate_left;(· rintro w' ⟨s0,s1,s2⟩;go_simp;with_reducible rfl);rotate_left;(· simp only [pL,i64_w,i32_w];rfl)
        refine one_ (i:=2) (N:=some 15) clock_Valid.q3 rfl rfl (one_of HT_.out (by kernel_rfl)) (by decide) (fun K hK=>?_)
        refine goes_ Try.func30 (by kernel_rfl) rfl #[.agg #[.int .i64 ((rd_T61 l0_0 x8_1).f1.f0), .int .i64 ((rd_T61 l0_0 x8_1).f1.f1)]] (by rfl) rfl rfl (by (try simp only [List.map_toArray,List.map_cons,List.map_nil]);first|done|rfl|(simp only [List.length_drop,List.length_take];rfl)) ?_
        with_reducible refine (clock_usual.calls k1 ((rd_T61 l0_0 x8_1).f1.f0) ((rd_T61 l0_0 x8_1).f1.f1) true _ A7.out).mono ?_
        rintro e w15 ⟨rfl,hb⟩
        refine ⟨_,rfl,?_⟩
        have n0_:=Am (blk_below (g:=gb111) (o:=.cells #[.slice (some ad112) l0_0.length c0_0] 24 (0,0)) (by (with_reducible repeat first|apply kN|apply kD|apply kA);exact BK111.out) hb)
        have n1_:=Am (blk_below (g:=gb113) (o:=.cells #[.int .i64 ((rd_T61 l0_0 x8_1).f0), .int .i64 ((rd_T61 l0_0 x8_1).f1.f0), .int .i64 ((rd_T61 l0_0 x8_1).f1.f1)] 61 (0,0)) (by (with_reducible repeat first|apply kN|apply kD|apply kA);exact BK113.out) hb)
        have n2_:=Am (below_step (by repeat (first|(with_reducible first|exact HB.out|apply bA|apply bN|apply bD|refine bS ?_ GE111.out|refine bS ?_ GE113.out)|exact HB.out)) hb)
        clear BK111 BK113 HB;have BK111:=n0_;have BK113:=n1_;have HB:=n2_;clear n0_ n1_ n2_;(try clear hb)
        refine hK.out _ _ ⟨(blk_cell BK113.out 0).trans rfl,(blk_cell BK113.out 1).trans rfl,(blk_cell BK113.out 2).trans rfl⟩ (fun hHeld=>?_)
        clear hK K
        refine norm_ (a':=?_) ?_ ?_
        rotate_left
        ·show Act.put _ (some 15) _=_
         simp only [pL,i64_w,i32_w]
         rfl
        refine pure_ (i:=3) (N:=some 16) (v:=?_) (a':=?_) clock_Valid.q4 rfl rfl (any_of HT_.out (by kernel_rfl)) (fun _ _ _ h=>h) (Or.inl ⟨by rfl,?_⟩) ?_ ?_
        rotate_left;(· intro w';go_simp;with_reducible rfl);rotate_left;(· simp only [pL,i64_w,i32_w];rfl)
        refine pure_ (i:=4) (N:=some 17) (v:=?_) (a':=?_) clock_Valid.q5 rfl rfl (any_of HT_.out (by kernel_rfl)) (fun _ _ _ h=>h) (Or.inl ⟨by rfl,?_⟩) ?_ ?_
        rotate_left;(· intro w';go_simp;with_reducible rfl);rotate_left;(· simp only [pL,i64_w,i32_w];rfl)
        refine pure_ (i:=5) (N:=some 18) (v:=?_) (a':=?_) clock_Valid.q6 rfl rfl (any_of HT_.out (by kernel_rfl)) (fun _ _ _ h=>h) (Or.inl ⟨by rfl,?_⟩) ?_ ?_
        rotate_left;(· intro w';go_simp;with_reducible rfl);rotate_left;(· simp only [pL,i64_w,i32_w];rfl)
        refine take_ (i:=6) (N:=some 19) (v:=?_) (a':=?_) clock_Valid.q7 rfl rfl (take_ofW HT_.out HW_.out (by kernel_rfl)) (fun _ _ _ h=>h) (Or.inl ⟨by rfl,?_⟩) hHeld ?_ ?_
        rotate_left;(· rintro w' ⟨s0,s1,s2⟩;go_simp;with_reducible rfl);rotate_left;(· simp only [pL,i64_w,i32_w];rfl)
        refine pure_ (i:=7) (N:=some 20) (v:=?_) (a':=?_) clock_Valid.q8 rfl rfl (any_of HT_.out (by kernel_rfl)) (fun _ _ _ h=>h) (Or.inl ⟨by rfl,?_⟩) ?_ ?_
        rotate_left;(· intro w';go_simp;with_reducible rfl);rotate_left;(· simp only [pL,i64_w,i32_w];rfl)
        refine pure_ (i:=8) (N:=some 21) (v:=?_) (a':=?_) clock_Valid.q9 rfl rfl (any_of HT_.out (by kernel_rfl)) (fun _ _ _ h=>h) (Or.inl ⟨by rfl,?_⟩) ?_ ?_
        rotate_left;(· intro w';go_simp;with_reducible rfl);rotate_left;(· simp only [pL,i64_w,i32_w];rfl)
        refine pure_ (i:=9) (N:=some 22) (v:=?_) (a':=?_) clock_Valid.q10 rfl rfl (any_of HT_.out (by kernel_rfl)) (fun _ _ _ h=>h) (Or.inl ⟨by rfl,?_⟩) ?_ ?_
        rotate_left;(· intro w';go_simp;with_reducible rfl);rotate_left;(· simp only [pL,i64_w,i32_w];rfl)
        refine pure_ (i:=10) (N:=some 23) (v:=undef) (a':=?_) clock_Valid.q11 rfl rfl (any_of HT_.out (by kernel_rfl)) (fun _ _ _ h=>h) (Or.inr ⟨by rfl,rfl⟩) ?_ ?_
        rotate_left
        ·simp only [pL,i64_w,i32_w]
         rfl
        refine pure_ (i:=11) (N:=some 24) (v:=undef) (a':=?_) clock_Valid.q12 rfl rfl (any_of HT_.out (by kernel_rfl)) (fun _ _ _ h=>h) (Or.inr ⟨by rfl,rfl⟩) ?_ ?_
        rotate_left
        ·simp only [pL,i64_w,i32_w]
         rfl
        refine pure_ (i:=12) (N:=some 25) (v:=undef) (a':=?_) clock_Valid.q13 rfl rfl (any_of HT_.out (by kernel_rfl)) (fun _ _ _ h=>h) (Or.inr ⟨by rfl,rfl⟩) ?_ ?_
        rotate_left
        ·simp only [pL,i64_w,i32_w]
         rfl
        refine pure_ (i:=13) (N:=some 26) (v:=undef) (a':=?_) clock_Valid.q14 rfl rfl (any_of HT_.out (by kernel_rfl)) (fun _ _ _ h=>h) (Or.inr ⟨by rfl,rfl⟩) ?_ ?_
        rotate_left
        ·simp only [pL,i64_w,i32_w]
         rfl
        refine pure_ (i:=14) (N:=some 27) (v:=undef) (a':=?_) clock_Valid.q15 rfl rfl (any_of HT_.out (by kernel_rfl)) (fun _ _ _ h=>h) (Or.inr ⟨by rfl,rfl⟩) ?_ ?_
        rotate_left
        ·simp only [pL,i64_w,i32_w]
         rfl
        refine pure_ (i:=15) (N:=some 28) (v:=undef) (a':=?_) clock_Valid.q16 rfl rfl (any_of HT_.out (by kernel_rfl)) (fun _ _ _ h=>h) (Or.inr ⟨by rfl,rfl⟩) ?_ ?_
        rotate_left
        ·simp only [pL,i64_w,i32_w]
         rfl
        refine pure_ (i:=16) (N:=some 29) (v:=undef) (a':=?_) clock_Valid.q17 rfl rfl (any_of HT_.out (by kernel_rfl)) (fun _ _ _ h=>h) (Or.inr ⟨by rfl,rfl⟩) ?_ ?_
        rotate_left
        ·simp only [pL,i64_w,i32_w]
         rfl
        refine pure_ (i:=17) (N:=some 30) (v:=?_) (a':=?_) clock_Valid.q18 rfl rfl (any_of HT_.out (by kernel_rfl)) (fun _ _ _ h=>h) (Or.inl ⟨by rfl,?_⟩) ?_ ?_
        rotate_left;(· intro w';go_simp;with_reducible rfl);rotate_left;(· simp only [pL,i64_w,i32_w];rfl)
        refine pure_ (i:=18) (N:=some 31) (v:=?_) (a':=?_) clock_Valid.q19 rfl rfl (any_of HT_.out (by kernel_rfl)) (fun _ _ _ h=>h) (Or.inl ⟨by rfl,?_⟩) ?_ ?_
        rotate_left;(· intro w';go_simp;with_reducible rfl);rotate_left;(· simp only [pL,i64_w,i32_w];rfl)
        refine pure_ (i:=19) (N:=some 32) (v:=undef) (a':=?_) clock_Valid.q20 rfl rfl (any_of HT_.out (by kernel_rfl)) (fun _ _ _ h=>h) (Or.inr ⟨by rfl,rfl⟩) ?_ ?_
        rotate_left
        ·simp only [pL,i64_w,i32_w]
         rfl
        refine pure_ (i:=20) (N:=some 33) (v:=undef) (a':=?_) clock_Valid.q21 rfl rfl (any_of HT_.out (by kernel_rfl)) (fun _ _ _ h=>h) (Or.inr ⟨by rfl,rfl⟩) ?_ ?_
        rotate_left
        ·simp only [pL,i64_w,i32_w]
         rfl
        refine pure_ (i:=21) (N:=some 34) (v:=undef) (a':=?_) clock_Valid.q22 rfl rfl (any_of HT_.out (by kernel_rfl)) (fun _ _ _ h=>h) (Or.inr ⟨by rfl,rfl⟩) ?_ ?_
        rotate_left
        ·simp only [pL,i64_w,i32_w]
         rfl
        refine pure_ (i:=22) (N:=some 35) (v:=undef) (a':=?_) clock_Valid.q23 rfl rfl (any_of HT_.out (by kernel_rfl)) (fun _ _ _ h=>h) (Or.inr ⟨by rfl,rfl⟩) ?_ ?_
        rotate_left
        ·simp only [pL,i64_w,i32_w]
         rfl
        refine pure_ (i:=23) (N:=some 36) (v:=undef) (a':=?_) clock_Valid.q24 rfl rfl (any_of HT_.out (by kernel_rfl)) (fun _ _ _ h=>h) (Or.inr ⟨by rfl,rfl⟩) ?_ ?_
        rotate_left
        ·simp only [pL,i64_w,i32_w]
         rfl
        refine pure_ (i:=24) (N:=some 37) (v:=undef) (a':=?_) clock_Valid.q25 rfl rfl (any_of HT_.out (by kernel_rfl)) (fun _ _ _ h=>h) (Or.inr ⟨by rfl,rfl⟩) ?_ ?_
        rotate_left
        ·simp only [pL,i64_w,i32_w]
         rfl
        refine pure_ (i:=25) (N:=some 38) (v:=undef) (a':=?_) clock_Valid.q26 rfl rfl (any_of HT_.out (by kernel_rfl)) (fun _ _ _ h=>h) (Or.inr ⟨by rfl,rfl⟩) ?_ ?_
        rotate_left
        ·simp only [pL,i64_w,i32_w]
         rfl
        refine pure_ (i:=26) (N:=some 39) (v:=undef) (a':=?_) clock_Valid.q27 rfl rfl (any_of HT_.out (by kernel_rfl)) (fun _ _ _ h=>h) (Or.inr ⟨by rfl,rfl⟩) ?_ ?_
        rotate_left
        ·simp only [pL,i64_w,i32_w]
         rfl
        refine pure_ (i:=27) (N:=some 40) (v:=undef) (a':=?_) clock_Valid.q28 rfl rfl (any_of HT_.out (by kernel_rfl)) (fun _ _ _ h=>h) (Or.inr ⟨by rfl,rfl⟩) ?_ ?_
        rotate_left
        ·simp only [pL,i64_w,i32_w]
         rfl
        refine pure_ (i:=28) (N:=some 41) (v:=undef) (a':=?_) clock_Valid.q29 rfl rfl (any_of HT_.out (by kernel_rfl)) (fun _ _ _ h=>h) (Or.inr ⟨by rfl,rfl⟩) ?_ ?_
        rotate_left
        ·simp only [pL,i64_w,i32_w]
         rfl
        refine pure_ (i:=29) (N:=some 42) (v:=undef) (a':=?_) clock_Valid.q30 rfl rfl (any_of HT_.out (by kernel_rfl)) (fun _ _ _ h=>h) (Or.inr ⟨by rfl,rfl⟩) ?_ ?_
        rotate_left
        ·simp only [pL,i64_w,i32_w]
         rfl
        refine pure_ (i:=30) (N:=some 43) (v:=undef) (a':=?_) clock_Valid.q31 rfl rfl (any_of HT_.out (by kernel_rfl)) (fun _ _ _ h=>h) (Or.inr ⟨by rfl,rfl⟩) ?_ ?_
        rotate_left
        ·simp only [pL,i64_w,i32_w]
         rfl
        refine pure_ (i:=31) (N:=some 44) (v:=undef) (a':=?_) clock_Valid.q32 rfl rfl (any_of HT_.out (by kernel_rfl)) (fun _ _ _ h=>h) (Or.inr ⟨by rfl,rfl⟩) ?_ ?_
        rotate_left
        ·simp only [pL,i64_w,i32_w]
         rfl
        refine pure_ (i:=32) (N:=some 45) (v:=undef) (a':=?_) clock_Valid.q33 rfl rfl (any_of HT_.out (by kernel_rfl)) (fun _ _ _ h=>h) (Or.inr ⟨by rfl,rfl⟩) ?_ ?_
        rotate_left
        ·simp only [pL,i64_w,i32_w]
         rfl
        refine pure_ (i:=33) (N:=some 46) (v:=?_) (a':=?_) clock_Valid.q34 rfl rfl (any_of HT_.out (by kernel_rfl)) (fun _ _ _ h=>h) (Or.inl ⟨by rfl,?_⟩) ?_ ?_
        rotate_left;(· intro w';go_simp;with_reducible rfl);rotate_left;(· simp only [pL,i64_w,i32_w];rfl)
        refine done_ (done_of HT_.out (by kernel_rfl)) ?_
        try go_wp2
        go_ret
        exact ⟨by first|rfl|(simp [errW_none,errW_some] <;> rfl)|(simp [*,errW_none,errW_some] <;> rfl),by repeat (first|(with_reducible first|exact HB.out|apply bA|apply bN|apply bD|refine bS ?_ GE111.out|refine bS ?_ GE113.out)|exact HB.out)⟩
       ·rw [if_neg c9] at H
        have c9b0:decide (1099511627776 < ((rd_T61 l0_0 x8_1).f0))=false:=decide_eq_false c9
        clear c9
        by_cases c16:x8_1=0
        ·rw [if_pos c16] at H
         have c16b0:(x8_1 == 0)=true:=beq_iff_eq.mpr c16
         have c16b1:(x8_1 != 0)=false:=bne_eq_false_iff_eq.mpr c16
         clear c16
         by_cases c17:((rd_T61 l0_0 x8_1).f0)=0
         ·rw [if_pos c17] at H
          have c17b0:(((rd_T61 l0_0 x8_1).f0) == 0)=true:=beq_iff_eq.mpr c17
          have c17b1:(((rd_T61 l0_0 x8_1).f0) != 0)=false:=bne_eq_false_iff_eq.mpr c17
          clear c17
          by_cases c18:x8_1 > 0
          ·rw [if_pos c18] at H
           exact absurd (beq_iff_eq.mp c16b0) (by omega)
          ·rw [if_neg c18] at H
           have c18b0:decide (0 < x8_1)=false:=decide_eq_false c18
           clear c18
           have H':=Am H
           clear H
           have p112:0≤(x8_1:Int):=of_decide_eq_true (by first|(with_reducible assumption)|assumption)
           have q112:x8_1 < (l0_0.length:Int):=of_decide_eq_true (by first|(with_reducible assumption)|assumption)
           obtain ⟨ad112,e112,hx112_0,hx112_1,hx112_2⟩:=at_T61 HR0_0.out x8_1 p112 q112
           cases e112
           replace hx112_0:=(HB.out.cell (World.block_lt_of_cell? w _ hx112_0)).trans hx112_0
           replace hx112_1:=(HB.out.cell (World.block_lt_of_cell? w _ hx112_1)).trans hx112_1
           replace hx112_2:=(HB.out.cell (World.block_lt_of_cell? w _ hx112_2)).trans hx112_2
           replace p112:=eq_true p112
           replace q112:=eq_true q112
           try go_wp2_with (first|((with_reducible refine gate_dst (N:=4) rfl ?_);refine box_event ?hg (N:=4) ?hd (cs:=#[.int .i64 0, .int .i64 0, .int .i64 0]) (t:=61) ?hr ?_;(case hd=>rfl);(case hg=>rfl);(case hr=>first|(go_simp;done)|(go_simp;rfl));intro gb113 hg w19 hbox hb;have n0_:=Am (blk_below (g:=gb111) (o:=.cells #[.slice (some ad112) l0_0.length c0_0] 24 (0,0)) (by (with_reducible repeat first|apply kN|apply kD|apply kA);exact BK111.out) hb);have n1_:=Am (below_step (by repeat (first|(with_reducible first|exact HB.out|apply bA|apply bN|apply bD|refine bS ?_ GE111.out)|exact HB.out)) hb);have n2_:=Am (hbox);have n3_:=Am ((by rw [hg];exact (below_size (by repeat (first|(with_reducible first|exact HB.out|apply bA|apply bN|apply bD|refine bS ?_ GE111.out)|exact HB.out))):w.heap.size≤gb113));have n4_:=Am ((by rw [hg];exact (below_size (by repeat (first|(with_reducible first|exact HB.out|apply bA|apply bN|apply bD|refine bS ?_ GE111.out)|exact HB.out))):w.heap.size≤gb113));have n5_:=Am ((by rw [hg];exact Nat.ne_of_lt (blk_lt (g:=gb111) (o:=.cells #[.slice (some ad112) l0_0.length c0_0] 24 (0,0)) (by (with_reducible repeat first|apply kN|apply kD|apply kA);exact BK111.out)):gb111≠gb113));have n6_:=Am (n5_.out.symm);clear BK111 HB;have BK111:=n0_;have HB:=n1_;have BK113:=n2_;have GW113:=n3_;have GE113:=n4_;have NB111_113:=n5_;have NB113_111:=n6_;clear n0_ n1_ n2_ n3_ n4_ n5_ n6_ hb hbox hg;have hnb20:=NB113_111.out;have hnc20:=NB111_113.out;have hcz21_0:w19.cell? ⟨gb113,0,none⟩=some (.int .i64 0):=(blk_cell BK113.out 0).trans rfl;have hcz21_1:w19.cell? ⟨gb113,1,none⟩=some (.int .i64 0):=(blk_cell BK113.out 1).trans rfl;have hcz21_2:w19.cell? ⟨gb113,2,none⟩=some (.int .i64 0):=(blk_cell BK113.out 2).trans rfl;have hfz21_0:=blk_frozen BK113.out 0;have hfz21_1:=blk_frozen BK113.out 1;have hfz21_2:=blk_frozen BK113.out 2))
           have n0_:Aside0 ((((w19.setCell ⟨gb113,0,none⟩ (.int .i64 ((rd_T61 l0_0 x8_1).f0))).setCell ⟨gb113,1,none⟩ (.int .i64 ((rd_T61 l0_0 x8_1).f1.f0))).setCell ⟨gb113,2,none⟩ (.int .i64 ((rd_T61 l0_0 x8_1).f1.f1))).heap[gb111]?=some (.cells #[.slice (some ad112) l0_0.length c0_0] 24 (0,0))):=⟨by (with_reducible repeat first|apply kN|apply kD|apply kA);refine blk_far ?_ NB111_113.out _;(with_reducible repeat first|apply kN|apply kD|apply kA);refine blk_far ?_ NB111_113.out _;(with_reducible repeat first|apply kN|apply kD|apply kA);refine blk_far ?_ NB111_113.out _;(with_reducible repeat first|apply kN|apply kD|apply kA);exact BK111.out⟩
           have n1_:Aside0 ((((w19.setCell ⟨gb113,0,none⟩ (.int .i64 ((rd_T61 l0_0 x8_1).f0))).setCell ⟨gb113,1,none⟩ (.int .i64 ((rd_T61 l0_0 x8_1).f1.f0))).setCell ⟨gb113,2,none⟩ (.int .i64 ((rd_T61 l0_0 x8_1).f1.f1))).heap[gb113]?=some (.cells #[.int .i64 ((rd_T61 l0_0 x8_1).f0), .int .i64 ((rd_T61 l0_0 x8_1).f1.f0), .int .i64 ((rd_T61 l0_0 x8_1).f1.f1)] 61 (0,0))):=⟨by (with_reducible repeat first|apply kN|apply kD|apply kA);refine blk_put (cs:=#[.int .i64 ((rd_T61 l0_0 x8_1).f0), .int .i64 ((rd_T61 l0_0 x8_1).f1.f0), .int .i64 0]) ?_ 2 _ rfl;(with_reducible repeat first|apply kN|apply kD|apply kA);refine blk_put (cs:=#[.int .i64 ((rd_T61 l0_0 x8_1).f0), .int .i64 0, .int .i64 0]) ?_ 1 _ rfl;(with_reducible repeat first|apply kN|apply kD|apply kA);refine blk_put (cs:=#[.int .i64 0, .int .i64 0, .int .i64 0]) ?_ 0 _ rfl;(with_reducible repeat first|apply kN|apply kD|apply kA);exact BK113.out⟩
           have n2_:Aside0 (Below w.heap.size w (((w19.setCell ⟨gb113,0,none⟩ (.int .i64 ((rd_T61 l0_0 x8_1).f0))).setCell ⟨gb113,1,none⟩ (.int .i64 ((rd_T61 l0_0 x8_1).f1.f0))).setCell ⟨gb113,2,none⟩ (.int .i64 ((rd_T61 l0_0 x8_1).f1.f1)))):=⟨by repeat (first|(with_reducible first|exact HB.out|apply bA|apply bN|apply bD|refine bS ?_ GE111.out|refine bS ?_ GE113.out)|exact HB.out)⟩
           (try clear BK111);(try clear BK113);(try clear HB)
           generalize (((w19.setCell ⟨gb113,0,none⟩ (.int .i64 ((rd_T61 l0_0 x8_1).f0))).setCell ⟨gb113,1,none⟩ (.int .i64 ((rd_T61 l0_0 x8_1).f1.f0))).setCell ⟨gb113,2,none⟩ (.int .i64 ((rd_T61 l0_0 x8_1).f1.f1)))=w22 at n0_ n1_ n2_ ⊢
           have BK111:=n0_;have BK113:=n1_;have HB:=n2_;clear n0_ n1_ n2_
           have n0_:=Am (kD BK111.out)
           have n1_:=Am (kD BK113.out)
           have n2_:=Am (bD HB.out)
           clear BK111 BK113 HB;have BK111:=n0_;have BK113:=n1_;have HB:=n2_;clear n0_ n1_ n2_
           refine start_ (n:=34) (S:=fun w'=>w'.cell? ⟨gb113,0,none⟩=some (.int .i64 ((rd_T61 l0_0 x8_1).f0))∧w'.cell? ⟨gb113,1,none⟩=some (.int .i64 ((rd_T61 l0_0 x8_1).f1.f0))∧w'.cell? ⟨gb113,2,none⟩=some (.int .i64 ((rd_T61 l0_0 x8_1).f1.f1))) (ds:=[]) clock_Valid.q0 (by kernel_rfl) rfl rfl ⟨(blk_cell BK113.out 0).trans rfl,(blk_cell BK113.out 1).trans rfl,(blk_cell BK113.out 2).trans rfl⟩ (fun hHeld=>?_);refine with_tabW clock_Valid.tab4 clock_Valid.bits4 (fun HT_ HW_=>?_)
           generalize w22.drew=w23 at BK111 BK113 HB hHeld ⊢
           refine pure_ (i:=0) (N:=some 13) (v:=?_) (a':=?_) clock_Valid.q1 rfl rfl (any_of HT_.out (by kernel_rfl)) (fun _ _ _ h=>h) (Or.inl ⟨by rfl,?_⟩) ?_ ?_
           rotate_left;(· intro w';go_simp;with_reducible rfl);rotate_left;(· simp only [pL,i64_w,i32_w];rfl)
           refine take_ (i:=1) (N:=some 14) (v:=?_) (a':=?_) clock_Valid.q2 rfl rfl (take_ofW HT_.out HW_.out (by kernel_rfl)) (fun _ _ _ h=>h) (Or.inl ⟨by rfl,?_⟩) hHeld ?_ ?_
           rotate_left;(· rintro w' ⟨s0,s1,s2⟩;go_simp;with_reducible rfl);rotate_left;(· simp only [pL,i64_w,i32_w];rfl)
           refine one_ (i:=2) (N:=some 15) clock_Valid.q3 rfl rfl (one_of HT_.out (by kernel_rfl)) (by decide) (fun K hK=>?_)
           refine goes_ Try.func30 (by kernel_rfl) rfl #[.agg #[.int .i64 ((rd_T61 l0_0 x8_1).f1.f0), .int .i64 ((rd_T61 l0_0 x8_1).f1.f1)]] (by rfl) rfl rfl (by (try simp only [List.map_toArray,List.map_cons,List.map_nil]);first|done|rfl|(simp only [List.length_drop,List.length_take];rfl)) ?_
           with_reducible refine (clock_usual.calls k1 ((rd_T61 l0_0 x8_1).f1.f0) ((rd_T61 l0_0 x8_1).f1.f1) true _ A7.out).mono ?_
           rintro e w24 ⟨rfl,hb⟩
           refine ⟨_,rfl,?_⟩
           have n0_:=Am (blk_below (g:=gb111) (o:=.cells #[.slice (some ad112) l0_0.length c0_0] 24 (0,0)) (by (with_reducible repeat first|apply kN|apply kD|apply kA);exact BK111.out) hb)
           have n1_:=Am (blk_below (g:=gb113) (o:=.cells #[.int .i64 ((rd_T61 l0_0 x8_1).f0), .int .i64 ((rd_T61 l0_0 x8_1).f1.f0), .int .i64 ((rd_T61 l0_0 x8_1).f1.f1)] 61 (0,0)) (by (with_reducible repeat first|apply kN|apply kD|apply kA);exact BK113.out) hb)
           have n2_:=Am (below_step (by repeat (first|(with_reducible first|exact HB.out|apply bA|apply bN|apply bD|refine bS ?_ GE111.out|refine bS ?_ GE113.out)|exact HB.out)) hb)
           clear BK111 BK113 HB;have BK111:=n0_;have BK113:=n1_;have HB:=n2_;clear n0_ n1_ n2_;(try clear hb)
           refine hK.out _ _ ⟨(blk_cell BK113.out 0).trans rfl,(blk_cell BK113.out 1).trans rfl,(blk_cell BK113.out 2).trans rfl⟩ (fun hHeld=>?_)
           clear hK K
           refine norm_ (a':=?_) ?_ ?_
           rotate_left
           ·show Act.put _ (some 15) _=_
            simp only [pL,i64_w,i32_w]
            rfl
           refine pure_ (i:=3) (N:=some 16) (v:=?_) (a':=?_) clock_Valid.q4 rfl rfl (any_of HT_.out (by kernel_rfl)) (fun _ _ _ h=>h) (Or.inl ⟨by rfl,?_⟩) ?_ ?_
           rotate_left;(· intro w';go_simp;with_reducible rfl);rotate_left;(· simp only [pL,i64_w,i32_w];rfl)
           refine pure_ (i:=4) (N:=some 17) (v:=?_) (a':=?_) clock_Valid.q5 rfl rfl (any_of HT_.out (by kernel_rfl)) (fun _ _ _ h=>h) (Or.inl ⟨by rfl,?_⟩) ?_ ?_
           rotate_left;(· intro w';go_simp;with_reducible rfl);rotate_left;(· simp only [pL,i64_w,i32_w];rfl)
           refine pure_ (i:=5) (N:=some 18) (v:=?_) (a':=?_) clock_Valid.q6 rfl rfl (any_of HT_.out (by kernel_rfl)) (fun _ _ _ h=>h) (Or.inl ⟨by rfl,?_⟩) ?_ ?_
           rotate_left;(· intro w';go_simp;with_reducible rfl);rotate_left;(· simp only [pL,i64_w,i32_w];rfl)
           refine take_ (i:=6) (N:=some 19) (v:=?_) (a':=?_) clock_Valid.q7 rfl rfl (take_ofW HT_.out HW_.out (by kernel_rfl)) (fun _ _ _ h=>h) (Or.inl ⟨by rfl,?_⟩) hHeld ?_ ?_
           rotate_left;(· rintro w' ⟨s0,s1,s2⟩;go_simp;with_reducible rfl);rotate_left;(· simp only [pL,i64_w,i32_w];rfl)
           refine pure_ (i:=7) (N:=some 20) (v:=?_) (a':=?_) clock_Valid.q8 rfl rfl (any_of HT_.out (by kernel_rfl)) (fun _ _ _ h=>h) (Or.inl ⟨by rfl,?_⟩) ?_ ?_
           rotate_left;(· intro w';go_simp;with_reducible rfl);rotate_left;(· simp only [pL,i64_w,i32_w];rfl)
           refine pure_ (i:=8) (N:=some 21) (v:=?_) (a':=?_) clock_Valid.q9 rfl rfl (any_of HT_.out (by kernel_rfl)) (fun _ _ _ h=>h) (Or.inl ⟨by rfl,?_⟩) ?_ ?_
           rotate_left;(· intro w';go_simp;with_reducible rfl);rotate_left;(· simp only [pL,i64_w,i32_w];rfl)
           refine pure_ (i:=9) (N:=some 22) (v:=?_) (a':=?_) clock_Valid.q10 rfl rfl (any_of HT_.out (by kernel_rfl)) (fun _ _ _ h=>h) (Or.inl ⟨by rfl,?_⟩) ?_ ?_
           rotate_left;(· intro w';go_simp;with_reducible rfl);rotate_left;(· simp only [pL,i64_w,i32_w];rfl)
           refine pure_ (i:=10) (N:=some 23) (v:=?_) (a':=?_) clock_Valid.q11 rfl rfl (any_of HT_.out (by kernel_rfl)) (fun _ _ _ h=>h) (Or.inl ⟨by rfl,?_⟩) ?_ ?_
           rotate_left;(· intro w';go_simp;with_reducible rfl);rotate_left;(· simp only [pL,i64_w,i32_w];rfl)
           refine pure_ (i:=11) (N:=some 24) (v:=?_) (a':=?_) clock_Valid.q12 rfl rfl (any_of HT_.out (by kernel_rfl)) (fun _ _ _ h=>h) (Or.inl ⟨by rfl,?_⟩) ?_ ?_
           rotate_left;(· intro w';go_simp;with_reducible rfl);rotate_left;(· simp only [pL,i64_w,i32_w];rfl)
           refine pure_ (i:=12) (N:=some 25) (v:=?_) (a':=?_) clock_Valid.q13 rfl rfl (any_of HT_.out (by kernel_rfl)) (fun _ _ _ h=>h) (Or.inl ⟨by rfl,?_⟩) ?_ ?_
           rotate_left;(· intro w';go_simp;with_reducible rfl);rotate_left;(· simp only [pL,i64_w,i32_w];rfl)
           refine pure_ (i:=13) (N:=some 26) (v:=?_) (a':=?_) clock_Valid.q14 rfl rfl (any_of HT_.out (by kernel_rfl)) (fun _ _ _ h=>h) (Or.inl ⟨by rfl,?_⟩) ?_ ?_
           rotate_left;(· intro w';go_simp;with_reducible rfl);rotate_left;(· simp only [pL,i64_w,i32_w];rfl)
           refine take_ (i:=14) (N:=some 27) (v:=?_) (a':=?_) clock_Valid.q15 rfl rfl (take_ofW HT_.out HW_.out (by kernel_rfl)) (fun _ _ _ h=>h) (Or.inl ⟨by rfl,?_⟩) hHeld ?_ ?_
           rotate_left;(· rintro w' ⟨s0,s1,s2⟩;go_simp;with_reducible rfl);rotate_left;(· simp only [pL,i64_w,i32_w];rfl)
           refine pure_ (i:=15) (N:=some 28) (v:=?_) (a':=?_) clock_Valid.q16 rfl rfl (any_of HT_.out (by kernel_rfl)) (fun _ _ _ h=>h) (Or.inl ⟨by rfl,?_⟩) ?_ ?_
           rotate_left;(· intro w';go_simp;with_reducible rfl);rotate_left;(· simp only [pL,i64_w,i32_w];rfl)
           refine pure_ (i:=16) (N:=some 29) (v:=?_) (a':=?_) clock_Valid.q17 rfl rfl (any_of HT_.out (by kernel_rfl)) (fun _ _ _ h=>h) (Or.inl ⟨by rfl,?_⟩) ?_ ?_
           rotate_left;(· intro w';go_simp;with_reducible rfl);rotate_left;(· simp only [pL,i64_w,i32_w];rfl)
           refine pure_ (i:=17) (N:=some 30) (v:=?_) (a':=?_) clock_Valid.q18 rfl rfl (any_of HT_.out (by kernel_rfl)) (fun _ _ _ h=>h) (Or.inl ⟨by rfl,?_⟩) ?_ ?_
           rotate_left;(· intro w';go_simp;with_reducible rfl);rotate_left;(· simp only [pL,i64_w,i32_w];rfl)
           refine pure_ (i:=18) (N:=some 31) (v:=?_) (a':=?_) clock_Valid.q19 rfl rfl (any_of HT_.out (by kernel_rfl)) (fun _ _ _ h=>h) (Or.inl ⟨by rfl,?_⟩) ?_ ?_
           rotate_left;(· intro w';go_simp;with_reducible rfl);rotate_left;(· simp only [pL,i64_w,i32_w];rfl)
           refine pure_ (i:=19) (N:=some 32) (v:=?_) (a':=?_) clock_Valid.q20 rfl rfl (any_of HT_.out (by kernel_rfl)) (fun _ _ _ h=>h) (Or.inl ⟨by rfl,?_⟩) ?_ ?_
           rotate_left;(· intro w';go_simp;with_reducible rfl);rotate_left;(· simp only [pL,i64_w,i32_w];rfl)
           refine pure_ (i:=20) (N:=some 33) (v:=?_) (a':=?_) clock_Valid.q21 rfl rfl (any_of HT_.out (by kernel_rfl)) (fun _ _ _ h=>h) (Or.inl ⟨by rfl,?_⟩) ?_ ?_
           rotate_left;(· intro w';go_simp;with_reducible rfl);rotate_left;(· simp only [pL,i64_w,i32_w];rfl)
           refine pure_ (i:=21) (N:=some 34) (v:=?_) (a':=?_) clock_Valid.q22 rfl rfl (any_of HT_.out (by kernel_rfl)) (fun _ _ _ h=>h) (Or.inl ⟨by rfl,?_⟩) ?_ ?_
           rotate_left;(· intro w';go_simp;with_reducible rfl);rotate_left;(· simp only [pL,i64_w,i32_w];rfl)
           refine pure_ (i:=22) (N:=some 35) (v:=undef) (a':=?_) clock_Valid.q23 rfl rfl (any_of HT_.out (by kernel_rfl)) (fun _ _ _ h=>h) (Or.inr ⟨by rfl,rfl⟩) ?_ ?_
           rotate_left
           ·simp only [pL,i64_w,i32_w]
            rfl
           refine pure_ (i:=23) (N:=some 36) (v:=undef) (a':=?_) clock_Valid.q24 rfl rfl (any_of HT_.out (by kernel_rfl)) (fun _ _ _ h=>h) (Or.inr ⟨by rfl,rfl⟩) ?_ ?_
           rotate_left
           ·simp only [pL,i64_w,i32_w]
            rfl
           refine pure_ (i:=24) (N:=some 37) (v:=undef) (a':=?_) clock_Valid.q25 rfl rfl (any_of HT_.out (by kernel_rfl)) (fun _ _ _ h=>h) (Or.inr ⟨by rfl,rfl⟩) ?_ ?_
           rotate_left
           ·simp only [pL,i64_w,i32_w]
            rfl
           refine pure_ (i:=25) (N:=some 38) (v:=undef) (a':=?_) clock_Valid.q26 rfl rfl (any_of HT_.out (by kernel_rfl)) (fun _ _ _ h=>h) (Or.inr ⟨by rfl,rfl⟩) ?_ ?_
           rotate_left
           ·simp only [pL,i64_w,i32_w]
            rfl
           refine pure_ (i:=26) (N:=some 39) (v:=undef) (a':=?_) clock_Valid.q27 rfl rfl (any_of HT_.out (by kernel_rfl)) (fun _ _ _ h=>h) (Or.inr ⟨by rfl,rfl⟩) ?_ ?_
           rotate_left
           ·simp only [pL,i64_w,i32_w]
            rfl
           refine pure_ (i:=27) (N:=some 40) (v:=undef) (a':=?_) clock_Valid.q28 rfl rfl (any_of HT_.out (by kernel_rfl)) (fun _ _ _ h=>h) (Or.inr ⟨by rfl,rfl⟩) ?_ ?_
           rotate_left
           ·simp only [pL,i64_w,i32_w]
            rfl
           refine pure_ (i:=28) (N:=some 41) (v:=undef) (a':=?_) clock_Valid.q29 rfl rfl (any_of HT_.out (by kernel_rfl)) (fun _ _ _ h=>h) (Or.inr ⟨by rfl,rfl⟩) ?_ ?_
           rotate_left
           ·simp only [pL,i64_w,i32_w]
            rfl
           refine pure_ (i:=29) (N:=some 42) (v:=undef) (a':=?_) clock_Valid.q30 rfl rfl (any_of HT_.out (by kernel_rfl)) (fun _ _ _ h=>h) (Or.inr ⟨by rfl,rfl⟩) ?_ ?_
           rotate_left
           ·simp only [pL,i64_w,i32_w]
            rfl
           refine pure_ (i:=30) (N:=some 43) (v:=undef) (a':=?_) clock_Valid.q31 rfl rfl (any_of HT_.out (by kernel_rfl)) (fun _ _ _ h=>h) (Or.inr ⟨by rfl,rfl⟩) ?_ ?_
           rotate_left
           ·simp only [pL,i64_w,i32_w]
            rfl
           refine pure_ (i:=31) (N:=some 44) (v:=undef) (a':=?_) clock_Valid.q32 rfl rfl (any_of HT_.out (by kernel_rfl)) (fun _ _ _ h=>h) (Or.inr ⟨by rfl,rfl⟩) ?_ ?_
           rotate_left
           ·simp only [pL,i64_w,i32_w]
            rfl
           refine pure_ (i:=32) (N:=some 45) (v:=?_) (a':=?_) clock_Valid.q33 rfl rfl (any_of HT_.out (by kernel_rfl)) (fun _ _ _ h=>h) (Or.inl ⟨by rfl,?_⟩) ?_ ?_
           rotate_left;(· intro w';go_simp;with_reducible rfl);rotate_left;(· simp only [pL,i64_w,i32_w];rfl)
           refine pure_ (i:=33) (N:=some 46) (v:=?_) (a':=?_) clock_Valid.q34 rfl rfl (any_of HT_.out (by kernel_rfl)) (fun _ _ _ h=>h) (Or.inl ⟨by rfl,?_⟩) ?_ ?_
           rotate_left;(· intro w';go_simp;with_reducible rfl);rotate_left;(· simp only [pL,i64_w,i32_w];rfl)
           refine done_ (done_of HT_.out (by kernel_rfl)) ?_
           try go_wp2
           go_roundg k1
           case measure=>have:=HK1.out;omega
           case rel=>exact ⟨(wrap64 (x8_1+1)),(by first|rfl|(simp;done)|(simp [*];done)),H',⟨by have:=HK1.out;omega⟩,⟨by (with_reducible repeat first|apply kN|apply kD|apply kA);exact BK111.out⟩,⟨by repeat (first|(with_reducible first|exact HB.out|apply bA|apply bN|apply bD|refine bS ?_ GE111.out|refine bS ?_ GE113.out)|exact HB.out)⟩⟩
         ·rw [if_neg c17] at H
          have c17b0:(((rd_T61 l0_0 x8_1).f0) == 0)=false:=beq_eq_false_iff_ne.mpr c17
          have c17b1:(((rd_T61 l0_0 x8_1).f0) != 0)=true:=bne_iff_ne.mpr c17
          obtain rfl:=Option.some.inj H
          have p112:0≤(x8_1:Int):=of_decide_eq_true (by first|(with_reducible assumption)|assumption)
          have q112:x8_1 < (l0_0.length:Int):=of_decide_eq_true (by first|(with_reducible assumption)|assumption)
          obtain ⟨ad112,e112,hx112_0,hx112_1,hx112_2⟩:=at_T61 HR0_0.out x8_1 p112 q112
          cases e112
          replace hx112_0:=(HB.out.cell (World.block_lt_of_cell? w _ hx112_0)).trans hx112_0
          replace hx112_1:=(HB.out.cell (World.block_lt_of_cell? w _ hx112_1)).trans hx112_1
          replace hx112_2:=(HB.out.cell (World.block_lt_of_cell? w _ hx112_2)).trans hx112_2
          replace p112:=eq_true p112
          replace q112:=eq_true q112
          try go_wp2_with (first|((with_reducible refine gate_dst (N:=4) rfl ?_);refine box_event ?hg (N:=4) ?hd (cs:=#[.int .i64 0, .int .i64 0, .int .i64 0]) (t:=61) ?hr ?_;(case hd=>rfl);(case hg=>rfl);(case hr=>first|(go_simp;done)|(go_simp;rfl));intro gb113 hg w25 hbox hb;have n0_:=Am (blk_below (g:=gb111) (o:=.cells #[.slice (some ad112) l0_0.length c0_0] 24 (0,0)) (by (with_reducible repeat first|apply kN|apply kD|apply kA);exact BK111.out) hb);have n1_:=Am (below_step (by repeat (first|(with_reducible first|exact HB.out|apply bA|apply bN|apply bD|refine bS ?_ GE111.out)|exact HB.out)) hb);have n2_:=Am (hbox);have n3_:=Am ((by rw [hg];exact (below_size (by repeat (first|(with_reducible first|exact HB.out|apply bA|apply bN|apply bD|refine bS ?_ GE111.out)|exact HB.out))):w.heap.size≤gb113));have n4_:=Am ((by rw [hg];exact (below_size (by repeat (first|(with_reducible first|exact HB.out|apply bA|apply bN|apply bD|refine bS ?_ GE111.out)|exact HB.out))):w.heap.size≤gb113));have n5_:=Am ((by rw [hg];exact Nat.ne_of_lt (blk_lt (g:=gb111) (o:=.cells #[.slice (some ad112) l0_0.length c0_0] 24 (0,0)) (by (with_reducible repeat first|apply kN|apply kD|apply kA);exact BK111.out)):gb111≠gb113));have n6_:=Am (n5_.out.symm);clear BK111 HB;have BK111:=n0_;have HB:=n1_;have BK113:=n2_;have GW113:=n3_;have GE113:=n4_;have NB111_113:=n5_;have NB113_111:=n6_;clear n0_ n1_ n2_ n3_ n4_ n5_ n6_ hb hbox hg;have hnb26:=NB113_111.out;have hnc26:=NB111_113.out;have hcz27_0:w25.cell? ⟨gb113,0,none⟩=some (.int .i64 0):=(blk_cell BK113.out 0).trans rfl;have hcz27_1:w25.cell? ⟨gb113,1,none⟩=some (.int .i64 0):=(blk_cell BK113.out 1).trans rfl;have hcz27_2:w25.cell? ⟨gb113,2,none⟩=some (.int .i64 0):=(blk_cell BK113.out 2).trans rfl;have hfz27_0:=blk_frozen BK113.out 0;have hfz27_1:=blk_frozen BK113.out 1;have hfz27_2:=blk_frozen BK113.out 2))
          have n0_:Aside0 ((((w25.setCell ⟨gb113,0,none⟩ (.int .i64 ((rd_T61 l0_0 x8_1).f0))).setCell ⟨gb113,1,none⟩ (.int .i64 ((rd_T61 l0_0 x8_1).f1.f0))).setCell ⟨gb113,2,none⟩ (.int .i64 ((rd_T61 l0_0 x8_1).f1.f1))).heap[gb111]?=some (.cells #[.slice (some ad112) l0_0.length c0_0] 24 (0,0))):=⟨by (with_reducible repeat first|apply kN|apply kD|apply kA);refine blk_far ?_ NB111_113.out _;(with_reducible repeat first|apply kN|apply kD|apply kA);refine blk_far ?_ NB111_113.out _;(with_reducible repeat first|apply kN|apply kD|apply kA);refine blk_far ?_ NB111_113.out _;(with_reducible repeat first|apply kN|apply kD|apply kA);exact BK111.out⟩
          have n1_:Aside0 ((((w25.setCell ⟨gb113,0,none⟩ (.int .i64 ((rd_T61 l0_0 x8_1).f0))).setCell ⟨gb113,1,none⟩ (.int .i64 ((rd_T61 l0_0 x8_1).f1.f0))).setCell ⟨gb113,2,none⟩ (.int .i64 ((rd_T61 l0_0 x8_1).f1.f1))).heap[gb113]?=some (.cells #[.int .i64 ((rd_T61 l0_0 x8_1).f0), .int .i64 ((rd_T61 l0_0 x8_1).f1.f0), .int .i64 ((rd_T61 l0_0 x8_1).f1.f1)] 61 (0,0))):=⟨by (with_reducible repeat first|apply kN|apply kD|apply kA);refine blk_put (cs:=#[.int .i64 ((rd_T61 l0_0 x8_1).f0), .int .i64 ((rd_T61 l0_0 x8_1).f1.f0), .int .i64 0]) ?_ 2 _ rfl;(with_reducible repeat first|apply kN|apply kD|apply kA);refine blk_put (cs:=#[.int .i64 ((rd_T61 l0_0 x8_1).f0), .int .i64 0, .int .i64 0]) ?_ 1 _ rfl;(with_reducible repeat first|apply kN|apply kD|apply kA);refine blk_put (cs:=#[.int .i64 0, .int .i64 0, .int .i64 0]) ?_ 0 _ rfl;(with_reducible repeat first|apply kN|apply kD|apply kA);exact BK113.out⟩
          have n2_:Aside0 (Below w.heap.size w (((w25.setCell ⟨gb113,0,none⟩ (.int .i64 ((rd_T61 l0_0 x8_1).f0))).setCell ⟨gb113,1,none⟩ (.int .i64 ((rd_T61 l0_0 x8_1).f1.f0))).setCell ⟨gb113,2,none⟩ (.int .i64 ((rd_T61 l0_0 x8_1).f1.f1)))):=⟨by repeat (first|(with_reducible first|exact HB.out|apply bA|apply bN|apply bD|refine bS ?_ GE111.out|refine bS ?_ GE113.out)|exact HB.out)⟩
          (try clear BK111);(try clear BK113);(try clear HB)
          generalize (((w25.setCell ⟨gb113,0,none⟩ (.int .i64 ((rd_T61 l0_0 x8_1).f0))).setCell ⟨gb113,1,none⟩ (.int .i64 ((rd_T61 l0_0 x8_1).f1.f0))).setCell ⟨gb113,2,none⟩ (.int .i64 ((rd_T61 l0_0 x8_1).f1.f1)))=w28 at n0_ n1_ n2_ ⊢
          have BK111:=n0_;have BK113:=n1_;have HB:=n2_;clear n0_ n1_ n2_
          have n0_:=Am (kD BK111.out)
          have n1_:=Am (kD BK113.out)
          have n2_:=Am (bD HB.out)
          clear BK111 BK113 HB;have BK111:=n0_;have BK113:=n1_;have HB:=n2_;clear n0_ n1_ n2_
          refine start_ (n:=34) (S:=fun w'=>w'.cell? ⟨gb113,0,none⟩=some (.int .i64 ((rd_T61 l0_0 x8_1).f0))∧w'.cell? ⟨gb113,1,none⟩=some (.int .i64 ((rd_T61 l0_0 x8_1).f1.f0))∧w'.cell? ⟨gb113,2,none⟩=some (.int .i64 ((rd_T61 l0_0 x8_1).f1.f1))) (ds:=[]) clock_Valid.q0 (by kernel_rfl) rfl rfl ⟨(blk_cell BK113.out 0).trans rfl,(blk_cell BK113.out 1).trans rfl,(blk_cell BK113.out 2).trans rfl⟩ (fun hHeld=>?_);refine with_tabW clock_Valid.tab4 clock_Valid.bits4 (fun HT_ HW_=>?_)
          generalize w28.drew=w29 at BK111 BK113 HB hHeld ⊢
          refine pure_ (i:=0) (N:=some 13) (v:=?_) (a':=?_) clock_Valid.q1 rfl rfl (any_of HT_.out (by kernel_rfl)) (fun _ _ _ h=>h) (Or.inl ⟨by rfl,?_⟩) ?_ ?_
          rotate_left;(· intro w';go_simp;with_reducible rfl);rotate_left;(· simp only [pL,i64_w,i32_w];rfl)
          refine take_ (i:=1) (N:=some 14) (v:=?_) (a':=?_) clock_Valid.q2 rfl rfl (take_ofW HT_.out HW_.out (by kernel_rfl)) (fun _ _ _ h=>h) (Or.inl ⟨by rfl,?_⟩) hHeld ?_ ?_
          rotate_left;(· rintro w' ⟨s0,s1,s2⟩;go_simp;with_reducible rfl);rotate_left;(· simp only [pL,i64_w,i32_w];rfl)
          refine one_ (i:=2) (N:=some 15) clock_Valid.q3 rfl rfl (one_of HT_.out (by kernel_rfl)) (by decide) (fun K hK=>?_)
          refine goes_ Try.func30 (by kernel_rfl) rfl #[.agg #[.int .i64 ((rd_T61 l0_0 x8_1).f1.f0), .int .i64 ((rd_T61 l0_0 x8_1).f1.f1)]] (by rfl) rfl rfl (by (try simp only [List.map_toArray,List.map_cons,List.map_nil]);first|done|rfl|(simp only [List.length_drop,List.length_take];rfl)) ?_
          with_reducible refine (clock_usual.calls k1 ((rd_T61 l0_0 x8_1).f1.f0) ((rd_T61 l0_0 x8_1).f1.f1) true _ A7.out).mono ?_
          rintro e w30 ⟨rfl,hb⟩
          refine ⟨_,rfl,?_⟩
          have n0_:=Am (blk_below (g:=gb111) (o:=.cells #[.slice (some ad112) l0_0.length c0_0] 24 (0,0)) (by (with_reducible repeat first|apply kN|apply kD|apply kA);exact BK111.out) hb)
          have n1_:=Am (blk_below (g:=gb113) (o:=.cells #[.int .i64 ((rd_T61 l0_0 x8_1).f0), .int .i64 ((rd_T61 l0_0 x8_1).f1.f0), .int .i64 ((rd_T61 l0_0 x8_1).f1.f1)] 61 (0,0)) (by (with_reducible repeat first|apply kN|apply kD|apply kA);exact BK113.out) hb)
          have n2_:=Am (below_step (by repeat (first|(with_reducible first|exact HB.out|apply bA|apply bN|apply bD|refine bS ?_ GE111.out|refine bS ?_ GE113.out)|exact HB.out)) hb)
          clear BK111 BK113 HB;have BK111:=n0_;have BK113:=n1_;have HB:=n2_;clear n0_ n1_ n2_;(try clear hb)
          refine hK.out _ _ ⟨(blk_cell BK113.out 0).trans rfl,(blk_cell BK113.out 1).trans rfl,(blk_cell BK113.out 2).trans rfl⟩ (fun hHeld=>?_)
          clear hK K
          refine norm_ (a':=?_) ?_ ?_
          rotate_left
          ·show Act.put _ (some 15) _=_
           simp only [pL,i64_w,i32_w]
           rfl
          refine pure_ (i:=3) (N:=some 16) (v:=?_) (a':=?_) clock_Valid.q4 rfl rfl (any_of HT_.out (by kernel_rfl)) (fun _ _ _ h=>h) (Or.inl ⟨by rfl,?_⟩) ?_ ?_
          rotate_left;(· intro w';go_simp;with_reducible rfl);rotate_left;(· simp only [pL,i64_w,i32_w];rfl)
          refine pure_ (i:=4) (N:=some 17) (v:=?_) (a':=?_) clock_Valid.q5 rfl rfl (any_of HT_.out (by kernel_rfl)) (fun _ _ _ h=>h) (Or.inl ⟨by rfl,?_⟩) ?_ ?_
          rotate_left;(· intro w';go_simp;with_reducible rfl);rotate_left;(· simp only [pL,i64_w,i32_w];rfl)
          refine pure_ (i:=5) (N:=some 18) (v:=?_) (a':=?_) clock_Valid.q6 rfl rfl (any_of HT_.out (by kernel_rfl)) (fun _ _ _ h=>h) (Or.inl ⟨by rfl,?_⟩) ?_ ?_
          rotate_left;(· intro w';go_simp;with_reducible rfl);rotate_left;(· simp only [pL,i64_w,i32_w];rfl)
          refine take_ (i:=6) (N:=some 19) (v:=?_) (a':=?_) clock_Valid.q7 rfl rfl (take_ofW HT_.out HW_.out (by kernel_rfl)) (fun _ _ _ h=>h) (Or.inl ⟨by rfl,?_⟩) hHeld ?_ ?_
          rotate_left;(· rintro w' ⟨s0,s1,s2⟩;go_simp;with_reducible rfl);rotate_left;(· simp only [pL,i64_w,i32_w];rfl)
          refine pure_ (i:=7) (N:=some 20) (v:=?_) (a':=?_) clock_Valid.q8 rfl rfl (any_of HT_.out (by kernel_rfl)) (fun _ _ _ h=>h) (Or.inl ⟨by rfl,?_⟩) ?_ ?_
          rotate_left;(· intro w';go_simp;with_reducible rfl);rotate_left;(· simp only [pL,i64_w,i32_w];rfl)
          refine pure_ (i:=8) (N:=some 21) (v:=?_) (a':=?_) clock_Valid.q9 rfl rfl (any_of HT_.out (by kernel_rfl)) (fun _ _ _ h=>h) (Or.inl ⟨by rfl,?_⟩) ?_ ?_
          rotate_left;(· intro w';go_simp;with_reducible rfl);rotate_left;(· simp only [pL,i64_w,i32_w];rfl)
          refine pure_ (i:=9) (N:=some 22) (v:=?_) (a':=?_) clock_Valid.q10 rfl rfl (any_of HT_.out (by kernel_rfl)) (fun _ _ _ h=>h) (Or.inl ⟨by rfl,?_⟩) ?_ ?_
          rotate_left;(· intro w';go_simp;with_reducible rfl);rotate_left;(· simp only [pL,i64_w,i32_w];rfl)
          refine pure_ (i:=10) (N:=some 23) (v:=?_) (a':=?_) clock_Valid.q11 rfl rfl (any_of HT_.out (by kernel_rfl)) (fun _ _ _ h=>h) (Or.inl ⟨by rfl,?_⟩) ?_ ?_
          rotate_left;(· intro w';go_simp;with_reducible rfl);rotate_left;(· simp only [pL,i64_w,i32_w];rfl)
          refine pure_ (i:=11) (N:=some 24) (v:=?_) (a':=?_) clock_Valid.q12 rfl rfl (any_of HT_.out (by kernel_rfl)) (fun _ _ _ h=>h) (Or.inl ⟨by rfl,?_⟩) ?_ ?_
          rotate_left;(· intro w';go_simp;with_reducible rfl);rotate_left;(· simp only [pL,i64_w,i32_w];rfl)
          refine pure_ (i:=12) (N:=some 25) (v:=?_) (a':=?_) clock_Valid.q13 rfl rfl (any_of HT_.out (by kernel_rfl)) (fun _ _ _ h=>h) (Or.inl ⟨by rfl,?_⟩) ?_ ?_
          rotate_left;(· intro w';go_simp;with_reducible rfl);rotate_left;(· simp only [pL,i64_w,i32_w];rfl)
          refine pure_ (i:=13) (N:=some 26) (v:=?_) (a':=?_) clock_Valid.q14 rfl rfl (any_of HT_.out (by kernel_rfl)) (fun _ _ _ h=>h) (Or.inl ⟨by rfl,?_⟩) ?_ ?_
          rotate_left;(· intro w';go_simp;with_reducible rfl);rotate_left;(· simp only [pL,i64_w,i32_w];rfl)
          refine take_ (i:=14) (N:=some 27) (v:=?_) (a':=?_) clock_Valid.q15 rfl rfl (take_ofW HT_.out HW_.out (by kernel_rfl)) (fun _ _ _ h=>h) (Or.inl ⟨by rfl,?_⟩) hHeld ?_ ?_
          rotate_left;(· rintro w' ⟨s0,s1,s2⟩;go_simp;with_reducible rfl);rotate_left;(· simp only [pL,i64_w,i32_w];rfl)
          refine pure_ (i:=15) (N:=some 28) (v:=?_) (a':=?_) clock_Valid.q16 rfl rfl (any_of HT_.out (by kernel_rfl)) (fun _ _ _ h=>h) (Or.inl ⟨by rfl,?_⟩) ?_ ?_
          rotate_left;(· intro w';go_simp;with_reducible rfl);rotate_left;(· simp only [pL,i64_w,i32_w];rfl)
          refine pure_ (i:=16) (N:=some 29) (v:=?_) (a':=?_) clock_Valid.q17 rfl rfl (any_of HT_.out (by kernel_rfl)) (fun _ _ _ h=>h) (Or.inl ⟨by rfl,?_⟩) ?_ ?_
          rotate_left;(· intro w';go_simp;with_reducible rfl);rotate_left;(· simp only [pL,i64_w,i32_w];rfl)
          refine pure_ (i:=17) (N:=some 30) (v:=?_) (a':=?_) clock_Valid.q18 rfl rfl (any_of HT_.out (by kernel_rfl)) (fun _ _ _ h=>h) (Or.inl ⟨by rfl,?_⟩) ?_ ?_
          rotate_left;(· intro w';go_simp;with_reducible rfl);rotate_left;(· simp only [pL,i64_w,i32_w];rfl)
          refine pure_ (i:=18) (N:=some 31) (v:=?_) (a':=?_) clock_Valid.q19 rfl rfl (any_of HT_.out (by kernel_rfl)) (fun _ _ _ h=>h) (Or.inl ⟨by rfl,?_⟩) ?_ ?_
          rotate_left;(· intro w';go_simp;with_reducible rfl);rotate_left;(· simp only [pL,i64_w,i32_w];rfl)
          refine pure_ (i:=19) (N:=some 32) (v:=undef) (a':=?_) clock_Valid.q20 rfl rfl (any_of HT_.out (by kernel_rfl)) (fun _ _ _ h=>h) (Or.inr ⟨by rfl,rfl⟩) ?_ ?_
          rotate_left
          ·simp only [pL,i64_w,i32_w]
           rfl
          refine pure_ (i:=20) (N:=some 33) (v:=undef) (a':=?_) clock_Valid.q21 rfl rfl (any_of HT_.out (by kernel_rfl)) (fun _ _ _ h=>h) (Or.inr ⟨by rfl,rfl⟩) ?_ ?_
          rotate_left
          ·simp only [pL,i64_w,i32_w]
           rfl
          refine pure_ (i:=21) (N:=some 34) (v:=undef) (a':=?_) clock_Valid.q22 rfl rfl (any_of HT_.out (by kernel_rfl)) (fun _ _ _ h=>h) (Or.inr ⟨by rfl,rfl⟩) ?_ ?_
          rotate_left
          ·simp only [pL,i64_w,i32_w]
           rfl
          refine pure_ (i:=22) (N:=some 35) (v:=undef) (a':=?_) clock_Valid.q23 rfl rfl (any_of HT_.out (by kernel_rfl)) (fun _ _ _ h=>h) (Or.inr ⟨by rfl,rfl⟩) ?_ ?_
          rotate_left
          ·simp only [pL,i64_w,i32_w]
           rfl
          refine pure_ (i:=23) (N:=some 36) (v:=undef) (a':=?_) clock_Valid.q24 rfl rfl (any_of HT_.out (by kernel_rfl)) (fun _ _ _ h=>h) (Or.inr ⟨by rfl,rfl⟩) ?_ ?_
          rotate_left
          ·simp only [pL,i64_w,i32_w]
           rfl
          refine pure_ (i:=24) (N:=some 37) (v:=undef) (a':=?_) clock_Valid.q25 rfl rfl (any_of HT_.out (by kernel_rfl)) (fun _ _ _ h=>h) (Or.inr ⟨by rfl,rfl⟩) ?_ ?_
          rotate_left
          ·simp only [pL,i64_w,i32_w]
           rfl
          refine pure_ (i:=25) (N:=some 38) (v:=undef) (a':=?_) clock_Valid.q26 rfl rfl (any_of HT_.out (by kernel_rfl)) (fun _ _ _ h=>h) (Or.inr ⟨by rfl,rfl⟩) ?_ ?_
          rotate_left
          ·simp only [pL,i64_w,i32_w]
           rfl
          refine pure_ (i:=26) (N:=some 39) (v:=undef) (a':=?_) clock_Valid.q27 rfl rfl (any_of HT_.out (by kernel_rfl)) (fun _ _ _ h=>h) (Or.inr ⟨by rfl,rfl⟩) ?_ ?_
          rotate_left
          ·simp only [pL,i64_w,i32_w]
           rfl
          refine pure_ (i:=27) (N:=some 40) (v:=undef) (a':=?_) clock_Valid.q28 rfl rfl (any_of HT_.out (by kernel_rfl)) (fun _ _ _ h=>h) (Or.inr ⟨by rfl,rfl⟩) ?_ ?_
          rotate_left
          ·simp only [pL,i64_w,i32_w]
           rfl
          refine pure_ (i:=28) (N:=some 41) (v:=undef) (a':=?_) clock_Valid.q29 rfl rfl (any_of HT_.out (by kernel_rfl)) (fun _ _ _ h=>h) (Or.inr ⟨by rfl,rfl⟩) ?_ ?_
          rotate_left
          ·simp only [pL,i64_w,i32_w]
           rfl
          refine pure_ (i:=29) (N:=some 42) (v:=undef) (a':=?_) clock_Valid.q30 rfl rfl (any_of HT_.out (by kernel_rfl)) (fun _ _ _ h=>h) (Or.inr ⟨by rfl,rfl⟩) ?_ ?_
          rotate_left
          ·simp only [pL,i64_w,i32_w]
           rfl
          refine pure_ (i:=30) (N:=some 43) (v:=undef) (a':=?_) clock_Valid.q31 rfl rfl (any_of HT_.out (by kernel_rfl)) (fun _ _ _ h=>h) (Or.inr ⟨by rfl,rfl⟩) ?_ ?_
          rotate_left
          ·simp only [pL,i64_w,i32_w]
           rfl
          refine pure_ (i:=31) (N:=some 44) (v:=undef) (a':=?_) clock_Valid.q32 rfl rfl (any_of HT_.out (by kernel_rfl)) (fun _ _ _ h=>h) (Or.inr ⟨by rfl,rfl⟩) ?_ ?_
          rotate_left
          ·simp only [pL,i64_w,i32_w]
           rfl
          refine pure_ (i:=32) (N:=some 45) (v:=undef) (a':=?_) clock_Valid.q33 rfl rfl (any_of HT_.out (by kernel_rfl)) (fun _ _ _ h=>h) (Or.inr ⟨by rfl,rfl⟩) ?_ ?_
          rotate_left
          ·simp only [pL,i64_w,i32_w]
           rfl
          refine pure_ (i:=33) (N:=some 46) (v:=?_) (a':=?_) clock_Valid.q34 rfl rfl (any_of HT_.out (by kernel_rfl)) (fun _ _ _ h=>h) (Or.inl ⟨by rfl,?_⟩) ?_ ?_
          rotate_left;(· intro w';go_simp;with_reducible rfl);rotate_left;(· simp only [pL,i64_w,i32_w];rfl)
          refine done_ (done_of HT_.out (by kernel_rfl)) ?_
          try go_wp2
          go_ret
          exact ⟨by first|rfl|(simp [errW_none,errW_some] <;> rfl)|(simp [*,errW_none,errW_some] <;> rfl),by repeat (first|(with_reducible first|exact HB.out|apply bA|apply bN|apply bD|refine bS ?_ GE111.out|refine bS ?_ GE113.out)|exact HB.out)⟩
        ·rw [if_neg c16] at H
         have c16b0:(x8_1 == 0)=false:=beq_eq_false_iff_ne.mpr c16
         have c16b1:(x8_1 != 0)=true:=bne_iff_ne.mpr c16
         by_cases c31:x8_1 > 0
         ·rw [if_pos c31] at H
          have c31b0:decide (0 < x8_1)=true:=decide_eq_true c31
          clear c31
          obtain ⟨ji32,hji32⟩:∃ j_:Int,(wrap64 (x8_1 - 1))=j_:=⟨_,rfl⟩
          replace H:(if 0≤(ji32) then (if (ji32) < (l0_0.length:Int) then (if ((rd_T61 l0_0 x8_1).f0)≤((rd_T61 l0_0 (ji32)).f0) then (some false) else (clock_Valid.l0 k1 l0_0 (l0_0.length:Int) (wrap64 (x8_1+1)) l0_0)) else (none)) else (none))=some r:=by first|(rw [hji32] at H;exact H)|(simp only [hji32] at H ⊢;exact H)
          (try rw [hji32] at A7)
          have hji32w:(IntKind.i64.wrap (x8_1 - 1))=ji32:=(i64_w _).trans hji32
          by_cases c33:0≤(ji32)
          ·rw [if_pos c33] at H
           have c33b0:decide (0≤(ji32))=true:=decide_eq_true c33
           clear c33
           by_cases c34:(ji32) < (l0_0.length:Int)
           ·rw [if_pos c34] at H
            have c34b0:decide ((ji32) < (l0_0.length:Int))=true:=decide_eq_true c34
            clear c34
            by_cases c35:((rd_T61 l0_0 x8_1).f0)≤((rd_T61 l0_0 (ji32)).f0)
            ·rw [if_pos c35] at H
             have c35b0:decide (((rd_T61 l0_0 x8_1).f0)≤((rd_T61 l0_0 (ji32)).f0))=true:=decide_eq_true c35
             clear c35
             obtain rfl:=Option.some.inj H
             have p112:0≤(x8_1:Int):=of_decide_eq_true (by first|(with_reducible assumption)|assumption)
             have q112:x8_1 < (l0_0.length:Int):=of_decide_eq_true (by first|(with_reducible assumption)|assumption)
             obtain ⟨ad112,e112,hx112_0,hx112_1,hx112_2⟩:=at_T61 HR0_0.out x8_1 p112 q112
             cases e112
             replace hx112_0:=(HB.out.cell (World.block_lt_of_cell? w _ hx112_0)).trans hx112_0
             replace hx112_1:=(HB.out.cell (World.block_lt_of_cell? w _ hx112_1)).trans hx112_1
             replace hx112_2:=(HB.out.cell (World.block_lt_of_cell? w _ hx112_2)).trans hx112_2
             replace p112:=eq_true p112
             replace q112:=eq_true q112
             try go_wp2_with (first|((with_reducible refine gate_dst (N:=4) rfl ?_);refine box_event ?hg (N:=4) ?hd (cs:=#[.int .i64 0, .int .i64 0, .int .i64 0]) (t:=61) ?hr ?_;(case hd=>rfl);(case hg=>rfl);(case hr=>first|(go_simp;done)|(go_simp;rfl));intro gb113 hg w36 hbox hb;have n0_:=Am (blk_below (g:=gb111) (o:=.cells #[.slice (some ad112) l0_0.length c0_0] 24 (0,0)) (by (with_reducible repeat first|apply kN|apply kD|apply kA);exact BK111.out) hb);have n1_:=Am (below_step (by repeat (first|(with_reducible first|exact HB.out|apply bA|apply bN|apply bD|refine bS ?_ GE111.out)|exact HB.out)) hb);have n2_:=Am (hbox);have n3_:=Am ((by rw [hg];exact (below_size (by repeat (first|(with_reducible first|exact HB.out|apply bA|apply bN|apply bD|refine bS ?_ GE111.out)|exact HB.out))):w.heap.size≤gb113));have n4_:=Am ((by rw [hg];exact (below_size (by repeat (first|(with_reducible first|exact HB.out|apply bA|apply bN|apply bD|refine bS ?_ GE111.out)|exact HB.out))):w.heap.size≤gb113));have n5_:=Am ((by rw [hg];exact Nat.ne_of_lt (blk_lt (g:=gb111) (o:=.cells #[.slice (some ad112) l0_0.length c0_0] 24 (0,0)) (by (with_reducible repeat first|apply kN|apply kD|apply kA);exact BK111.out)):gb111≠gb113));have n6_:=Am (n5_.out.symm);clear BK111 HB;have BK111:=n0_;have HB:=n1_;have BK113:=n2_;have GW113:=n3_;have GE113:=n4_;have NB111_113:=n5_;have NB113_111:=n6_;clear n0_ n1_ n2_ n3_ n4_ n5_ n6_ hb hbox hg;have hnb37:=NB113_111.out;have hnc37:=NB111_113.out;have hcz38_0:w36.cell? ⟨gb113,0,none⟩=some (.int .i64 0):=(blk_cell BK113.out 0).trans rfl;have hcz38_1:w36.cell? ⟨gb113,1,none⟩=some (.int .i64 0):=(blk_cell BK113.out 1).trans rfl;have hcz38_2:w36.cell? ⟨gb113,2,none⟩=some (.int .i64 0):=(blk_cell BK113.out 2).trans rfl;have hfz38_0:=blk_frozen BK113.out 0;have hfz38_1:=blk_frozen BK113.out 1;have hfz38_2:=blk_frozen BK113.out 2))
             have n0_:Aside0 ((((w36.setCell ⟨gb113,0,none⟩ (.int .i64 ((rd_T61 l0_0 x8_1).f0))).setCell ⟨gb113,1,none⟩ (.int .i64 ((rd_T61 l0_0 x8_1).f1.f0))).setCell ⟨gb113,2,none⟩ (.int .i64 ((rd_T61 l0_0 x8_1).f1.f1))).heap[gb111]?=some (.cells #[.slice (some ad112) l0_0.length c0_0] 24 (0,0))):=⟨by (with_reducible repeat first|apply kN|apply kD|apply kA);refine blk_far ?_ NB111_113.out _;(with_reducible repeat first|apply kN|apply kD|apply kA);refine blk_far ?_ NB111_113.out _;(with_reducible repeat first|apply kN|apply kD|apply kA);refine blk_far ?_ NB111_113.out _;(with_reducible repeat first|apply kN|apply kD|apply kA);exact BK111.out⟩
             have n1_:Aside0 ((((w36.setCell ⟨gb113,0,none⟩ (.int .i64 ((rd_T61 l0_0 x8_1).f0))).setCell ⟨gb113,1,none⟩ (.int .i64 ((rd_T61 l0_0 x8_1).f1.f0))).setCell ⟨gb113,2,none⟩ (.int .i64 ((rd_T61 l0_0 x8_1).f1.f1))).heap[gb113]?=some (.cells #[.int .i64 ((rd_T61 l0_0 x8_1).f0), .int .i64 ((rd_T61 l0_0 x8_1).f1.f0), .int .i64 ((rd_T61 l0_0 x8_1).f1.f1)] 61 (0,0))):=⟨by (with_reducible repeat first|apply kN|apply kD|apply kA);refine blk_put (cs:=#[.int .i64 ((rd_T61 l0_0 x8_1).f0), .int .i64 ((rd_T61 l0_0 x8_1).f1.f0), .int .i64 0]) ?_ 2 _ rfl;(with_reducible repeat first|apply kN|apply kD|apply kA);refine blk_put (cs:=#[.int .i64 ((rd_T61 l0_0 x8_1).f0), .int .i64 0, .int .i64 0]) ?_ 1 _ rfl;(with_reducible repeat first|apply kN|apply kD|apply kA);refine blk_put (cs:=#[.int .i64 0, .int .i64 0, .int .i64 0]) ?_ 0 _ rfl;(with_reducible repeat first|apply kN|apply kD|apply kA);exact BK113.out⟩
             have n2_:Aside0 (Below w.heap.size w (((w36.setCell ⟨gb113,0,none⟩ (.int .i64 ((rd_T61 l0_0 x8_1).f0))).setCell ⟨gb113,1,none⟩ (.int .i64 ((rd_T61 l0_0 x8_1).f1.f0))).setCell ⟨gb113,2,none⟩ (.int .i64 ((rd_T61 l0_0 x8_1).f1.f1)))):=⟨by repeat (first|(with_reducible first|exact HB.out|apply bA|apply bN|apply bD|refine bS ?_ GE111.out|refine bS ?_ GE113.out)|exact HB.out)⟩
             (try clear BK111);(try clear BK113);(try clear HB)
             generalize (((w36.setCell ⟨gb113,0,none⟩ (.int .i64 ((rd_T61 l0_0 x8_1).f0))).setCell ⟨gb113,1,none⟩ (.int .i64 ((rd_T61 l0_0 x8_1).f1.f0))).setCell ⟨gb113,2,none⟩ (.int .i64 ((rd_T61 l0_0 x8_1).f1.f1)))=w39 at n0_ n1_ n2_ ⊢
             have BK111:=n0_;have BK113:=n1_;have HB:=n2_;clear n0_ n1_ n2_
             have n0_:=Am (kD BK111.out)
             have n1_:=Am (kD BK113.out)
             have n2_:=Am (bD HB.out)
             clear BK111 BK113 HB;have BK111:=n0_;have BK113:=n1_;have HB:=n2_;clear n0_ n1_ n2_
             have p116:0≤((ji32):Int):=of_decide_eq_true (by first|(with_reducible assumption)|assumption)
             have q116:(ji32) < (l0_0.length:Int):=of_decide_eq_true (by first|(with_reducible assumption)|assumption)
             obtain ⟨ad116,e116,hx116_0,hx116_1,hx116_2⟩:=at_T61 HR0_0.out (ji32) p116 q116
             have hw116_2:=hx116_2;have hw116_1:=hx116_1;have hw116_0:=hx116_0
             obtain rfl:ad112=ad116:=(by injection e116)
             replace hx116_0:=(HB.out.cell (World.block_lt_of_cell? w _ hx116_0)).trans hx116_0
             replace hx116_1:=(HB.out.cell (World.block_lt_of_cell? w _ hx116_1)).trans hx116_1
             replace hx116_2:=(HB.out.cell (World.block_lt_of_cell? w _ hx116_2)).trans hx116_2
             replace p116:=eq_true p116
             replace q116:=eq_true q116
             refine start_ (n:=34) (S:=fun w'=>w'.cell? ⟨gb113,0,none⟩=some (.int .i64 ((rd_T61 l0_0 x8_1).f0))∧w'.cell? ⟨gb113,1,none⟩=some (.int .i64 ((rd_T61 l0_0 x8_1).f1.f0))∧w'.cell? ⟨gb113,2,none⟩=some (.int .i64 ((rd_T61 l0_0 x8_1).f1.f1))∧w'.cell? ⟨gb111,0,none⟩=some (.slice (some ad112) l0_0.length c0_0)∧w'.cell? (ad112.add (((ji32)).toNat * 3))=some (.int .i64 ((rd_T61 l0_0 (ji32)).f0))∧w'.cell? ⟨(ad112.add (((ji32)).toNat * 3)).block,(ad112.add (((ji32)).toNat * 3)).off+1,none⟩=some (.int .i64 ((rd_T61 l0_0 (ji32)).f1.f0))∧w'.cell? ⟨(ad112.add (((ji32)).toNat * 3)).block,(ad112.add (((ji32)).toNat * 3)).off+2,none⟩=some (.int .i64 ((rd_T61 l0_0 (ji32)).f1.f1))) (ds:=[]) clock_Valid.q0 (by kernel_rfl) rfl rfl ⟨(blk_cell BK113.out 0).trans rfl,(blk_cell BK113.out 1).trans rfl,(blk_cell BK113.out 2).trans rfl,(blk_cell BK111.out 0).trans rfl,((HB.out.cell (World.block_lt_of_cell? w _ hw116_0)).trans hw116_0),((HB.out.cell (World.block_lt_of_cell? w _ hw116_1)).trans hw116_1),((HB.out.cell (World.block_lt_of_cell? w _ hw116_2)).trans hw116_2)⟩ (fun hHeld=>?_);refine with_tabW clock_Valid.tab4 clock_Valid.bits4 (fun HT_ HW_=>?_)
             generalize w39.drew=w40 at BK111 BK113 HB hx116_0 hx116_1 hx116_2 hHeld ⊢
             refine pure_ (i:=0) (N:=some 13) (v:=?_) (a':=?_) clock_Valid.q1 rfl rfl (any_of HT_.out (by kernel_rfl)) (fun _ _ _ h=>h) (Or.inl ⟨by rfl,?_⟩) ?_ ?_
             rotate_left;(· intro w';go_simp;with_reducible rfl);rotate_left;(· simp only [pL,i64_w,i32_w];rfl)
             refine take_ (i:=1) (N:=some 14) (v:=?_) (a':=?_) clock_Valid.q2 rfl rfl (take_ofW HT_.out HW_.out (by kernel_rfl)) (fun _ _ _ h=>h) (Or.inl ⟨by rfl,?_⟩) hHeld ?_ ?_
             rotate_left;(· rintro w' ⟨s0,s1,s2,s3,s4,s5,s6⟩;go_simp;with_reducible rfl);rotate_left;(· simp only [pL,i64_w,i32_w];rfl)
             refine one_ (i:=2) (N:=some 15) clock_Valid.q3 rfl rfl (one_of HT_.out (by kernel_rfl)) (by decide) (fun K hK=>?_)
             refine goes_ Try.func30 (by kernel_rfl) rfl #[.agg #[.int .i64 ((rd_T61 l0_0 x8_1).f1.f0), .int .i64 ((rd_T61 l0_0 x8_1).f1.f1)]] (by rfl) rfl rfl (by (try simp only [List.map_toArray,List.map_cons,List.map_nil]);first|done|rfl|(simp only [List.length_drop,List.length_take];rfl)) ?_
             with_reducible refine (clock_usual.calls k1 ((rd_T61 l0_0 x8_1).f1.f0) ((rd_T61 l0_0 x8_1).f1.f1) true _ A7.out).mono ?_
             rintro e w41 ⟨rfl,hb⟩
             refine ⟨_,rfl,?_⟩
             have n0_:=Am (blk_below (g:=gb111) (o:=.cells #[.slice (some ad112) l0_0.length c0_0] 24 (0,0)) (by (with_reducible repeat first|apply kN|apply kD|apply kA);exact BK111.out) hb)
             have n1_:=Am (blk_below (g:=gb113) (o:=.cells #[.int .i64 ((rd_T61 l0_0 x8_1).f0), .int .i64 ((rd_T61 l0_0 x8_1).f1.f0), .int .i64 ((rd_T61 l0_0 x8_1).f1.f1)] 61 (0,0)) (by (with_reducible repeat first|apply kN|apply kD|apply kA);exact BK113.out) hb)
             have n2_:=Am (below_step (by repeat (first|(with_reducible first|exact HB.out|apply bA|apply bN|apply bD|refine bS ?_ GE111.out|refine bS ?_ GE113.out)|exact HB.out)) hb)
             clear BK111 BK113 HB;have BK111:=n0_;have BK113:=n1_;have HB:=n2_;clear n0_ n1_ n2_;(try clear hb)
             refine hK.out _ _ ⟨(blk_cell BK113.out 0).trans rfl,(blk_cell BK113.out 1).trans rfl,(blk_cell BK113.out 2).trans rfl,(blk_cell BK111.out 0).trans rfl,((HB.out.cell (World.block_lt_of_cell? w _ hw116_0)).trans hw116_0),((HB.out.cell (World.block_lt_of_cell? w _ hw116_1)).trans hw116_1),((HB.out.cell (World.block_lt_of_cell? w _ hw116_2)).trans hw116_2)⟩ (fun hHeld=>?_)
             clear hK K
             refine norm_ (a':=?_) ?_ ?_
             rotate_left
             ·show Act.put _ (some 15) _=_
              simp only [pL,i64_w,i32_w]
              rfl
             refine pure_ (i:=3) (N:=some 16) (v:=?_) (a':=?_) clock_Valid.q4 rfl rfl (any_of HT_.out (by kernel_rfl)) (fun _ _ _ h=>h) (Or.inl ⟨by rfl,?_⟩) ?_ ?_
             rotate_left;(· intro w';go_simp;with_reducible rfl);rotate_left;(· simp only [pL,i64_w,i32_w];rfl)
             refine pure_ (i:=4) (N:=some 17) (v:=?_) (a':=?_) clock_Valid.q5 rfl rfl (any_of HT_.out (by kernel_rfl)) (fun _ _ _ h=>h) (Or.inl ⟨by rfl,?_⟩) ?_ ?_
             rotate_left;(· intro w';go_simp;with_reducible rfl);rotate_left;(· simp only [pL,i64_w,i32_w];rfl)
             refine pure_ (i:=5) (N:=some 18) (v:=?_) (a':=?_) clock_Valid.q6 rfl rfl (any_of HT_.out (by kernel_rfl)) (fun _ _ _ h=>h) (Or.inl ⟨by rfl,?_⟩) ?_ ?_
             rotate_left;(· intro w';go_simp;with_reducible rfl);rotate_left;(· simp only [pL,i64_w,i32_w];rfl)
             refine take_ (i:=6) (N:=some 19) (v:=?_) (a':=?_) clock_Valid.q7 rfl rfl (take_ofW HT_.out HW_.out (by kernel_rfl)) (fun _ _ _ h=>h) (Or.inl ⟨by rfl,?_⟩) hHeld ?_ ?_
             rotate_left;(· rintro w' ⟨s0,s1,s2,s3,s4,s5,s6⟩;go_simp;with_reducible rfl);rotate_left;(· simp only [pL,i64_w,i32_w];rfl)
             refine pure_ (i:=7) (N:=some 20) (v:=?_) (a':=?_) clock_Valid.q8 rfl rfl (any_of HT_.out (by kernel_rfl)) (fun _ _ _ h=>h) (Or.inl ⟨by rfl,?_⟩) ?_ ?_
             rotate_left;(· intro w';go_simp;with_reducible rfl);rotate_left;(· simp only [pL,i64_w,i32_w];rfl)
             refine pure_ (i:=8) (N:=some 21) (v:=?_) (a':=?_) clock_Valid.q9 rfl rfl (any_of HT_.out (by kernel_rfl)) (fun _ _ _ h=>h) (Or.inl ⟨by rfl,?_⟩) ?_ ?_
             rotate_left;(· intro w';go_simp;with_reducible rfl);rotate_left;(· simp only [pL,i64_w,i32_w];rfl)
             refine pure_ (i:=9) (N:=some 22) (v:=?_) (a':=?_) clock_Valid.q10 rfl rfl (any_of HT_.out (by kernel_rfl)) (fun _ _ _ h=>h) (Or.inl ⟨by rfl,?_⟩) ?_ ?_
             rotate_left;(· intro w';go_simp;with_reducible rfl);rotate_left;(· simp only [pL,i64_w,i32_w];rfl)
             refine pure_ (i:=10) (N:=some 23) (v:=?_) (a':=?_) clock_Valid.q11 rfl rfl (any_of HT_.out (by kernel_rfl)) (fun _ _ _ h=>h) (Or.inl ⟨by rfl,?_⟩) ?_ ?_
             rotate_left;(· intro w';go_simp;with_reducible rfl);rotate_left;(· simp only [pL,i64_w,i32_w];rfl)
             refine pure_ (i:=11) (N:=some 24) (v:=?_) (a':=?_) clock_Valid.q12 rfl rfl (any_of HT_.out (by kernel_rfl)) (fun _ _ _ h=>h) (Or.inl ⟨by rfl,?_⟩) ?_ ?_
             rotate_left;(· intro w';go_simp;with_reducible rfl);rotate_left;(· simp only [pL,i64_w,i32_w];rfl)
             refine pure_ (i:=12) (N:=some 25) (v:=?_) (a':=?_) clock_Valid.q13 rfl rfl (any_of HT_.out (by kernel_rfl)) (fun _ _ _ h=>h) (Or.inl ⟨by rfl,?_⟩) ?_ ?_
             rotate_left;(· intro w';go_simp;with_reducible rfl);rotate_left;(· simp only [pL,i64_w,i32_w];rfl)
             refine pure_ (i:=13) (N:=some 26) (v:=undef) (a':=?_) clock_Valid.q14 rfl rfl (any_of HT_.out (by kernel_rfl)) (fun _ _ _ h=>h) (Or.inr ⟨by rfl,rfl⟩) ?_ ?_
             rotate_left
             ·simp only [pL,i64_w,i32_w]
              rfl
             refine pure_ (i:=14) (N:=some 27) (v:=undef) (a':=?_) clock_Valid.q15 rfl rfl (any_of HT_.out (by kernel_rfl)) (fun _ _ _ h=>h) (Or.inr ⟨by rfl,rfl⟩) ?_ ?_
             rotate_left
             ·simp only [pL,i64_w,i32_w]
              rfl
             refine pure_ (i:=15) (N:=some 28) (v:=undef) (a':=?_) clock_Valid.q16 rfl rfl (any_of HT_.out (by kernel_rfl)) (fun _ _ _ h=>h) (Or.inr ⟨by rfl,rfl⟩) ?_ ?_
             rotate_left
             ·simp only [pL,i64_w,i32_w]
              rfl
             refine pure_ (i:=16) (N:=some 29) (v:=?_) (a':=?_) clock_Valid.q17 rfl rfl (any_of HT_.out (by kernel_rfl)) (fun _ _ _ h=>h) (Or.inl ⟨by rfl,?_⟩) ?_ ?_
             rotate_left;(· intro w';go_simp;with_reducible rfl);rotate_left;(· simp only [pL,i64_w,i32_w];rfl)
             refine pure_ (i:=17) (N:=some 30) (v:=?_) (a':=?_) clock_Valid.q18 rfl rfl (any_of HT_.out (by kernel_rfl)) (fun _ _ _ h=>h) (Or.inl ⟨by rfl,?_⟩) ?_ ?_
             rotate_left;(· intro w';go_simp;with_reducible rfl);rotate_left;(· simp only [pL,i64_w,i32_w];rfl)
             refine pure_ (i:=18) (N:=some 31) (v:=?_) (a':=?_) clock_Valid.q19 rfl rfl (any_of HT_.out (by kernel_rfl)) (fun _ _ _ h=>h) (Or.inl ⟨by rfl,?_⟩) ?_ ?_
             rotate_left;(· intro w';go_simp;with_reducible rfl);rotate_left;(· simp only [pL,i64_w,i32_w];rfl)
             refine pure_ (i:=19) (N:=some 32) (v:=?_) (a':=?_) clock_Valid.q20 rfl rfl (any_of HT_.out (by kernel_rfl)) (fun _ _ _ h=>h) (Or.inl ⟨by rfl,?_⟩) ?_ ?_
             rotate_left;(· intro w';go_simp;with_reducible rfl);rotate_left;(· simp only [pL,i64_w,i32_w];rfl)
             refine pure_ (i:=20) (N:=some 33) (v:=?_) (a':=?_) clock_Valid.q21 rfl rfl (any_of HT_.out (by kernel_rfl)) (fun _ _ _ h=>h) (Or.inl ⟨by rfl,?_⟩) ?_ ?_
             rotate_left;(· intro w';go_simp;with_reducible rfl);rotate_left;(· simp only [pL,i64_w,i32_w];rfl)
             refine pure_ (i:=21) (N:=some 34) (v:=?_) (a':=?_) clock_Valid.q22 rfl rfl (any_of HT_.out (by kernel_rfl)) (fun _ _ _ h=>h) (Or.inl ⟨by rfl,?_⟩) ?_ ?_
             rotate_left;(· intro w';go_simp;with_reducible rfl);rotate_left;(· simp only [pL,i64_w,i32_w];rfl)
             refine pure_ (i:=22) (N:=some 35) (v:=?_) (a':=?_) clock_Valid.q23 rfl rfl (any_of HT_.out (by kernel_rfl)) (fun _ _ _ h=>h) (Or.inl ⟨by rfl,?_⟩) ?_ ?_
             rotate_left;(· intro w';go_simp;with_reducible rfl);rotate_left;(· simp only [pL,i64_w,i32_w];rfl)
             refine pure_ (i:=24) (N:=some 37) (v:=?_) (a':=?_) clock_Valid.q35 rfl rfl (any_of HT_.out (by kernel_rfl)) (fun _ _ _ h=>h) (Or.inl ⟨by rfl,?_⟩) ?_ ?_
             rotate_left;(· intro w';go_simp;with_reducible rfl);rotate_left;(· simp only [pL,i64_w,i32_w];rfl)
             refine pure_ (i:=26) (N:=some 39) (v:=?_) (a':=?_) clock_Valid.q36 rfl rfl (any_of HT_.out (by kernel_rfl)) (fun _ _ _ h=>h) (Or.inl ⟨by rfl,?_⟩) ?_ ?_
             rotate_left;(· intro w';go_simp;with_reducible rfl);rotate_left;(· simp only [pL,i64_w,i32_w];rfl)
             refine pure_ (i:=27) (N:=some 40) (v:=?_) (a':=?_) clock_Valid.q37 rfl rfl (any_of HT_.out (by kernel_rfl)) (fun _ _ _ h=>h) (Or.inl ⟨by rfl,?_⟩) ?_ ?_
             rotate_left;(· intro w';go_simp;with_reducible rfl);rotate_left;(· simp only [pL,i64_w,i32_w];rfl)
             refine take_ (i:=23) (N:=some 36) (v:=?_) (a':=?_) clock_Valid.q38 rfl rfl (take_ofW HT_.out HW_.out (by kernel_rfl)) (fun _ _ _ h=>h) (Or.inl ⟨by rfl,?_⟩) hHeld ?_ ?_
             rotate_left;(· rintro w' ⟨s0,s1,s2,s3,s4,s5,s6⟩;go_simp;with_reducible rfl);rotate_left;(· simp only [pL,i64_w,i32_w];rfl)
             refine take_ (i:=25) (N:=some 38) (v:=?_) (a':=?_) clock_Valid.q28 rfl rfl (take_ofW HT_.out HW_.out (by kernel_rfl)) (fun _ _ _ h=>h) (Or.inl ⟨by rfl,?_⟩) hHeld ?_ ?_
             rotate_left;(· rintro w' ⟨s0,s1,s2,s3,s4,s5,s6⟩;go_simp;with_reducible rfl);rotate_left;(· simp only [pL,i64_w,i32_w];rfl)
             refine pure_ (i:=28) (N:=some 41) (v:=?_) (a':=?_) clock_Valid.q29 rfl rfl (any_of HT_.out (by kernel_rfl)) (fun _ _ _ h=>h) (Or.inl ⟨by rfl,?_⟩) ?_ ?_
             rotate_left;(· intro w';go_simp;with_reducible rfl);rotate_left;(· simp only [pL,i64_w,i32_w];rfl)
             refine pure_ (i:=29) (N:=some 42) (v:=?_) (a':=?_) clock_Valid.q30 rfl rfl (any_of HT_.out (by kernel_rfl)) (fun _ _ _ h=>h) (Or.inl ⟨by rfl,?_⟩) ?_ ?_
             rotate_left;(· intro w';go_simp;with_reducible rfl);rotate_left;(· simp only [pL,i64_w,i32_w];rfl)
             refine take_ (i:=30) (N:=some 43) (v:=?_) (a':=?_) clock_Valid.q31 rfl rfl (take_ofW HT_.out HW_.out (by kernel_rfl)) (fun _ _ _ h=>h) (Or.inl ⟨by rfl,?_⟩) hHeld ?_ ?_
             rotate_left;(· rintro w' ⟨s0,s1,s2,s3,s4,s5,s6⟩;go_simp;with_reducible rfl);rotate_left;(· simp only [pL,i64_w,i32_w];rfl)
             refine pure_ (i:=31) (N:=some 44) (v:=?_) (a':=?_) clock_Valid.q32 rfl rfl (any_of HT_.out (by kernel_rfl)) (fun _ _ _ h=>h) (Or.inl ⟨by rfl,?_⟩) ?_ ?_
             rotate_left;(· intro w';go_simp;with_reducible rfl);rotate_left;(· simp only [pL,i64_w,i32_w];rfl)
             refine pure_ (i:=32) (N:=some 45) (v:=?_) (a':=?_) clock_Valid.q33 rfl rfl (any_of HT_.out (by kernel_rfl)) (fun _ _ _ h=>h) (Or.inl ⟨by rfl,?_⟩) ?_ ?_
             rotate_left;(· intro w';go_simp;with_reducible rfl);rotate_left;(· simp only [pL,i64_w,i32_w];rfl)
             refine pure_ (i:=33) (N:=some 46) (v:=?_) (a':=?_) clock_Valid.q34 rfl rfl (any_of HT_.out (by kernel_rfl)) (fun _ _ _ h=>h) (Or.inl ⟨by rfl,?_⟩) ?_ ?_
             rotate_left;(· intro w';go_simp;with_reducible rfl);rotate_left;(· simp only [pL,i64_w,i32_w];rfl)
             refine done_ (done_of HT_.out (by kernel_rfl)) ?_
             try go_wp2
             go_ret
             exact ⟨by first|rfl|(simp [errW_none,errW_some] <;> rfl)|(simp only [← hji32];first|rfl|(simp [errW_none,errW_some] <;> rfl))|(simp [*,errW_none,errW_some] <;> rfl),by repeat (first|(with_reducible first|exact HB.out|apply bA|apply bN|apply bD|refine bS ?_ GE111.out|refine bS ?_ GE113.out)|exact HB.out)⟩
            ·rw [if_neg c35] at H
             have c35b0:decide (((rd_T61 l0_0 x8_1).f0)≤((rd_T61 l0_0 (ji32)).f0))=false:=decide_eq_false c35
             clear c35
             have H':=Am H
             clear H
             have p112:0≤(x8_1:Int):=of_decide_eq_true (by first|(with_reducible assumption)|assumption)
             have q112:x8_1 < (l0_0.length:Int):=of_decide_eq_true (by first|(with_reducible assumption)|assumption)
             obtain ⟨ad112,e112,hx112_0,hx112_1,hx112_2⟩:=at_T61 HR0_0.out x8_1 p112 q112
             cases e112
             replace hx112_0:=(HB.out.cell (World.block_lt_of_cell? w _ hx112_0)).trans hx112_0
             replace hx112_1:=(HB.out.cell (World.block_lt_of_cell? w _ hx112_1)).trans hx112_1
             replace hx112_2:=(HB.out.cell (World.block_lt_of_cell? w _ hx112_2)).trans hx112_2
             replace p112:=eq_true p112
             replace q112:=eq_true q112
             try go_wp2_with (first|((with_reducible refine gate_dst (N:=4) rfl ?_);refine box_event ?hg (N:=4) ?hd (cs:=#[.int .i64 0, .int .i64 0, .int .i64 0]) (t:=61) ?hr ?_;(case hd=>rfl);(case hg=>rfl);(case hr=>first|(go_simp;done)|(go_simp;rfl));intro gb113 hg w42 hbox hb;have n0_:=Am (blk_below (g:=gb111) (o:=.cells #[.slice (some ad112) l0_0.length c0_0] 24 (0,0)) (by (with_reducible repeat first|apply kN|apply kD|apply kA);exact BK111.out) hb);have n1_:=Am (below_step (by repeat (first|(with_reducible first|exact HB.out|apply bA|apply bN|apply bD|refine bS ?_ GE111.out)|exact HB.out)) hb);have n2_:=Am (hbox);have n3_:=Am ((by rw [hg];exact (below_size (by repeat (first|(with_reducible first|exact HB.out|apply bA|apply bN|apply bD|refine bS ?_ GE111.out)|exact HB.out))):w.heap.size≤gb113));have n4_:=Am ((by rw [hg];exact (below_size (by repeat (first|(with_reducible first|exact HB.out|apply bA|apply bN|apply bD|refine bS ?_ GE111.out)|exact HB.out))):w.heap.size≤gb113));have n5_:=Am ((by rw [hg];exact Nat.ne_of_lt (blk_lt (g:=gb111) (o:=.cells #[.slice (some ad112) l0_0.length c0_0] 24 (0,0)) (by (with_reducible repeat first|apply kN|apply kD|apply kA);exact BK111.out)):gb111≠gb113));have n6_:=Am (n5_.out.symm);clear BK111 HB;have BK111:=n0_;have HB:=n1_;have BK113:=n2_;have GW113:=n3_;have GE113:=n4_;have NB111_113:=n5_;have NB113_111:=n6_;clear n0_ n1_ n2_ n3_ n4_ n5_ n6_ hb hbox hg;have hnb43:=NB113_111.out;have hnc43:=NB111_113.out;have hcz44_0:w42.cell? ⟨gb113,0,none⟩=some (.int .i64 0):=(blk_cell BK113.out 0).trans rfl;have hcz44_1:w42.cell? ⟨gb113,1,none⟩=some (.int .i64 0):=(blk_cell BK113.out 1).trans rfl;have hcz44_2:w42.cell? ⟨gb113,2,none⟩=some (.int .i64 0):=(blk_cell BK113.out 2).trans rfl;have hfz44_0:=blk_frozen BK113.out 0;have hfz44_1:=blk_frozen BK113.out 1;have hfz44_2:=blk_frozen BK113.out 2))
             have n0_:Aside0 ((((w42.setCell ⟨gb113,0,none⟩ (.int .i64 ((rd_T61 l0_0 x8_1).f0))).setCell ⟨gb113,1,none⟩ (.int .i64 ((rd_T61 l0_0 x8_1).f1.f0))).setCell ⟨gb113,2,none⟩ (.int .i64 ((rd_T61 l0_0 x8_1).f1.f1))).heap[gb111]?=some (.cells #[.slice (some ad112) l0_0.length c0_0] 24 (0,0))):=⟨by (with_reducible repeat first|apply kN|apply kD|apply kA);refine blk_far ?_ NB111_113.out _;(with_reducible repeat first|apply kN|apply kD|apply kA);refine blk_far ?_ NB111_113.out _;(with_reducible repeat first|apply kN|apply kD|apply kA);refine blk_far ?_ NB111_113.out _;(with_reducible repeat first|apply kN|apply kD|apply kA);exact BK111.out⟩
             have n1_:Aside0 ((((w42.setCell ⟨gb113,0,none⟩ (.int .i64 ((rd_T61 l0_0 x8_1).f0))).setCell ⟨gb113,1,none⟩ (.int .i64 ((rd_T61 l0_0 x8_1).f1.f0))).setCell ⟨gb113,2,none⟩ (.int .i64 ((rd_T61 l0_0 x8_1).f1.f1))).heap[gb113]?=some (.cells #[.int .i64 ((rd_T61 l0_0 x8_1).f0), .int .i64 ((rd_T61 l0_0 x8_1).f1.f0), .int .i64 ((rd_T61 l0_0 x8_1).f1.f1)] 61 (0,0))):=⟨by (with_reducible repeat first|apply kN|apply kD|apply kA);refine blk_put (cs:=#[.int .i64 ((rd_T61 l0_0 x8_1).f0), .int .i64 ((rd_T61 l0_0 x8_1).f1.f0), .int .i64 0]) ?_ 2 _ rfl;(with_reducible repeat first|apply kN|apply kD|apply kA);refine blk_put (cs:=#[.int .i64 ((rd_T61 l0_0 x8_1).f0), .int .i64 0, .int .i64 0]) ?_ 1 _ rfl;(with_reducible repeat first|apply kN|apply kD|apply kA);refine blk_put (cs:=#[.int .i64 0, .int .i64 0, .int .i64 0]) ?_ 0 _ rfl;(with_reducible repeat first|apply kN|apply kD|apply kA);exact BK113.out⟩
             have n2_:Aside0 (Below w.heap.size w (((w42.setCell ⟨gb113,0,none⟩ (.int .i64 ((rd_T61 l0_0 x8_1).f0))).setCell ⟨gb113,1,none⟩ (.int .i64 ((rd_T61 l0_0 x8_1).f1.f0))).setCell ⟨gb113,2,none⟩ (.int .i64 ((rd_T61 l0_0 x8_1).f1.f1)))):=⟨by repeat (first|(with_reducible first|exact HB.out|apply bA|apply bN|apply bD|refine bS ?_ GE111.out|refine bS ?_ GE113.out)|exact HB.out)⟩
             (try clear BK111);(try clear BK113);(try clear HB)
             generalize (((w42.setCell ⟨gb113,0,none⟩ (.int .i64 ((rd_T61 l0_0 x8_1).f0))).setCell ⟨gb113,1,none⟩ (.int .i64 ((rd_T61 l0_0 x8_1).f1.f0))).setCell ⟨gb113,2,none⟩ (.int .i64 ((rd_T61 l0_0 x8_1).f1.f1)))=w45 at n0_ n1_ n2_ ⊢
             have BK111:=n0_;have BK113:=n1_;have HB:=n2_;clear n0_ n1_ n2_
             have n0_:=Am (kD BK111.out)
             have n1_:=Am (kD BK113.out)
             have n2_:=Am (bD HB.out)
             clear BK111 BK113 HB;have BK111:=n0_;have BK113:=n1_;have HB:=n2_;clear n0_ n1_ n2_
             have p116:0≤((ji32):Int):=of_decide_eq_true (by first|(with_reducible assumption)|assumption)
             have q116:(ji32) < (l0_0.length:Int):=of_decide_eq_true (by first|(with_reducible assumption)|assumption)
             obtain ⟨ad116,e116,hx116_0,hx116_1,hx116_2⟩:=at_T61 HR0_0.out (ji32) p116 q116
             have hw116_2:=hx116_2;have hw116_1:=hx116_1;have hw116_0:=hx116_0
             obtain rfl:ad112=ad116:=(by injection e116)
             replace hx116_0:=(HB.out.cell (World.block_lt_of_cell? w _ hx116_0)).trans hx116_0
             replace hx116_1:=(HB.out.cell (World.block_lt_of_cell? w _ hx116_1)).trans hx116_1
             replace hx116_2:=(HB.out.cell (World.block_lt_of_cell? w _ hx116_2)).trans hx116_2
             replace p116:=eq_true p116
             replace q116:=eq_true q116
             refine start_ (n:=34) (S:=fun w'=>w'.cell? ⟨gb113,0,none⟩=some (.int .i64 ((rd_T61 l0_0 x8_1).f0))∧w'.cell? ⟨gb113,1,none⟩=some (.int .i64 ((rd_T61 l0_0 x8_1).f1.f0))∧w'.cell? ⟨gb113,2,none⟩=some (.int .i64 ((rd_T61 l0_0 x8_1).f1.f1))∧w'.cell? ⟨gb111,0,none⟩=some (.slice (some ad112) l0_0.length c0_0)∧w'.cell? (ad112.add (((ji32)).toNat * 3))=some (.int .i64 ((rd_T61 l0_0 (ji32)).f0))∧w'.cell? ⟨(ad112.add (((ji32)).toNat * 3)).block,(ad112.add (((ji32)).toNat * 3)).off+1,none⟩=some (.int .i64 ((rd_T61 l0_0 (ji32)).f1.f0))∧w'.cell? ⟨(ad112.add (((ji32)).toNat * 3)).block,(ad112.add (((ji32)).toNat * 3)).off+2,none⟩=some (.int .i64 ((rd_T61 l0_0 (ji32)).f1.f1))) (ds:=[]) clock_Valid.q0 (by kernel_rfl) rfl rfl ⟨(blk_cell BK113.out 0).trans rfl,(blk_cell BK113.out 1).trans rfl,(blk_cell BK113.out 2).trans rfl,(blk_cell BK111.out 0).trans rfl,((HB.out.cell (World.block_lt_of_cell? w _ hw116_0)).trans hw116_0),((HB.out.cell (World.block_lt_of_cell? w _ hw116_1)).trans hw116_1),((HB.out.cell (World.block_lt_of_cell? w _ hw116_2)).trans hw116_2)⟩ (fun hHeld=>?_);refine with_tabW clock_Valid.tab4 clock_Valid.bits4 (fun HT_ HW_=>?_)
             generalize w45.drew=w46 at BK111 BK113 HB hx116_0 hx116_1 hx116_2 hHeld ⊢
             refine pure_ (i:=0) (N:=some 13) (v:=?_) (a':=?_) clock_Valid.q1 rfl rfl (any_of HT_.out (by kernel_rfl)) (fun _ _ _ h=>h) (Or.inl ⟨by rfl,?_⟩) ?_ ?_
             rotate_left;(· intro w';go_simp;with_reducible rfl);rotate_left;(· simp only [pL,i64_w,i32_w];rfl)
             refine take_ (i:=1) (N:=some 14) (v:=?_) (a':=?_) clock_Valid.q2 rfl rfl (take_ofW HT_.out HW_.out (by kernel_rfl)) (fun _ _ _ h=>h) (Or.inl ⟨by rfl,?_⟩) hHeld ?_ ?_
             rotate_left;(· rintro w' ⟨s0,s1,s2,s3,s4,s5,s6⟩;go_simp;with_reducible rfl);rotate_left;(· simp only [pL,i64_w,i32_w];rfl)
             refine one_ (i:=2) (N:=some 15) clock_Valid.q3 rfl rfl (one_of HT_.out (by kernel_rfl)) (by decide) (fun K hK=>?_)
             refine goes_ Try.func30 (by kernel_rfl) rfl #[.agg #[.int .i64 ((rd_T61 l0_0 x8_1).f1.f0), .int .i64 ((rd_T61 l0_0 x8_1).f1.f1)]] (by rfl) rfl rfl (by (try simp only [List.map_toArray,List.map_cons,List.map_nil]);first|done|rfl|(simp only [List.length_drop,List.length_take];rfl)) ?_
             with_reducible refine (clock_usual.calls k1 ((rd_T61 l0_0 x8_1).f1.f0) ((rd_T61 l0_0 x8_1).f1.f1) true _ A7.out).mono ?_
             rintro e w47 ⟨rfl,hb⟩
             refine ⟨_,rfl,?_⟩
             have n0_:=Am (blk_below (g:=gb111) (o:=.cells #[.slice (some ad112) l0_0.length c0_0] 24 (0,0)) (by (with_reducible repeat first|apply kN|apply kD|apply kA);exact BK111.out) hb)
             have n1_:=Am (blk_below (g:=gb113) (o:=.cells #[.int .i64 ((rd_T61 l0_0 x8_1).f0), .int .i64 ((rd_T61 l0_0 x8_1).f1.f0), .int .i64 ((rd_T61 l0_0 x8_1).f1.f1)] 61 (0,0)) (by (with_reducible repeat first|apply kN|apply kD|apply kA);exact BK113.out) hb)
             have n2_:=Am (below_step (by repeat (first|(with_reducible first|exact HB.out|apply bA|apply bN|apply bD|refine bS ?_ GE111.out|refine bS ?_ GE113.out)|exact HB.out)) hb)
             clear BK111 BK113 HB;have BK111:=n0_;have BK113:=n1_;have HB:=n2_;clear n0_ n1_ n2_;(try clear hb)
             refine hK.out _ _ ⟨(blk_cell BK113.out 0).trans rfl,(blk_cell BK113.out 1).trans rfl,(blk_cell BK113.out 2).trans rfl,(blk_cell BK111.out 0).trans rfl,((HB.out.cell (World.block_lt_of_cell? w _ hw116_0)).trans hw116_0),((HB.out.cell (World.block_lt_of_cell? w _ hw116_1)).trans hw116_1),((HB.out.cell (World.block_lt_of_cell? w _ hw116_2)).trans hw116_2)⟩ (fun hHeld=>?_)
             clear hK K
             refine norm_ (a':=?_) ?_ ?_
             rotate_left
             ·show Act.put _ (some 15) _=_
              simp only [pL,i64_w,i32_w]
              rfl
             refine pure_ (i:=3) (N:=some 16) (v:=?_) (a':=?_) clock_Valid.q4 rfl rfl (any_of HT_.out (by kernel_rfl)) (fun _ _ _ h=>h) (Or.inl ⟨by rfl,?_⟩) ?_ ?_
             rotate_left;(· intro w';go_simp;with_reducible rfl);rotate_left;(· simp only [pL,i64_w,i32_w];rfl)
             refine pure_ (i:=4) (N:=some 17) (v:=?_) (a':=?_) clock_Valid.q5 rfl rfl (any_of HT_.out (by kernel_rfl)) (fun _ _ _ h=>h) (Or.inl ⟨by rfl,?_⟩) ?_ ?_
             rotate_left;(· intro w';go_simp;with_reducible rfl);rotate_left;(· simp only [pL,i64_w,i32_w];rfl)
             refine pure_ (i:=5) (N:=some 18) (v:=?_) (a':=?_) clock_Valid.q6 rfl rfl (any_of HT_.out (by kernel_rfl)) (fun _ _ _ h=>h) (Or.inl ⟨by rfl,?_⟩) ?_ ?_
             rotate_left;(· intro w';go_simp;with_reducible rfl);rotate_left;(· simp only [pL,i64_w,i32_w];rfl)
             refine take_ (i:=6) (N:=some 19) (v:=?_) (a':=?_) clock_Valid.q7 rfl rfl (take_ofW HT_.out HW_.out (by kernel_rfl)) (fun _ _ _ h=>h) (Or.inl ⟨by rfl,?_⟩) hHeld ?_ ?_
             rotate_left;(· rintro w' ⟨s0,s1,s2,s3,s4,s5,s6⟩;go_simp;with_reducible rfl);rotate_left;(· simp only [pL,i64_w,i32_w];rfl)
             refine pure_ (i:=7) (N:=some 20) (v:=?_) (a':=?_) clock_Valid.q8 rfl rfl (any_of HT_.out (by kernel_rfl)) (fun _ _ _ h=>h) (Or.inl ⟨by rfl,?_⟩) ?_ ?_
             rotate_left;(· intro w';go_simp;with_reducible rfl);rotate_left;(· simp only [pL,i64_w,i32_w];rfl)
             refine pure_ (i:=8) (N:=some 21) (v:=?_) (a':=?_) clock_Valid.q9 rfl rfl (any_of HT_.out (by kernel_rfl)) (fun _ _ _ h=>h) (Or.inl ⟨by rfl,?_⟩) ?_ ?_
             rotate_left;(· intro w';go_simp;with_reducible rfl);rotate_left;(· simp only [pL,i64_w,i32_w];rfl)
             refine pure_ (i:=9) (N:=some 22) (v:=?_) (a':=?_) clock_Valid.q10 rfl rfl (any_of HT_.out (by kernel_rfl)) (fun _ _ _ h=>h) (Or.inl ⟨by rfl,?_⟩) ?_ ?_
             rotate_left;(· intro w';go_simp;with_reducible rfl);rotate_left;(· simp only [pL,i64_w,i32_w];rfl)
             refine pure_ (i:=10) (N:=some 23) (v:=?_) (a':=?_) clock_Valid.q11 rfl rfl (any_of HT_.out (by kernel_rfl)) (fun _ _ _ h=>h) (Or.inl ⟨by rfl,?_⟩) ?_ ?_
             rotate_left;(· intro w';go_simp;with_reducible rfl);rotate_left;(· simp only [pL,i64_w,i32_w];rfl)
             refine pure_ (i:=11) (N:=some 24) (v:=?_) (a':=?_) clock_Valid.q12 rfl rfl (any_of HT_.out (by kernel_rfl)) (fun _ _ _ h=>h) (Or.inl ⟨by rfl,?_⟩) ?_ ?_
             rotate_left;(· intro w';go_simp;with_reducible rfl);rotate_left;(· simp only [pL,i64_w,i32_w];rfl)
             refine pure_ (i:=12) (N:=some 25) (v:=?_) (a':=?_) clock_Valid.q13 rfl rfl (any_of HT_.out (by kernel_rfl)) (fun _ _ _ h=>h) (Or.inl ⟨by rfl,?_⟩) ?_ ?_
             rotate_left;(· intro w';go_simp;with_reducible rfl);rotate_left;(· simp only [pL,i64_w,i32_w];rfl)
             refine pure_ (i:=13) (N:=some 26) (v:=undef) (a':=?_) clock_Valid.q14 rfl rfl (any_of HT_.out (by kernel_rfl)) (fun _ _ _ h=>h) (Or.inr ⟨by rfl,rfl⟩) ?_ ?_
             rotate_left
             ·simp only [pL,i64_w,i32_w]
              rfl
             refine pure_ (i:=14) (N:=some 27) (v:=undef) (a':=?_) clock_Valid.q15 rfl rfl (any_of HT_.out (by kernel_rfl)) (fun _ _ _ h=>h) (Or.inr ⟨by rfl,rfl⟩) ?_ ?_
             rotate_left
             ·simp only [pL,i64_w,i32_w]
              rfl
             refine pure_ (i:=15) (N:=some 28) (v:=undef) (a':=?_) clock_Valid.q16 rfl rfl (any_of HT_.out (by kernel_rfl)) (fun _ _ _ h=>h) (Or.inr ⟨by rfl,rfl⟩) ?_ ?_
             rotate_left
             ·simp only [pL,i64_w,i32_w]
              rfl
             refine pure_ (i:=16) (N:=some 29) (v:=?_) (a':=?_) clock_Valid.q17 rfl rfl (any_of HT_.out (by kernel_rfl)) (fun _ _ _ h=>h) (Or.inl ⟨by rfl,?_⟩) ?_ ?_
             rotate_left;(· intro w';go_simp;with_reducible rfl);rotate_left;(· simp only [pL,i64_w,i32_w];rfl)
             refine pure_ (i:=17) (N:=some 30) (v:=?_) (a':=?_) clock_Valid.q18 rfl rfl (any_of HT_.out (by kernel_rfl)) (fun _ _ _ h=>h) (Or.inl ⟨by rfl,?_⟩) ?_ ?_
             rotate_left;(· intro w';go_simp;with_reducible rfl);rotate_left;(· simp only [pL,i64_w,i32_w];rfl)
             refine pure_ (i:=18) (N:=some 31) (v:=?_) (a':=?_) clock_Valid.q19 rfl rfl (any_of HT_.out (by kernel_rfl)) (fun _ _ _ h=>h) (Or.inl ⟨by rfl,?_⟩) ?_ ?_
             rotate_left;(· intro w';go_simp;with_reducible rfl);rotate_left;(· simp only [pL,i64_w,i32_w];rfl)
             refine pure_ (i:=19) (N:=some 32) (v:=?_) (a':=?_) clock_Valid.q20 rfl rfl (any_of HT_.out (by kernel_rfl)) (fun _ _ _ h=>h) (Or.inl ⟨by rfl,?_⟩) ?_ ?_
             rotate_left;(· intro w';go_simp;with_reducible rfl);rotate_left;(· simp only [pL,i64_w,i32_w];rfl)
             refine pure_ (i:=20) (N:=some 33) (v:=?_) (a':=?_) clock_Valid.q21 rfl rfl (any_of HT_.out (by kernel_rfl)) (fun _ _ _ h=>h) (Or.inl ⟨by rfl,?_⟩) ?_ ?_
             rotate_left;(· intro w';go_simp;with_reducible rfl);rotate_left;(· simp only [pL,i64_w,i32_w];rfl)
             refine pure_ (i:=21) (N:=some 34) (v:=?_) (a':=?_) clock_Valid.q22 rfl rfl (any_of HT_.out (by kernel_rfl)) (fun _ _ _ h=>h) (Or.inl ⟨by rfl,?_⟩) ?_ ?_
             rotate_left;(· intro w';go_simp;with_reducible rfl);rotate_left;(· simp only [pL,i64_w,i32_w];rfl)
             refine pure_ (i:=22) (N:=some 35) (v:=?_) (a':=?_) clock_Valid.q23 rfl rfl (any_of HT_.out (by kernel_rfl)) (fun _ _ _ h=>h) (Or.inl ⟨by rfl,?_⟩) ?_ ?_
             rotate_left;(· intro w';go_simp;with_reducible rfl);rotate_left;(· simp only [pL,i64_w,i32_w];rfl)
             refine pure_ (i:=24) (N:=some 37) (v:=?_) (a':=?_) clock_Valid.q35 rfl rfl (any_of HT_.out (by kernel_rfl)) (fun _ _ _ h=>h) (Or.inl ⟨by rfl,?_⟩) ?_ ?_
             rotate_left;(· intro w';go_simp;with_reducible rfl);rotate_left;(· simp only [pL,i64_w,i32_w];rfl)
             refine pure_ (i:=26) (N:=some 39) (v:=?_) (a':=?_) clock_Valid.q36 rfl rfl (any_of HT_.out (by kernel_rfl)) (fun _ _ _ h=>h) (Or.inl ⟨by rfl,?_⟩) ?_ ?_
             rotate_left;(· intro w';go_simp;with_reducible rfl);rotate_left;(· simp only [pL,i64_w,i32_w];rfl)
             refine pure_ (i:=27) (N:=some 40) (v:=?_) (a':=?_) clock_Valid.q37 rfl rfl (any_of HT_.out (by kernel_rfl)) (fun _ _ _ h=>h) (Or.inl ⟨by rfl,?_⟩) ?_ ?_
             rotate_left;(· intro w';go_simp;with_reducible rfl);rotate_left;(· simp only [pL,i64_w,i32_w];rfl)
             refine take_ (i:=23) (N:=some 36) (v:=?_) (a':=?_) clock_Valid.q38 rfl rfl (take_ofW HT_.out HW_.out (by kernel_rfl)) (fun _ _ _ h=>h) (Or.inl ⟨by rfl,?_⟩) hHeld ?_ ?_
             rotate_left;(· rintro w' ⟨s0,s1,s2,s3,s4,s5,s6⟩;go_simp;with_reducible rfl);rotate_left;(· simp only [pL,i64_w,i32_w];rfl)
             refine take_ (i:=25) (N:=some 38) (v:=?_) (a':=?_) clock_Valid.q28 rfl rfl (take_ofW HT_.out HW_.out (by kernel_rfl)) (fun _ _ _ h=>h) (Or.inl ⟨by rfl,?_⟩) hHeld ?_ ?_
             rotate_left;(· rintro w' ⟨s0,s1,s2,s3,s4,s5,s6⟩;go_simp;with_reducible rfl);rotate_left;(· simp only [pL,i64_w,i32_w];rfl)
             refine pure_ (i:=28) (N:=some 41) (v:=?_) (a':=?_) clock_Valid.q29 rfl rfl (any_of HT_.out (by kernel_rfl)) (fun _ _ _ h=>h) (Or.inl ⟨by rfl,?_⟩) ?_ ?_
             rotate_left;(· intro w';go_simp;with_reducible rfl);rotate_left;(· simp only [pL,i64_w,i32_w];rfl)
             refine pure_ (i:=29) (N:=some 42) (v:=?_) (a':=?_) clock_Valid.q30 rfl rfl (any_of HT_.out (by kernel_rfl)) (fun _ _ _ h=>h) (Or.inl ⟨by rfl,?_⟩) ?_ ?_
             rotate_left;(· intro w';go_simp;with_reducible rfl);rotate_left;(· simp only [pL,i64_w,i32_w];rfl)
             refine take_ (i:=30) (N:=some 43) (v:=?_) (a':=?_) clock_Valid.q31 rfl rfl (take_ofW HT_.out HW_.out (by kernel_rfl)) (fun _ _ _ h=>h) (Or.inl ⟨by rfl,?_⟩) hHeld ?_ ?_
             rotate_left;(· rintro w' ⟨s0,s1,s2,s3,s4,s5,s6⟩;go_simp;with_reducible rfl);rotate_left;(· simp only [pL,i64_w,i32_w];rfl)
             refine pure_ (i:=31) (N:=some 44) (v:=?_) (a':=?_) clock_Valid.q32 rfl rfl (any_of HT_.out (by kernel_rfl)) (fun _ _ _ h=>h) (Or.inl ⟨by rfl,?_⟩) ?_ ?_
             rotate_left;(· intro w';go_simp;with_reducible rfl);rotate_left;(· simp only [pL,i64_w,i32_w];rfl)
             refine pure_ (i:=32) (N:=some 45) (v:=?_) (a':=?_) clock_Valid.q33 rfl rfl (any_of HT_.out (by kernel_rfl)) (fun _ _ _ h=>h) (Or.inl ⟨by rfl,?_⟩) ?_ ?_
             rotate_left;(· intro w';go_simp;with_reducible rfl);rotate_left;(· simp only [pL,i64_w,i32_w];rfl)
             refine pure_ (i:=33) (N:=some 46) (v:=?_) (a':=?_) clock_Valid.q34 rfl rfl (any_of HT_.out (by kernel_rfl)) (fun _ _ _ h=>h) (Or.inl ⟨by rfl,?_⟩) ?_ ?_
             rotate_left;(· intro w';go_simp;with_reducible rfl);rotate_left;(· simp only [pL,i64_w,i32_w];rfl)
             refine done_ (done_of HT_.out (by kernel_rfl)) ?_
             try go_wp2
             go_roundg k1
             case measure=>have:=HK1.out;omega
             case rel=>exact ⟨(wrap64 (x8_1+1)),(by first|rfl|(simp;done)|(simp [*];done)),H',⟨by have:=HK1.out;omega⟩,⟨by (with_reducible repeat first|apply kN|apply kD|apply kA);exact BK111.out⟩,⟨by repeat (first|(with_reducible first|exact HB.out|apply bA|apply bN|apply bD|refine bS ?_ GE111.out|refine bS ?_ GE113.out)|exact HB.out)⟩⟩
           ·rw [if_neg c34] at H
            exact absurd H (by simp)
          ·rw [if_neg c33] at H
           exact absurd H (by simp)
         ·rw [if_neg c31] at H
          exact absurd (of_decide_eq_true c5b0) (by omega)
      ·replace c8:=Bool.eq_false_iff.mpr c8
       subst c8
       have H1:(some false)=some r:=by rw [if_neg (show ¬ (false=true) by decide)] at H;exact H
       clear H;have H:=H1;clear H1
       obtain rfl:=Option.some.inj H
       have p112:0≤(x8_1:Int):=of_decide_eq_true (by first|(with_reducible assumption)|assumption)
       have q112:x8_1 < (l0_0.length:Int):=of_decide_eq_true (by first|(with_reducible assumption)|assumption)
       obtain ⟨ad112,e112,hx112_0,hx112_1,hx112_2⟩:=at_T61 HR0_0.out x8_1 p112 q112
       cases e112
       replace hx112_0:=(HB.out.cell (World.block_lt_of_cell? w _ hx112_0)).trans hx112_0
       replace hx112_1:=(HB.out.cell (World.block_lt_of_cell? w _ hx112_1)).trans hx112_1
       replace hx112_2:=(HB.out.cell (World.block_lt_of_cell? w _ hx112_2)).trans hx112_2
       replace p112:=eq_true p112
       replace q112:=eq_true q112
       try go_wp2_with (first|((with_reducible refine gate_dst (N:=4) rfl ?_);refine box_event ?hg (N:=4) ?hd (cs:=#[.int .i64 0, .int .i64 0, .int .i64 0]) (t:=61) ?hr ?_;(case hd=>rfl);(case hg=>rfl);(case hr=>first|(go_simp;done)|(go_simp;rfl));intro gb113 hg w48 hbox hb;have n0_:=Am (blk_below (g:=gb111) (o:=.cells #[.slice (some ad112) l0_0.length c0_0] 24 (0,0)) (by (with_reducible repeat first|apply kN|apply kD|apply kA);exact BK111.out) hb);have n1_:=Am (below_step (by repeat (first|(with_reducible first|exact HB.out|apply bA|apply bN|apply bD|refine bS ?_ GE111.out)|exact HB.out)) hb);have n2_:=Am (hbox);have n3_:=Am ((by rw [hg];exact (below_size (by repeat (first|(with_reducible first|exact HB.out|apply bA|apply bN|apply bD|refine bS ?_ GE111.out)|exact HB.out))):w.heap.size≤gb113));have n4_:=Am ((by rw [hg];exact (below_size (by repeat (first|(with_reducible first|exact HB.out|apply bA|apply bN|apply bD|refine bS ?_ GE111.out)|exact HB.out))):w.heap.size≤gb113));have n5_:=Am ((by rw [hg];exact Nat.ne_of_lt (blk_lt (g:=gb111) (o:=.cells #[.slice (some ad112) l0_0.length c0_0] 24 (0,0)) (by (with_reducible repeat first|apply kN|apply kD|apply kA);exact BK111.out)):gb111≠gb113));have n6_:=Am (n5_.out.symm);clear BK111 HB;have BK111:=n0_;have HB:=n1_;have BK113:=n2_;have GW113:=n3_;have GE113:=n4_;have NB111_113:=n5_;have NB113_111:=n6_;clear n0_ n1_ n2_ n3_ n4_ n5_ n6_ hb hbox hg;have hnb49:=NB113_111.out;have hnc49:=NB111_113.out;have hcz50_0:w48.cell? ⟨gb113,0,none⟩=some (.int .i64 0):=(blk_cell BK113.out 0).trans rfl;have hcz50_1:w48.cell? ⟨gb113,1,none⟩=some (.int .i64 0):=(blk_cell BK113.out 1).trans rfl;have hcz50_2:w48.cell? ⟨gb113,2,none⟩=some (.int .i64 0):=(blk_cell BK113.out 2).trans rfl;have hfz50_0:=blk_frozen BK113.out 0;have hfz50_1:=blk_frozen BK113.out 1;have hfz50_2:=blk_frozen BK113.out 2))
       have n0_:Aside0 ((((w48.setCell ⟨gb113,0,none⟩ (.int .i64 ((rd_T61 l0_0 x8_1).f0))).setCell ⟨gb113,1,none⟩ (.int .i64 ((rd_T61 l0_0 x8_1).f1.f0))).setCell ⟨gb113,2,none⟩ (.int .i64 ((rd_T61 l0_0 x8_1).f1.f1))).heap[gb111]?=some (.cells #[.slice (some ad112) l0_0.length c0_0] 24 (0,0))):=⟨by (with_reducible repeat first|apply kN|apply kD|apply kA);refine blk_far ?_ NB111_113.out _;(with_reducible repeat first|apply kN|apply kD|apply kA);refine blk_far ?_ NB111_113.out _;(with_reducible repeat first|apply kN|apply kD|apply kA);refine blk_far ?_ NB111_113.out _;(with_reducible repeat first|apply kN|apply kD|apply kA);exact BK111.out⟩
       have n1_:Aside0 ((((w48.setCell ⟨gb113,0,none⟩ (.int .i64 ((rd_T61 l0_0 x8_1).f0))).setCell ⟨gb113,1,none⟩ (.int .i64 ((rd_T61 l0_0 x8_1).f1.f0))).setCell ⟨gb113,2,none⟩ (.int .i64 ((rd_T61 l0_0 x8_1).f1.f1))).heap[gb113]?=some (.cells #[.int .i64 ((rd_T61 l0_0 x8_1).f0), .int .i64 ((rd_T61 l0_0 x8_1).f1.f0), .int .i64 ((rd_T61 l0_0 x8_1).f1.f1)] 61 (0,0))):=⟨by (with_reducible repeat first|apply kN|apply kD|apply kA);refine blk_put (cs:=#[.int .i64 ((rd_T61 l0_0 x8_1).f0), .int .i64 ((rd_T61 l0_0 x8_1).f1.f0), .int .i64 0]) ?_ 2 _ rfl;(with_reducible repeat first|apply kN|apply kD|apply kA);refine blk_put (cs:=#[.int .i64 ((rd_T61 l0_0 x8_1).f0), .int .i64 0, .int .i64 0]) ?_ 1 _ rfl;(with_reducible repeat first|apply kN|apply kD|apply kA);refine blk_put (cs:=#[.int .i64 0, .int .i64 0, .int .i64 0]) ?_ 0 _ rfl;(with_reducible repeat first|apply kN|apply kD|apply kA);exact BK113.out⟩
       have n2_:Aside0 (Below w.heap.size w (((w48.setCell ⟨gb113,0,none⟩ (.int .i64 ((rd_T61 l0_0 x8_1).f0))).setCell ⟨gb113,1,none⟩ (.int .i64 ((rd_T61 l0_0 x8_1).f1.f0))).setCell ⟨gb113,2,none⟩ (.int .i64 ((rd_T61 l0_0 x8_1).f1.f1)))):=⟨by repeat (first|(with_reducible first|exact HB.out|apply bA|apply bN|apply bD|refine bS ?_ GE111.out|refine bS ?_ GE113.out)|exact HB.out)⟩
       (try clear BK111);(try clear BK113);(try clear HB)
       generalize (((w48.setCell ⟨gb113,0,none⟩ (.int .i64 ((rd_T61 l0_0 x8_1).f0))).setCell ⟨gb113,1,none⟩ (.int .i64 ((rd_T61 l0_0 x8_1).f1.f0))).setCell ⟨gb113,2,none⟩ (.int .i64 ((rd_T61 l0_0 x8_1).f1.f1)))=w51 at n0_ n1_ n2_ ⊢
       have BK111:=n0_;have BK113:=n1_;have HB:=n2_;clear n0_ n1_ n2_
       have n0_:=Am (kD BK111.out)
       have n1_:=Am (kD BK113.out)
       have n2_:=Am (bD HB.out)
       clear BK111 BK113 HB;have BK111:=n0_;have BK113:=n1_;have HB:=n2_;clear n0_ n1_ n2_
       refine start_ (n:=34) (S:=fun w'=>w'.cell? ⟨gb113,0,none⟩=some (.int .i64 ((rd_T61 l0_0 x8_1).f0))∧w'.cell? ⟨gb113,1,none⟩=some (.int .i64 ((rd_T61 l0_0 x8_1).f1.f0))∧w'.cell? ⟨gb113,2,none⟩=some (.int .i64 ((rd_T61 l0_0 x8_1).f1.f1))) (ds:=[]) clock_Valid.q0 (by kernel_rfl) rfl rfl ⟨(blk_cell BK113.out 0).trans rfl,(blk_cell BK113.out 1).trans rfl,(blk_cell BK113.out 2).trans rfl⟩ (fun hHeld=>?_);refine with_tabW clock_Valid.tab4 clock_Valid.bits4 (fun HT_ HW_=>?_)
       generalize w51.drew=w52 at BK111 BK113 HB hHeld ⊢
       refine pure_ (i:=0) (N:=some 13) (v:=?_) (a':=?_) clock_Valid.q1 rfl rfl (any_of HT_.out (by kernel_rfl)) (fun _ _ _ h=>h) (Or.inl ⟨by rfl,?_⟩) ?_ ?_
       rotate_left;(· intro w';go_simp;with_reducible rfl);rotate_left;(· simp only [pL,i64_w,i32_w];rfl)
       refine take_ (i:=1) (N:=some 14) (v:=?_) (a':=?_) clock_Valid.q2 rfl rfl (take_ofW HT_.out HW_.out (by kernel_rfl)) (fun _ _ _ h=>h) (Or.inl ⟨by rfl,?_⟩) hHeld ?_ ?_
       rotate_left;(· rintro w' ⟨s0,s1,s2⟩;go_simp;with_reducible rfl);rotate_left;(· simp only [pL,i64_w,i32_w];rfl)
       refine one_ (i:=2) (N:=some 15) clock_Valid.q3 rfl rfl (one_of HT_.out (by kernel_rfl)) (by decide) (fun K hK=>?_)
       refine goes_ Try.func30 (by kernel_rfl) rfl #[.agg #[.int .i64 ((rd_T61 l0_0 x8_1).f1.f0), .int .i64 ((rd_T61 l0_0 x8_1).f1.f1)]] (by rfl) rfl rfl (by (try simp only [List.map_toArray,List.map_cons,List.map_nil]);first|done|rfl|(simp only [List.length_drop,List.length_take];rfl)) ?_
       with_reducible refine (clock_usual.calls k1 ((rd_T61 l0_0 x8_1).f1.f0) ((rd_T61 l0_0 x8_1).f1.f1) false _ A7.out).mono ?_
       rintro e w53 ⟨rfl,hb⟩
       refine ⟨_,rfl,?_⟩
       have n0_:=Am (blk_below (g:=gb111) (o:=.cells #[.slice (some ad112) l0_0.length c0_0] 24 (0,0)) (by (with_reducible repeat first|apply kN|apply kD|apply kA);exact BK111.out) hb)
       have n1_:=Am (blk_below (g:=gb113) (o:=.cells #[.int .i64 ((rd_T61 l0_0 x8_1).f0), .int .i64 ((rd_T61 l0_0 x8_1).f1.f0), .int .i64 ((rd_T61 l0_0 x8_1).f1.f1)] 61 (0,0)) (by (with_reducible repeat first|apply kN|apply kD|apply kA);exact BK113.out) hb)
       have n2_:=Am (below_step (by repeat (first|(with_reducible first|exact HB.out|apply bA|apply bN|apply bD|refine bS ?_ GE111.out|refine bS ?_ GE113.out)|exact HB.out)) hb)
       clear BK111 BK113 HB;have BK111:=n0_;have BK113:=n1_;have HB:=n2_;clear n0_ n1_ n2_;(try clear hb)
       refine hK.out _ _ ⟨(blk_cell BK113.out 0).trans rfl,(blk_cell BK113.out 1).trans rfl,(blk_cell BK113.out 2).trans rfl⟩ (fun hHeld=>?_)
       clear hK K
       refine norm_ (a':=?_) ?_ ?_
       rotate_left
       ·show Act.put _ (some 15) _=_
        simp only [pL,i64_w,i32_w]
        rfl
       refine pure_ (i:=3) (N:=some 16) (v:=?_) (a':=?_) clock_Valid.q4 rfl rfl (any_of HT_.out (by kernel_rfl)) (fun _ _ _ h=>h) (Or.inl ⟨by rfl,?_⟩) ?_ ?_
       rotate_left;(· intro w';go_simp;with_reducible rfl);rotate_left;(· simp only [pL,i64_w,i32_w];rfl)
       refine pure_ (i:=4) (N:=some 17) (v:=?_) (a':=?_) clock_Valid.q5 rfl rfl (any_of HT_.out (by kernel_rfl)) (fun _ _ _ h=>h) (Or.inl ⟨by rfl,?_⟩) ?_ ?_
       rotate_left;(· intro w';go_simp;with_reducible rfl);rotate_left;(· simp only [pL,i64_w,i32_w];rfl)
       refine pure_ (i:=5) (N:=some 18) (v:=undef) (a':=?_) clock_Valid.q6 rfl rfl (any_of HT_.out (by kernel_rfl)) (fun _ _ _ h=>h) (Or.inr ⟨by rfl,rfl⟩) ?_ ?_
       rotate_left
       ·simp only [pL,i64_w,i32_w]
        rfl
       refine pure_ (i:=6) (N:=some 19) (v:=undef) (a':=?_) clock_Valid.q7 rfl rfl (any_of HT_.out (by kernel_rfl)) (fun _ _ _ h=>h) (Or.inr ⟨by rfl,rfl⟩) ?_ ?_
       rotate_left
       ·simp only [pL,i64_w,i32_w]
        rfl
       refine pure_ (i:=7) (N:=some 20) (v:=undef) (a':=?_) clock_Valid.q8 rfl rfl (any_of HT_.out (by kernel_rfl)) (fun _ _ _ h=>h) (Or.inr ⟨by rfl,rfl⟩) ?_ ?_
       rotate_left
       ·simp only [pL,i64_w,i32_w]
        rfl
       refine pure_ (i:=8) (N:=some 21) (v:=?_) (a':=?_) clock_Valid.q9 rfl rfl (any_of HT_.out (by kernel_rfl)) (fun _ _ _ h=>h) (Or.inl ⟨by rfl,?_⟩) ?_ ?_
       rotate_left;(· intro w';go_simp;with_reducible rfl);rotate_left;(· simp only [pL,i64_w,i32_w];rfl)
       refine pure_ (i:=9) (N:=some 22) (v:=?_) (a':=?_) clock_Valid.q10 rfl rfl (any_of HT_.out (by kernel_rfl)) (fun _ _ _ h=>h) (Or.inl ⟨by rfl,?_⟩) ?_ ?_
       rotate_left;(· intro w';go_simp;with_reducible rfl);rotate_left;(· simp only [pL,i64_w,i32_w];rfl)
       refine pure_ (i:=10) (N:=some 23) (v:=undef) (a':=?_) clock_Valid.q11 rfl rfl (any_of HT_.out (by kernel_rfl)) (fun _ _ _ h=>h) (Or.inr ⟨by rfl,rfl⟩) ?_ ?_
       rotate_left
       ·simp only [pL,i64_w,i32_w]
        rfl
       refine pure_ (i:=11) (N:=some 24) (v:=undef) (a':=?_) clock_Valid.q12 rfl rfl (any_of HT_.out (by kernel_rfl)) (fun _ _ _ h=>h) (Or.inr ⟨by rfl,rfl⟩) ?_ ?_
       rotate_left
       ·simp only [pL,i64_w,i32_w]
        rfl
       refine pure_ (i:=12) (N:=some 25) (v:=undef) (a':=?_) clock_Valid.q13 rfl rfl (any_of HT_.out (by kernel_rfl)) (fun _ _ _ h=>h) (Or.inr ⟨by rfl,rfl⟩) ?_ ?_
       rotate_left
       ·simp only [pL,i64_w,i32_w]
        rfl
       refine pure_ (i:=13) (N:=some 26) (v:=undef) (a':=?_) clock_Valid.q14 rfl rfl (any_of HT_.out (by kernel_rfl)) (fun _ _ _ h=>h) (Or.inr ⟨by rfl,rfl⟩) ?_ ?_
       rotate_left
       ·simp only [pL,i64_w,i32_w]
        rfl
       refine pure_ (i:=14) (N:=some 27) (v:=undef) (a':=?_) clock_Valid.q15 rfl rfl (any_of HT_.out (by kernel_rfl)) (fun _ _ _ h=>h) (Or.inr ⟨by rfl,rfl⟩) ?_ ?_
       rotate_left
       ·simp only [pL,i64_w,i32_w]
        rfl
       refine pure_ (i:=15) (N:=some 28) (v:=undef) (a':=?_) clock_Valid.q16 rfl rfl (any_of HT_.out (by kernel_rfl)) (fun _ _ _ h=>h) (Or.inr ⟨by rfl,rfl⟩) ?_ ?_
       rotate_left
       ·simp only [pL,i64_w,i32_w]
        rfl
       refine pure_ (i:=16) (N:=some 29) (v:=undef) (a':=?_) clock_Valid.q17 rfl rfl (any_of HT_.out (by kernel_rfl)) (fun _ _ _ h=>h) (Or.inr ⟨by rfl,rfl⟩) ?_ ?_
       rotate_left
       ·simp only [pL,i64_w,i32_w]
        rfl
       refine pure_ (i:=17) (N:=some 30) (v:=?_) (a':=?_) clock_Valid.q18 rfl rfl (any_of HT_.out (by kernel_rfl)) (fun _ _ _ h=>h) (Or.inl ⟨by rfl,?_⟩) ?_ ?_
       rotate_left;(· intro w';go_simp;with_reducible rfl);rotate_left;(· simp only [pL,i64_w,i32_w];rfl)
       refine pure_ (i:=18) (N:=some 31) (v:=?_) (a':=?_) clock_Valid.q19 rfl rfl (any_of HT_.out (by kernel_rfl)) (fun _ _ _ h=>h) (Or.inl ⟨by rfl,?_⟩) ?_ ?_
       rotate_left;(· intro w';go_simp;with_reducible rfl);rotate_left;(· simp only [pL,i64_w,i32_w];rfl)
       refine pure_ (i:=19) (N:=some 32) (v:=undef) (a':=?_) clock_Valid.q20 rfl rfl (any_of HT_.out (by kernel_rfl)) (fun _ _ _ h=>h) (Or.inr ⟨by rfl,rfl⟩) ?_ ?_
       rotate_left
       ·simp only [pL,i64_w,i32_w]
        rfl
       refine pure_ (i:=20) (N:=some 33) (v:=undef) (a':=?_) clock_Valid.q21 rfl rfl (any_of HT_.out (by kernel_rfl)) (fun _ _ _ h=>h) (Or.inr ⟨by rfl,rfl⟩) ?_ ?_
       rotate_left
       ·simp only [pL,i64_w,i32_w]
        rfl
       refine pure_ (i:=21) (N:=some 34) (v:=undef) (a':=?_) clock_Valid.q22 rfl rfl (any_of HT_.out (by kernel_rfl)) (fun _ _ _ h=>h) (Or.inr ⟨by rfl,rfl⟩) ?_ ?_
       rotate_left
       ·simp only [pL,i64_w,i32_w]
        rfl
       refine pure_ (i:=22) (N:=some 35) (v:=undef) (a':=?_) clock_Valid.q23 rfl rfl (any_of HT_.out (by kernel_rfl)) (fun _ _ _ h=>h) (Or.inr ⟨by rfl,rfl⟩) ?_ ?_
       rotate_left
       ·simp only [pL,i64_w,i32_w]
        rfl
       refine pure_ (i:=23) (N:=some 36) (v:=undef) (a':=?_) clock_Valid.q24 rfl rfl (any_of HT_.out (by kernel_rfl)) (fun _ _ _ h=>h) (Or.inr ⟨by rfl,rfl⟩) ?_ ?_
       rotate_left
       ·simp only [pL,i64_w,i32_w]
        rfl
       refine pure_ (i:=24) (N:=some 37) (v:=undef) (a':=?_) clock_Valid.q25 rfl rfl (any_of HT_.out (by kernel_rfl)) (fun _ _ _ h=>h) (Or.inr ⟨by rfl,rfl⟩) ?_ ?_
       rotate_left
       ·simp only [pL,i64_w,i32_w]
        rfl
       refine pure_ (i:=25) (N:=some 38) (v:=undef) (a':=?_) clock_Valid.q26 rfl rfl (any_of HT_.out (by kernel_rfl)) (fun _ _ _ h=>h) (Or.inr ⟨by rfl,rfl⟩) ?_ ?_
       rotate_left
       ·simp only [pL,i64_w,i32_w]
        rfl
       refine pure_ (i:=26) (N:=some 39) (v:=undef) (a':=?_) clock_Valid.q27 rfl rfl (any_of HT_.out (by kernel_rfl)) (fun _ _ _ h=>h) (Or.inr ⟨by rfl,rfl⟩) ?_ ?_
       rotate_left
       ·simp only [pL,i64_w,i32_w]
        rfl
       refine pure_ (i:=27) (N:=some 40) (v:=undef) (a':=?_) clock_Valid.q28 rfl rfl (any_of HT_.out (by kernel_rfl)) (fun _ _ _ h=>h) (Or.inr ⟨by rfl,rfl⟩) ?_ ?_
       rotate_left
       ·simp only [pL,i64_w,i32_w]
        rfl
       refine pure_ (i:=28) (N:=some 41) (v:=undef) (a':=?_) clock_Valid.q29 rfl rfl (any_of HT_.out (by kernel_rfl)) (fun _ _ _ h=>h) (Or.inr ⟨by rfl,rfl⟩) ?_ ?_
       rotate_left
       ·simp only [pL,i64_w,i32_w]
        rfl
       refine pure_ (i:=29) (N:=some 42) (v:=undef) (a':=?_) clock_Valid.q30 rfl rfl (any_of HT_.out (by kernel_rfl)) (fun _ _ _ h=>h) (Or.inr ⟨by rfl,rfl⟩) ?_ ?_
       rotate_left
       ·simp only [pL,i64_w,i32_w]
        rfl
       refine pure_ (i:=30) (N:=some 43) (v:=undef) (a':=?_) clock_Valid.q31 rfl rfl (any_of HT_.out (by kernel_rfl)) (fun _ _ _ h=>h) (Or.inr ⟨by rfl,rfl⟩) ?_ ?_
       rotate_left
       ·simp only [pL,i64_w,i32_w]
        rfl
       refine pure_ (i:=31) (N:=some 44) (v:=undef) (a':=?_) clock_Valid.q32 rfl rfl (any_of HT_.out (by kernel_rfl)) (fun _ _ _ h=>h) (Or.inr ⟨by rfl,rfl⟩) ?_ ?_
       rotate_left
       ·simp only [pL,i64_w,i32_w]
        rfl
       refine pure_ (i:=32) (N:=some 45) (v:=undef) (a':=?_) clock_Valid.q33 rfl rfl (any_of HT_.out (by kernel_rfl)) (fun _ _ _ h=>h) (Or.inr ⟨by rfl,rfl⟩) ?_ ?_
       rotate_left
       ·simp only [pL,i64_w,i32_w]
        rfl
       refine pure_ (i:=33) (N:=some 46) (v:=?_) (a':=?_) clock_Valid.q34 rfl rfl (any_of HT_.out (by kernel_rfl)) (fun _ _ _ h=>h) (Or.inl ⟨by rfl,?_⟩) ?_ ?_
       rotate_left;(· intro w';go_simp;with_reducible rfl);rotate_left;(· simp only [pL,i64_w,i32_w];rfl)
       refine done_ (done_of HT_.out (by kernel_rfl)) ?_
       try go_wp2
       go_ret
       exact ⟨by first|rfl|(simp [errW_none,errW_some] <;> rfl)|(simp [*,errW_none,errW_some] <;> rfl),by repeat (first|(with_reducible first|exact HB.out|apply bA|apply bN|apply bD|refine bS ?_ GE111.out|refine bS ?_ GE113.out)|exact HB.out)⟩
     ·rw [if_neg c6] at H
      exact absurd H (by simp)
    ·rw [if_neg c5] at H
     exact absurd H (by simp)
   ·rw [if_neg c4] at H
    have c4b0:decide (x8_1 < (l0_0.length:Int))=false:=decide_eq_false c4
    clear c4
    by_cases c54:(l0_0.length:Int) ≥ 1
    ·rw [if_pos c54] at H
     have c54b0:decide (1≤(l0_0.length:Int))=true:=decide_eq_true c54
     have c54b1:decide (1≤l0_0.length)=true:=decide_eq_true (by omega)
     clear c54
     obtain rfl:=Option.some.inj H
     have hcz55_0:wr.cell? ⟨gb111,0,none⟩=some (.slice A0_0 l0_0.length c0_0):=(blk_cell BK111.out 0).trans rfl
     have hfz55_0:=blk_frozen BK111.out 0
     go_wp2
     go_ret
     exact ⟨by first|rfl|(simp [errW_none,errW_some] <;> rfl)|(simp [*,errW_none,errW_some] <;> rfl),by repeat (first|(with_reducible first|exact HB.out|apply bA|apply bN|apply bD|refine bS ?_ GE111.out)|exact HB.out)⟩
    ·rw [if_neg c54] at H
     have c54b0:decide (1≤(l0_0.length:Int))=false:=decide_eq_false c54
     have c54b1:decide (1≤l0_0.length)=false:=decide_eq_false (by omega)
     clear c54
     obtain rfl:=Option.some.inj H
     have hcz56_0:wr.cell? ⟨gb111,0,none⟩=some (.slice A0_0 l0_0.length c0_0):=(blk_cell BK111.out 0).trans rfl
     have hfz56_0:=blk_frozen BK111.out 0
     go_wp2
     go_ret
     exact ⟨by first|rfl|(simp [errW_none,errW_some] <;> rfl)|(simp [*,errW_none,errW_some] <;> rfl),by repeat (first|(with_reducible first|exact HB.out|apply bA|apply bN|apply bD|refine bS ?_ GE111.out)|exact HB.out)⟩

end Go.Proofs.Ythnmmiofhjbkeaa.PA
